/-
  Texts that the law stands on, part 5: E6, E7, E9, EG, KD, KE, L0, E8, EH, EI, EK, EV, H6, H7.
-/
import Derived.Test.YtakijgpoaeggnaaChainOkB4
/-
  Contracts: an edit in place, by the program: the kinds that turn one surface.
-/
set_option linter.unusedVariables false
namespace Go.Proofs.Ytakijgpoaeggnaa
open Go Sx
attribute [local irreducible] Exit.then Exit.inBlock bodyPost tcells OInts OElems
/-- where the surfaces lie, taken apart -/
structure EdAt (s : DScene) (k : Nat) (T : List (ETri DSurf)) (b0 cap : Nat) (r : List Value) : Prop where
  map : T.map (·.1) = s.ss
  kin : k < T.length
  own : ∀ t ∈ T, eSurf.own t.2.1 t.1 t.2.2
  len : (tcells eSurf T ++ r).length = cap * 11
  cap1 : T.length ≤ cap
  cap2 : cap ≤ maxLen
abbrev EdIn (bo b0 cap : Nat) (s : DScene) (T : List (ETri DSurf)) (r : List Value) (G : SPiece) : SPiece := EdPre bo s (.slice (some ⟨b0, 0, none⟩) T.length cap) ([(b0, srow (tcells eSurf T ++ r) 62)] ++ (tpiece T ++ G))
end Go.Proofs.Ytakijgpoaeggnaa
/-
  Contracts: an edit in place, by the program: the kinds that change a buffer or the order; all kinds together.
-/
set_option linter.unusedVariables false
namespace Go.Proofs.Ytakijgpoaeggnaa
open Go Sx
attribute [local irreducible] Exit.then Exit.inBlock bodyPost tcells OInts OElems
end Go.Proofs.Ytakijgpoaeggnaa
/-
  Contracts: an edit in place, by the program: the kinds that change the order.
-/
set_option linter.unusedVariables false
namespace Go.Proofs.Ytakijgpoaeggnaa
open Go Sx
attribute [local irreducible] Exit.then Exit.inBlock bodyPost tcells OInts OElems
end Go.Proofs.Ytakijgpoaeggnaa
/-
  Contract: an edit in place, by the program: a surface that goes below all.
-/
set_option linter.unusedVariables false
namespace Go.Proofs.Ytakijgpoaeggnaa
open Go Sx
attribute [local irreducible] Exit.then Exit.inBlock bodyPost tcells OInts OElems
end Go.Proofs.Ytakijgpoaeggnaa
/-
  Contracts: what the laws draw from their bytes. Only what is sure of the result is said.
-/
set_option linter.unusedVariables false
namespace Go.Proofs.Ytakijgpoaeggnaa
open Go Sx
attribute [local irreducible] Exit.then Exit.inBlock bodyPost
/-- the cursor: its bytes, its place, its mixed number -/
abbrev curP (bs : Value) (ci h : Int) (cb : Nat) : SPiece := [(cb, srow [bs, .int .i64 ci, .int .i64 h] 157)]
/-- the bytes are read beside the cursor -/
def NAp (cb : Nat) (bs : Value) (l : List Int) : Prop := 0 < l.length → (baseOf bs).1 ≠ cb
structure CDraw (cb : Nat) (bs : Value) (l : List Int) (w : World) : Prop where
  rd : RBytes w bs l
  ap : NAp cb bs l
/-- a draw: the cursor goes on, the value and the new memory are as Φ says -/
structure SDraw (P : Program) (f : FuncId) (args : Array Value) (cb : Nat) (bs : Value) (l : List Int) (Φ : Value → SPiece → Prop) (w : World) : Prop where
  run : ∀ (ci ch : Int), (0 ≤ ci ∧ ci ≤ l.length) → Holds w (curP bs ci ch cb) → (curP bs ci ch cb).keys.Nodup → SYieldsG P f args (curP bs ci ch cb) (fun u H' F => (∃ ci' ch' : Int, H' = curP bs ci' ch' cb ∧ 0 ≤ ci' ∧ ci' ≤ l.length) ∧ Φ u F) w
section
variable {P : Program} {n : Nat} {lo : SMut} {s : World} {ops : Array Oper} {Q : Exit → Act → World → Prop} {E : SEnv} {L : SHeap} {d : Nat} {ty : TypeId} {pos : String} {after : Array Edge} {rest : List Oper}
end
def isInt (lo hi : Int) (v : Value) : Prop := ∃ x, v = .int .i64 x ∧ lo ≤ x ∧ x ≤ hi
def isBool (v : Value) : Prop := ∃ x, v = .bool x
def xorI (i j : Int) : Int := IntKind.i64.wrap ((BitVec.ofInt 64 i ^^^ BitVec.ofInt 64 j).toNat : Int)
end Go.Proofs.Ytakijgpoaeggnaa
/-
  Contracts: pixels, images, modes that are drawn.
-/
set_option linter.unusedVariables false
namespace Go.Proofs.Ytakijgpoaeggnaa
open Go Sx
attribute [local irreducible] Exit.then Exit.inBlock bodyPost
theorem c_snewImage (p q r : Int) (W : World) : SYieldsF Try.prog 128 #[.int .i64 p, .int .i64 q, .int .i64 r] (fun u H => OImg u (newImage p q r) H) W := by
  by_cases hok : (1 ≤ p ∧ p ≤ 16) ∧ (1 ≤ q ∧ q ≤ 16) ∧ pixP r
  · have hwh := side_mul (w := p) (h := q) ⟨hok.1.1, hok.1.2, hok.2.1.1, hok.2.1.2⟩
    have hp2 := hok.2.2
    unfold pixP at hp2
    (first | apply SYields.mk | apply SYieldsF.mk | skip); refine s_enter Try.func128 rfl Try.ntmps128 rfl ?_
    repeat' (first | exact rfl | (apply kO; (first | exact ov_pure rfl | (apply kOBin; (first | exact aBin)) | (apply kOCall; (first | (apply kCallF; (first | exact (ov_call rfl (fun w hw => c_l01In _ _ _ w)) | exact (ov_call rfl (fun w hw => c_l04Pixel _ w)))) | (apply kCallB; (first | exact aBlt | exact aLenR)))) | (apply kOLoad; (first | exact aLdF | exact aLdR)) | exact ov_fieldAddr rfl | (apply kOIdx; (first | exact aIdx)) | exact aRest | exact aNew | exact (ov_field1 (ft := 37) rfl rfl rfl rfl))) | (refine kN ?_; (first | (refine kCall ?_; (first | (refine kWApp ?_; (refine s_appendI _ _ (ys := [_]) rfl rfl (by assumption) gpA gpA rfl rfl (by rw [List.length_replicate]; omega) (by decide) rfl (fun v' H' hv' => ?_); have f1 := hv'.form; obtain ⟨ua, uc, rfl⟩ := f1)) | apply s_step)) | (refine kStore ?_; (first | refine s_store1 _ rfl rfl gpA rfl (by rfl) ?_ | refine s_storeS _ rfl rfl gpA rfl rfl (by rfl) ?_ | refine s_storeS _ rfl rfl gpA rfl (ones_img oiA) (by rfl) ?_)) | refine s_boxS rfl rfl (fun b hb => ?_) | refine s_allocS rfl (fun b hb => ?_) | refine s_box1 rfl rfl rfl (fun b hb => ?_) | refine s_alloc1 rfl rfl (fun b hb => ?_) | refine s_buildSlice0 rfl (fun b hb => ?_) | refine s_buildSlice rfl rfl rfl rfl rfl (fun b hb => ?_) | apply s_step)) | (refine kG ?_; (first | refine s_gyes rfl rfl rfl ?_ | refine s_gno rfl rfl rfl rfl rfl ?_ | ((first | refine s_split_d rfl rfl (fun h => ?_) (fun h => ?_) | refine s_split_n rfl rfl (fun h => ?_) (fun h => ?_)) <;> (try (first | contradiction | (exfalso; omega)))) | refine s_split_nb rfl rfl (fun h => ?_) (fun h => ?_) | refine s_split rfl rfl (fun h => ?_) (fun h => ?_))) | refine l_then ?_ | (refine kC ?_; (first | (refine c_loopV (ι := Nat × Value × SPiece) (fun j => (j.1 : Int) ≤ p * q ∧ OInts 3 j.2.1 (List.replicate j.1 r) j.2.2) (fun j => [(8, .int .i64 (j.1 : Int))]) (fun j => [[(_, srow [.int .i64 p, .int .i64 q, j.2.1] 39)], j.2.2, _]) (fun j => (p * q).toNat - j.1) (0, _, []) ⟨by dsimp only; omega, OInts.nil _⟩ rfl (fun _ => rfl) ⟨rfl, trivial⟩ (fun w hw => hw.nil1) (fun j hj => ?_); obtain ⟨hj1, hj2⟩ := hj) | refine c_seq ?_ | refine c_regionN rfl ?_ | refine c_ret ?_ | (refine kCond ?_; (first | refine c_cond_t rfl ?_ | refine c_cond_f rfl ?_ | ((first | refine c_cond_d rfl (fun h => ?_) (fun h => ?_) | refine c_cond_n rfl (fun h => ?_) (fun h => ?_)) <;> (try (first | contradiction | (exfalso; omega)))) | refine c_cond_nb rfl (fun h => ?_) (fun h => ?_) | refine c_cond rfl (fun h => ?_) (fun h => ?_))) | refine c_block ?_ | refine c_skip ?_ | refine c_exit ?_ | refine c_regionQN rfl rfl (by decide +kernel) ?_)) | apply s_stepQ | (refine kQG ?_; (first | refine s_gyesQ rfl rfl rfl ?_ | refine s_gnoQ rfl rfl rfl rfl rfl ?_ | ((first | refine s_splitQ_d rfl rfl (fun h => ?_) (fun h => ?_) | refine s_splitQ_n rfl rfl (fun h => ?_) (fun h => ?_)) <;> (try (first | contradiction | (exfalso; omega)))) | refine s_splitQ_nb rfl rfl (fun h => ?_) (fun h => ?_) | refine s_splitQ rfl rfl (fun h => ?_) (fun h => ?_))) | refine lQ_then ?_ | refine lQ_ends ?_ | (refine kE ?_; (first | refine e_then_r ?_ | refine e_block_r ?_ | refine e_then_n ?_ | refine e_then_x ?_ | refine e_block_n ?_ | refine e_block_x ?_ | refine e_block_y rfl ?_)) | refine l_ends ?_)
    · refine e_round (j.1 + 1, _, H') ⟨by dsimp only; omega, by dsimp only; rw [List.replicate_succ']; exact hv'⟩ ⟨rfl, (by repeat' first | exact trivial | refine ⟨rfl, ?_⟩)⟩ (fun w hw => hw.sub (by repeat' first | exact List.nil_sublist _ | exact List.Sublist.slnil | refine List.Sublist.cons_cons _ ?_ | refine List.Sublist.cons _ ?_)) (by dsimp only; omega)
    · rw [show j.1 = (p * q).toNat by omega] at hj2
      refine s_leaveSF rfl rfl rfl fwA (fun w hw => ⟨_, _, rfl, ?_, hw.toFresh (H := j.2.2) gpA⟩)
      unfold newImage
      rw [if_pos hok]
      exact ⟨_, rfl, hj2⟩
  · have hok2 := hok
    unfold pixP at hok2
    (first | apply SYields.mk | apply SYieldsF.mk | skip); refine s_enter Try.func128 rfl Try.ntmps128 rfl ?_
    repeat' (first | exact rfl | (apply kO; (first | exact ov_pure rfl | (apply kOBin; (first | exact aBin)) | (apply kOCall; (first | (apply kCallF; (first | exact (ov_call rfl (fun w hw => c_l01In _ _ _ w)) | exact (ov_call rfl (fun w hw => c_l04Pixel _ w)))) | (apply kCallB; (first | exact aBlt | exact aLenR)))) | (apply kOLoad; (first | exact aLdF | exact aLdR)) | exact ov_fieldAddr rfl | (apply kOIdx; (first | exact aIdx)) | exact aRest | exact aNew | exact (ov_field1 (ft := 37) rfl rfl rfl rfl))) | (refine kN ?_; (first | (refine kStore ?_; (first | refine s_store1 _ rfl rfl gpA rfl (by rfl) ?_ | refine s_storeS _ rfl rfl gpA rfl rfl (by rfl) ?_ | refine s_storeS _ rfl rfl gpA rfl (ones_img oiA) (by rfl) ?_)) | refine s_boxS rfl rfl (fun b hb => ?_) | refine s_allocS rfl (fun b hb => ?_) | refine s_box1 rfl rfl rfl (fun b hb => ?_) | refine s_alloc1 rfl rfl (fun b hb => ?_) | refine s_buildSlice0 rfl (fun b hb => ?_) | refine s_buildSlice rfl rfl rfl rfl rfl (fun b hb => ?_) | apply s_step)) | (refine kG ?_; (first | refine s_gyes rfl rfl rfl ?_ | refine s_gno rfl rfl rfl rfl rfl ?_ | ((first | refine s_split_d rfl rfl (fun h => ?_) (fun h => ?_) | refine s_split_n rfl rfl (fun h => ?_) (fun h => ?_)) <;> (try (first | contradiction | (exfalso; omega)))) | refine s_split_nb rfl rfl (fun h => ?_) (fun h => ?_) | refine s_split rfl rfl (fun h => ?_) (fun h => ?_))) | refine l_then ?_ | (refine kC ?_; (first | refine c_seq ?_ | refine c_regionN rfl ?_ | refine c_ret ?_ | (refine kCond ?_; (first | refine c_cond_t rfl ?_ | refine c_cond_f rfl ?_ | ((first | refine c_cond_d rfl (fun h => ?_) (fun h => ?_) | refine c_cond_n rfl (fun h => ?_) (fun h => ?_)) <;> (try (first | contradiction | (exfalso; omega)))) | refine c_cond_nb rfl (fun h => ?_) (fun h => ?_) | refine c_cond rfl (fun h => ?_) (fun h => ?_))) | refine c_block ?_ | refine c_skip ?_ | refine c_exit ?_ | refine c_regionQN rfl rfl (by decide +kernel) ?_)) | apply s_stepQ | (refine kQG ?_; (first | refine s_gyesQ rfl rfl rfl ?_ | refine s_gnoQ rfl rfl rfl rfl rfl ?_ | ((first | refine s_splitQ_d rfl rfl (fun h => ?_) (fun h => ?_) | refine s_splitQ_n rfl rfl (fun h => ?_) (fun h => ?_)) <;> (try (first | contradiction | (exfalso; omega)))) | refine s_splitQ_nb rfl rfl (fun h => ?_) (fun h => ?_) | refine s_splitQ rfl rfl (fun h => ?_) (fun h => ?_))) | refine lQ_then ?_ | refine lQ_ends ?_ | (refine kE ?_; (first | refine e_then_r ?_ | refine e_block_r ?_ | refine e_then_n ?_ | refine e_then_x ?_ | refine e_block_n ?_ | refine e_block_x ?_ | refine e_block_y rfl ?_)) | refine l_ends ?_)
    all_goals (refine kE ?_; refine s_leaveSF rfl rfl rfl fwA (fun w hw => ?_))
    all_goals (unfold newImage; rw [if_neg hok]; exact ⟨_, [], rfl, ⟨_, rfl, OInts.nil _⟩, hw.toFresh0⟩)
theorem newImage_ok {p q r : Int} (hp : 1 ≤ p ∧ p ≤ 16) (hq : 1 ≤ q ∧ q ≤ 16) (hr : pixP r) : (newImage p q r).ok ∧ (newImage p q r).W = p ∧ (newImage p q r).H = q := by
  have hwh := side_mul (w := p) (h := q) ⟨hp.1, hp.2, hq.1, hq.2⟩
  unfold newImage
  rw [if_pos ⟨hp, hq, hr⟩]
  exact ⟨⟨hp, hq, by dsimp only; rw [List.length_replicate]; omega, inR_replicate _ hr⟩, rfl, rfl⟩
/-- some valid image of at most m by m pixels -/
def someImg (m : Int) (u : Value) (H : SPiece) : Prop := ∃ i : DImg, i.ok ∧ i.W ≤ m ∧ i.H ≤ m ∧ OImg u i H
end Go.Proofs.Ytakijgpoaeggnaa
/-
  A result that is an image and a number.
-/
set_option linter.unusedVariables false
namespace Go.Proofs.Ytakijgpoaeggnaa
open Go Sx
/-- an image and a number -/
def OImgN (u : Value) (i : DImg) (n : Int) (H : SPiece) : Prop := ∃ d, u = .tuple #[vImg i d, .int .i64 n] ∧ OInts 3 d i.data H
theorem _root_.Sx.SRes.cellG {P : Program} {E : SEnv} {L : SHeap} {t : Tmp} {T : TypeId} {b : Nat} {l : List Value} {td : TypeDesc} {z : Value} {k by_ : Nat} {r : List ResultVar} {vs : List Value} [hu : SUnd P T td] [hi : SInf P T z k by_]
    (ht : slook E t = some (.pointer (some ⟨b, 0, none⟩))) (hd : sisRow td = true) (hf : FindW L b k l) (h : SRes P E L r vs) : SRes P E L (.cell t T :: r) (.agg l.toArray :: vs) := by
  obtain ⟨⟨U, h1⟩, h2⟩ := hf
  exact .cell ht hd h1 h2 h
/-! ### plain: the loads -/
end Go.Proofs.Ytakijgpoaeggnaa
/-
  Rules for an edit of a scene by the reference: rows of structs that share what they hold.
-/
set_option linter.unusedVariables false
namespace Go.Proofs.Ytakijgpoaeggnaa
open Go Sx
attribute [local irreducible] Exit.then Exit.inBlock bodyPost tcells OInts OElems
/-- a scene and an answer -/
def OSceneB (u : Value) (s : DScene) (q : Bool) (H : SPiece) : Prop := ∃ v, u = .tuple #[vScene s v, .bool q] ∧ OElems eSurf 62 v s.ss H
section
variable {P : Program} {n : Nat} {lo : SMut} {s : World} {ops : Array Oper} {Q : Exit → Act → World → Prop} {E : SEnv} {L : SHeap} {d : Nat} {ty : TypeId} {pos : String} {after : Array Edge} {rest : List Oper}
end
end Go.Proofs.Ytakijgpoaeggnaa
/-
  Contract: an edit in place, by the program: all kinds.
-/
set_option linter.unusedVariables false
namespace Go.Proofs.Ytakijgpoaeggnaa
open Go Sx
attribute [local irreducible] Exit.then Exit.inBlock bodyPost tcells OInts OElems
end Go.Proofs.Ytakijgpoaeggnaa
/-
  Contract: an edit of a scene, by the program.
-/
set_option linter.unusedVariables false
namespace Go.Proofs.Ytakijgpoaeggnaa
open Go Sx
attribute [local irreducible] Exit.then Exit.inBlock bodyPost tcells OInts OElems
section
variable {P : Program} {n : Nat} {lo : SMut} {s : World} {ops : Array Oper} {Q : Exit → Act → World → Prop} {E : SEnv} {L : SHeap} {rest : List Oper}
end
end Go.Proofs.Ytakijgpoaeggnaa
/-
  Contracts: several edits, by the program.
-/
set_option linter.unusedVariables false
namespace Sx
end Sx
namespace Go.Proofs.Ytakijgpoaeggnaa
open Go Sx
attribute [local irreducible] Exit.then Exit.inBlock bodyPost tcells OInts OElems
/-- a scene and a number -/
def OSceneN (u : Value) (s : DScene) (q : Int) (H : SPiece) : Prop := ∃ v, u = .tuple #[vScene s v, .int .i64 q] ∧ OElems eSurf 62 v s.ss H
end Go.Proofs.Ytakijgpoaeggnaa
/-
  What the laws on edits need: lists of edits as arguments; how long a scene is after edits.
-/
set_option linter.unusedVariables false
namespace Go.Proofs.Ytakijgpoaeggnaa
open Go Sx Go.ChangeShapes Go.WideShapes Go.ChangeAt Go.RowKit
theorem scene_len2 {s : DScene} (h : s.ok) : surfsLen s.ss ≤ 1542 := by
  have h6 := h.2.2.2.1
  unfold surfsLen
  have : ∀ n, n ≤ s.ss.length → sumTo (fun i => (s.ss.getD i default).buf.data.length) n ≤ n * 256 := by
    intro n
    induction n with
    | zero => intro _; exact Nat.le_refl _
    | succ n ih =>
      intro hn
      have h1 := ih (by omega)
      have h2 := (getD_ok h (show n < s.ss.length by omega)).2.2.2.2.2.2.len
      show sumTo _ n + (s.ss.getD n default).buf.data.length ≤ _
      omega
  have := this _ (Nat.le_refl _)
  omega
end Go.Proofs.Ytakijgpoaeggnaa
/-
  Contracts: a new chain of buffers, by both.
-/
set_option linter.unusedVariables false
namespace Go.Proofs.Ytakijgpoaeggnaa
open Go Sx
attribute [local irreducible] Exit.then Exit.inBlock bodyPost OVs OInts OElems DChain.ok Sx.newImage DScene.ok
def OChainB (u : Value) (c : DChain) (q : Bool) (H : SPiece) : Prop := ∃ v, u = .tuple #[v, .bool q] ∧ OChain v c H
set_option maxHeartbeats 4000000 in
theorem c_inewChain (s : DScene) (n : Int) (v : Value) (W : World) (hv : RS eSurf W v s.ss) (hl : surfsLen s.ss ≤ 2000000) : SYieldsF Try.prog 59 #[vScene s v, .int .i64 n] (fun u H => OChainB u (newChain s n) (decide (s.ok ∧ (1 ≤ n ∧ n ≤ 3))) H) W := by
  by_cases hok : s.ok ∧ (1 ≤ n ∧ n ≤ 3)
  · have hn : newChain s n = ⟨List.replicate n.toNat (newImage s.W s.H s.Back), List.replicate n.toNat 0, [], s⟩ := by unfold newChain; rw [if_pos hok]
    have hsc := hok.1
    unfold DScene.ok at hsc
    have hpx : pixP s.Back := hsc.2.2.1.1
    have hni : newImage s.W s.H s.Back = ⟨s.W, s.H, List.replicate (s.W * s.H).toNat s.Back⟩ := by unfold newImage; rw [if_pos ⟨hsc.1, hsc.2.1, hpx⟩]
    rw [hn, decide_eq_true hok]
    (first | apply SYields.mk | apply SYieldsF.mk | skip); refine s_enter Try.func59 rfl Try.ntmps59 rfl ?_
    repeat' (first | exact rfl | (apply kO; (first | exact ov_pure rfl | (apply kOBin; (first | exact aBin)) | (apply kOCall; (first | (apply kCallF; (first | exact (ov_call rfl (fun w hw => c_isceneOk s _ w (reA hw))) | exact (ov_call rfl (fun w hw => c_within _ _ _ w)))) | (apply kCallB; (first | exact aBlt | exact aLenR)))) | (apply kOLoad; (first | exact aLdF | exact aLdR)) | exact ov_fieldAddr rfl | (apply kOIdx; (first | exact aIdx)) | exact aRest | exact aNew | exact (ov_field1 (ft := 37) rfl rfl rfl rfl))) | (refine kN ?_; (first | (refine kCall ?_; (first | (refine kWFn 101 ?_; (refine s_callF (fun u H => OScene u s H) rfl (fun w hw => c_copyScene s _ w (hv.keep (hw.cells rfl)) hl) rfl (fun u Hs hus => ?_); obtain ⟨v6, rfl, hus⟩ := hus; have f1 := hus.form; obtain ⟨_, _, rfl⟩ := f1)) | (refine kWFn 130 ?_; (refine s_callF (fun u H => OImg u (newImage s.W s.H s.Back) H) rfl (fun w hw => by rw [hni]; exact c_inewImage s.W s.H s.Back w hsc.1 hsc.2.1 hpx) rfl (fun u H3 hu3 => ?_); obtain ⟨d', rfl, hu3⟩ := hu3; have f1 := hu3.form; obtain ⟨_, _, rfl⟩ := f1)) | (refine kWApp ?_; (refine s_appendE _ _ _ (el := eImg) (a := newImage s.W s.H s.Back) rfl rfl (by assumption) gpA gpA (show eImg.own _ _ _ from hu3) gpA rfl rfl (eImg_ones (OInts.one (by assumption))) (by rw [scells_eq]; rfl) (by decide) (by rw [List.length_replicate]; omega) (by decide) rfl (fun v4 H4 hv4 => ?_); have f1 := hv4.form; obtain ⟨ua, uc, rfl⟩ := f1)) | (refine kWApp ?_; (refine s_appendI _ _ (ys := [_]) rfl rfl (by assumption) gpA gpA rfl rfl (by rw [List.length_replicate]; omega) (by decide) rfl (fun v5 H5 hv5 => ?_); have f1 := hv5.form; obtain ⟨va, vc, rfl⟩ := f1)) | apply s_step)) | (refine kStore ?_; (first | (refine s_storeS _ rfl rfl gpA rfl (ones_cons (OElems.one (by assumption)) (ones_cons (OInts.one (by assumption)) (ones_cons rfl (ones_cons rfl (ones_cons rfl (ones_cons rfl (ones_cons (OElems.one (by assumption)) rfl))))))) (by rfl) ?_) | (refine s_storeS _ rfl rfl gpA rfl (ones_cons rfl (ones_cons rfl (ones_cons rfl (ones_cons rfl (ones_cons rfl (ones_cons rfl (ones_cons (OElems.one (by assumption)) rfl))))))) (by rfl) ?_) | refine s_store1 _ rfl rfl gpA rfl (by rfl) ?_ | refine s_storeS _ rfl rfl gpA rfl rfl (by rfl) ?_ | refine s_storeS _ rfl rfl gpA rfl (ones_img oiA) (by rfl) ?_)) | refine s_boxS rfl rfl (fun b hb => ?_) | refine s_allocS rfl (fun b hb => ?_) | refine s_box1 rfl rfl rfl (fun b hb => ?_) | refine s_alloc1 rfl rfl (fun b hb => ?_) | refine s_buildSlice0 rfl (fun b hb => ?_) | refine s_buildSlice rfl rfl rfl rfl rfl (fun b hb => ?_) | apply s_step)) | (refine kG ?_; (first | refine s_gyes rfl rfl rfl ?_ | refine s_gno rfl rfl rfl rfl rfl ?_ | ((first | refine s_split_d rfl rfl (fun h => ?_) (fun h => ?_) | refine s_split_n rfl rfl (fun h => ?_) (fun h => ?_)) <;> (try (first | contradiction | (exfalso; omega) | (exfalso; exact absurd hok.1 (by assumption)) | (exfalso; (exfalso; omega))))) | refine s_split_nb rfl rfl (fun h => ?_) (fun h => ?_) | refine s_split rfl rfl (fun h => ?_) (fun h => ?_))) | (refine kS ?_; (first | refine h_exec rfl ?_ | refine h_take_nil rfl rfl rfl ?_ | refine h_take_pick rfl rfl rfl ?_ | refine h_nil ?_ | refine h_alt ?_ ?_ | apply h_take)) | (refine kBack ?_; (first | refine h_back_last rfl ?_ | refine h_backN rfl subA ?_)) | refine l_then ?_ | (refine kC ?_; (first | (refine kReg 6 ?_; refine c_regionSubN (SPlan.take 0 (SPlan.take 1 (SPlan.take 2 (SPlan.take 3 (SPlan.take 4 (SPlan.take 5 (SPlan.take 6 (SPlan.take 7 (SPlan.run 8 (SPlan.run 9 (SPlan.run 10 (SPlan.take 11 (SPlan.run 12 SPlan.done))))))))))))) (some 12) [true, true, true, true, false, true, true] rfl rfl rfl (by decide +kernel) ?_) | (refine kLoopR 5 ?_; refine c_loopV (ι := Nat × (Value × SPiece) × (Value × SPiece)) (fun j => (j.1 : Int) ≤ n ∧ OElems eImg 39 j.2.1.1 (List.replicate j.1 (newImage s.W s.H s.Back)) j.2.1.2 ∧ OInts 3 j.2.2.1 (List.replicate j.1 0) j.2.2.2) (fun j => [(20, .int .i64 (j.1 : Int))]) (fun j => [[(_, srow [j.2.1.1, j.2.2.1, .slice none 0 0, .int .i64 s.W, .int .i64 s.H, .int .i64 s.Back, _] 90)], _, [], j.2.2.2, j.2.1.2, _, _]) (fun j => n.toNat - j.1) (0, (_, []), (_, [])) ⟨by dsimp only; omega, OElems.nil, OInts.nil _⟩ rfl (fun _ => rfl) ⟨rfl, trivial⟩ (fun w hw => hw.nil2.nil2.nil2) (fun j hj => ?_); obtain ⟨hj1, hj2, hj3⟩ := hj; have f2 := hj2.form; obtain ⟨wa, wc, ej⟩ := f2; have f3 := hj3.form; obtain ⟨wb, wd, ek⟩ := f3) | refine c_seq ?_ | refine c_regionN rfl ?_ | refine c_ret ?_ | (refine kCond ?_; (first | refine c_cond_t rfl ?_ | refine c_cond_f rfl ?_ | ((first | refine c_cond_d rfl (fun h => ?_) (fun h => ?_) | refine c_cond_n rfl (fun h => ?_) (fun h => ?_)) <;> (try (first | contradiction | (exfalso; omega) | (exfalso; exact absurd hok.1 (by assumption)) | (exfalso; (exfalso; omega))))) | refine c_cond_nb rfl (fun h => ?_) (fun h => ?_) | refine c_cond rfl (fun h => ?_) (fun h => ?_))) | refine c_block ?_ | refine c_skip ?_ | refine c_exit ?_ | refine c_regionQN rfl rfl (by decide +kernel) ?_)) | apply s_stepQ | (refine kQG ?_; (first | refine s_gyesQ rfl rfl rfl ?_ | refine s_gnoQ rfl rfl rfl rfl rfl ?_ | ((first | refine s_splitQ_d rfl rfl (fun h => ?_) (fun h => ?_) | refine s_splitQ_n rfl rfl (fun h => ?_) (fun h => ?_)) <;> (try (first | contradiction | (exfalso; omega) | (exfalso; exact absurd hok.1 (by assumption)) | (exfalso; (exfalso; omega))))) | refine s_splitQ_nb rfl rfl (fun h => ?_) (fun h => ?_) | refine s_splitQ rfl rfl (fun h => ?_) (fun h => ?_))) | refine lQ_then ?_ | refine lQ_ends ?_ | (refine kE ?_; (first | refine e_then_r ?_ | refine e_block_r ?_ | refine e_then_n ?_ | refine e_then_x ?_ | refine e_block_n ?_ | refine e_block_x ?_ | refine e_block_y rfl ?_)) | refine l_ends ?_)
    · refine e_round (j.1 + 1, (_, H4), (_, H5)) ⟨by dsimp only; omega, by dsimp only; rw [List.replicate_succ']; exact hv4, by dsimp only; rw [List.replicate_succ']; exact hv5⟩ ⟨slook_to rfl (vint_to (by push_cast; rfl)), (by repeat' first | exact trivial | refine ⟨rfl, ?_⟩)⟩ (fun w hw => hw.sub (by repeat' first | exact List.nil_sublist _ | exact List.Sublist.slnil | refine List.Sublist.cons_cons _ ?_ | refine List.Sublist.cons _ ?_)) (by dsimp only; omega)
    · rw [show j.1 = n.toNat by omega] at hj2 hj3
      exact s_leaveN rfl rfl (SRes.cellG rfl rfl fwA (.tmp rfl .nil)) (fun w hw => ⟨_, _, rfl, ⟨_, rfl, ⟨_, _, _, _, j.2.1.2, j.2.2.2, [], Hs, rfl, hj2, hj3, OElems.nil, hus, rfl⟩⟩, hw.toFreshL (by repeat' first | exact List.nil_sublist _ | exact List.Sublist.slnil | refine List.Sublist.cons_cons _ ?_ | refine List.Sublist.cons _ ?_)⟩) .ret (.inl rfl)
  · have hn : newChain s n = ⟨[], [], [], ⟨0, 0, 0, []⟩⟩ := by unfold newChain; rw [if_neg hok]
    rw [hn, decide_eq_false hok]
    (first | apply SYields.mk | apply SYieldsF.mk | skip); refine s_enter Try.func59 rfl Try.ntmps59 rfl ?_
    repeat' (first | exact rfl | (apply kO; (first | exact ov_pure rfl | (apply kOBin; (first | exact aBin)) | (apply kOCall; (first | (apply kCallF; (first | exact (ov_call rfl (fun w hw => c_isceneOk s _ w (reA hw))) | exact (ov_call rfl (fun w hw => c_within _ _ _ w)))) | (apply kCallB; (first | exact aBlt | exact aLenR)))) | (apply kOLoad; (first | exact aLdF | exact aLdR)) | exact ov_fieldAddr rfl | (apply kOIdx; (first | exact aIdx)) | exact aRest | exact aNew | exact (ov_field1 (ft := 37) rfl rfl rfl rfl))) | (refine kN ?_; (first | (refine kCall ?_; (first | (refine kWFn 101 ?_; (refine s_callF (fun u H => OScene u s H) rfl (fun w hw => c_copyScene s _ w (hv.keep (hw.cells rfl)) hl) rfl (fun u Hs hus => ?_); obtain ⟨v6, rfl, hus⟩ := hus; have f1 := hus.form; obtain ⟨_, _, rfl⟩ := f1)) | apply s_step)) | (refine kStore ?_; (first | (refine s_storeS _ rfl rfl gpA rfl (ones_cons rfl (ones_cons rfl (ones_cons rfl (ones_cons rfl (ones_cons rfl (ones_cons rfl (ones_cons (OElems.one (by assumption)) rfl))))))) (by rfl) ?_) | refine s_store1 _ rfl rfl gpA rfl (by rfl) ?_ | refine s_storeS _ rfl rfl gpA rfl rfl (by rfl) ?_ | refine s_storeS _ rfl rfl gpA rfl (ones_img oiA) (by rfl) ?_)) | refine s_boxS rfl rfl (fun b hb => ?_) | refine s_allocS rfl (fun b hb => ?_) | refine s_box1 rfl rfl rfl (fun b hb => ?_) | refine s_alloc1 rfl rfl (fun b hb => ?_) | refine s_buildSlice0 rfl (fun b hb => ?_) | refine s_buildSlice rfl rfl rfl rfl rfl (fun b hb => ?_) | apply s_step)) | (refine kG ?_; (first | refine s_gyes rfl rfl rfl ?_ | refine s_gno rfl rfl rfl rfl rfl ?_ | ((first | refine s_split_d rfl rfl (fun h => ?_) (fun h => ?_) | refine s_split_n rfl rfl (fun h => ?_) (fun h => ?_)) <;> (try (first | contradiction | (exfalso; omega) | (exfalso; exact absurd ⟨by assumption, by assumption⟩ hok)))) | refine s_split_nb rfl rfl (fun h => ?_) (fun h => ?_) | refine s_split rfl rfl (fun h => ?_) (fun h => ?_))) | refine l_then ?_ | (refine kC ?_; (first | refine c_seq ?_ | refine c_regionN rfl ?_ | refine c_ret ?_ | (refine kCond ?_; (first | refine c_cond_t rfl ?_ | refine c_cond_f rfl ?_ | ((first | refine c_cond_d rfl (fun h => ?_) (fun h => ?_) | refine c_cond_n rfl (fun h => ?_) (fun h => ?_)) <;> (try (first | contradiction | (exfalso; omega) | (exfalso; exact absurd ⟨by assumption, by assumption⟩ hok)))) | refine c_cond_nb rfl (fun h => ?_) (fun h => ?_) | refine c_cond rfl (fun h => ?_) (fun h => ?_))) | refine c_block ?_ | refine c_skip ?_ | refine c_exit ?_ | refine c_regionQN rfl rfl (by decide +kernel) ?_)) | apply s_stepQ | (refine kQG ?_; (first | refine s_gyesQ rfl rfl rfl ?_ | refine s_gnoQ rfl rfl rfl rfl rfl ?_ | ((first | refine s_splitQ_d rfl rfl (fun h => ?_) (fun h => ?_) | refine s_splitQ_n rfl rfl (fun h => ?_) (fun h => ?_)) <;> (try (first | contradiction | (exfalso; omega) | (exfalso; exact absurd ⟨by assumption, by assumption⟩ hok)))) | refine s_splitQ_nb rfl rfl (fun h => ?_) (fun h => ?_) | refine s_splitQ rfl rfl (fun h => ?_) (fun h => ?_))) | refine lQ_then ?_ | refine lQ_ends ?_ | (refine kE ?_; (first | refine e_then_r ?_ | refine e_block_r ?_ | refine e_then_n ?_ | refine e_then_x ?_ | refine e_block_n ?_ | refine e_block_x ?_ | refine e_block_y rfl ?_)) | refine l_ends ?_)
    all_goals exact s_leaveN rfl rfl (SRes.cellG rfl rfl fwA (.tmp rfl .nil)) (fun w hw => ⟨_, [], rfl, ⟨_, rfl, ⟨_, _, _, _, [], [], [], [], rfl, OElems.nil, OInts.nil _, OElems.nil, OElems.nil, rfl⟩⟩, hw.toFresh0⟩) .ret (.inl rfl)
end Go.Proofs.Ytakijgpoaeggnaa
/-
  Contracts: a new chain of buffers, by the reference.
-/
set_option linter.unusedVariables false
namespace Go.Proofs.Ytakijgpoaeggnaa
open Go Sx
theorem getD_rep {α : Type} {m k : Nat} {x d : α} (h : k < m) : (List.replicate m x).getD k d = x := by
  rw [List.getD_eq_getElem?_getD, List.getElem?_replicate, if_pos h]; rfl
theorem fresh_ok {s : DScene} {m : Nat} : DChain.ok ⟨List.replicate m (newImage s.W s.H s.Back), List.replicate m 0, [], s⟩ ↔ s.ok ∧ (1 ≤ m ∧ m ≤ 3) := by
  constructor
  · exact fun h => ⟨h.1, by simpa using h.2.1⟩
  · rintro ⟨hs, hm⟩
    have hs' := hs
    unfold DScene.ok at hs'
    have hi := newImage_ok hs'.1 hs'.2.1 hs'.2.2.1.1
    refine ⟨hs, by simpa using hm, by simp, by simp, fun k hk => ?_, fun k hk => absurd hk (by simp)⟩
    have hk' : k < m := by simpa using hk
    have e1 : DChain.buf ⟨List.replicate m (newImage s.W s.H s.Back), List.replicate m 0, [], s⟩ k = newImage s.W s.H s.Back := getD_rep hk'
    have e2 : DChain.age ⟨List.replicate m (newImage s.W s.H s.Back), List.replicate m 0, [], s⟩ k = 0 := getD_rep hk'
    refine ⟨by rw [e1]; exact hi.1, by rw [e1]; exact hi.2.1, by rw [e1]; exact hi.2.2, ⟨by rw [e2]; omega, by rw [e2]; omega, by rw [e2]; simp⟩, fun _ _ _ => e2⟩
attribute [local irreducible] Exit.then Exit.inBlock bodyPost OVs OInts OElems DChain.ok Sx.newImage DScene.ok
set_option maxHeartbeats 4000000 in
theorem c_snewChain (s : DScene) (n : Int) (v : Value) (W : World) (hv : RS eSurf W v s.ss) (hl : surfsLen s.ss ≤ 2000000) : SYieldsF Try.prog 57 #[vScene s v, .int .i64 n] (fun u H => OChainB u (newChain s n) (decide (s.ok ∧ (1 ≤ n ∧ n ≤ 3))) H) W := by
  obtain ⟨m, hm1, hm2⟩ : ∃ m : Nat, (n ≤ 3 → m = n.toNat) ∧ (3 < n → m = 0) := ⟨if n ≤ 3 then n.toNat else 0, fun h => if_pos h, fun h => if_neg (by omega)⟩
  have hmm : (1 ≤ m ∧ m ≤ 3) ↔ (1 ≤ n ∧ n ≤ 3) := by omega
  (first | apply SYields.mk | apply SYieldsF.mk | skip); refine s_enter Try.func57 rfl Try.ntmps57 rfl ?_
  repeat' (first | exact rfl | (apply kO; (first | exact ov_pure rfl | (apply kOBin; (first | exact aBin)) | (apply kOCall; (first | (apply kCallF; (first | exact (ov_call rfl (fun w hw => c_schainOk ⟨List.replicate j.1 (newImage s.W s.H s.Back), List.replicate j.1 0, [], s⟩ _ _ _ _ w ⟨OElems.rs hj2 (hfA hw), OInts.reads hj3 (hfA hw), OElems.rs (U := 34) OElems.nil (fun b o hm => absurd hm (List.not_mem_nil)), OElems.rs hus (hfA hw)⟩)))) | (apply kCallB; (first | exact aBlt | exact aLenR)))) | (apply kOLoad; (first | exact aLdF | exact aLdR)) | exact ov_fieldAddr rfl | (apply kOIdx; (first | exact aIdx)) | exact aRest | exact aNew | exact (ov_field1 (ft := 37) rfl rfl rfl rfl))) | (refine kN ?_; (first | (refine kCall ?_; (first | (refine kWFn 74 ?_; (refine s_callF (fun u H => OScene u s H) rfl (fun w hw => c_l10Copy s _ w (hv.keep (hw.cells rfl)) hl) rfl (fun u Hs hus => ?_); obtain ⟨v6, rfl, hus⟩ := hus; have f1 := hus.form; obtain ⟨_, _, rfl⟩ := f1)) | (refine kWFn 128 ?_; (refine s_callF (fun u H => OImg u (newImage s.W s.H s.Back) H) rfl (fun w hw => c_snewImage s.W s.H s.Back w) rfl (fun u H3 hu3 => ?_); obtain ⟨d', rfl, hu3⟩ := hu3; have f1 := hu3.form; obtain ⟨_, _, rfl⟩ := f1)) | (refine kWApp ?_; (refine s_appendE _ _ _ (el := eImg) (a := newImage s.W s.H s.Back) rfl rfl (by assumption) gpA gpA (show eImg.own _ _ _ from hu3) gpA rfl rfl (eImg_ones (OInts.one (by assumption))) (by rw [scells_eq]; rfl) (by decide) (by rw [List.length_replicate]; omega) (by decide) rfl (fun v4 H4 hv4 => ?_); have f1 := hv4.form; obtain ⟨ua, uc, rfl⟩ := f1)) | (refine kWApp ?_; (refine s_appendI _ _ (ys := [_]) rfl rfl (by assumption) gpA gpA rfl rfl (by rw [List.length_replicate]; omega) (by decide) rfl (fun v5 H5 hv5 => ?_); have f1 := hv5.form; obtain ⟨va, vc, rfl⟩ := f1)) | apply s_step)) | (refine kStore ?_; (first | (refine s_storeS _ rfl rfl gpA rfl (ones_cons (OElems.one (by assumption)) (ones_cons (OInts.one (by assumption)) (ones_cons rfl (ones_cons rfl (ones_cons rfl (ones_cons rfl (ones_cons (OElems.one (by assumption)) rfl))))))) (by rfl) ?_) | (refine s_storeS _ rfl rfl gpA rfl (ones_cons rfl (ones_cons rfl (ones_cons rfl (ones_cons rfl (ones_cons rfl (ones_cons rfl (ones_cons (OElems.one (by assumption)) rfl))))))) (by rfl) ?_) | refine s_store1 _ rfl rfl gpA rfl (by rfl) ?_ | refine s_storeS _ rfl rfl gpA rfl rfl (by rfl) ?_ | refine s_storeS _ rfl rfl gpA rfl (ones_img oiA) (by rfl) ?_)) | refine s_boxS rfl rfl (fun b hb => ?_) | refine s_allocS rfl (fun b hb => ?_) | refine s_box1 rfl rfl rfl (fun b hb => ?_) | refine s_alloc1 rfl rfl (fun b hb => ?_) | refine s_buildSlice0 rfl (fun b hb => ?_) | refine s_buildSlice rfl rfl rfl rfl rfl (fun b hb => ?_) | apply s_step)) | (refine kG ?_; (first | refine s_gyes rfl rfl rfl ?_ | refine s_gno rfl rfl rfl rfl rfl ?_ | ((first | refine s_split_d rfl rfl (fun h => ?_) (fun h => ?_) | refine s_split_n rfl rfl (fun h => ?_) (fun h => ?_)) <;> (try (first | contradiction | (exfalso; omega) | (exfalso; (exfalso; omega))))) | refine s_split_nb rfl rfl (fun h => ?_) (fun h => ?_) | refine s_split rfl rfl (fun h => ?_) (fun h => ?_))) | (refine kS ?_; (first | refine h_exec rfl ?_ | refine h_take_nil rfl rfl rfl ?_ | refine h_take_pick rfl rfl rfl ?_ | refine h_nil ?_ | refine h_alt ?_ ?_ | apply h_take)) | (refine kBack ?_; (first | refine h_back_last rfl ?_ | refine h_backN rfl subA ?_)) | refine l_then ?_ | (refine kC ?_; (first | (refine kReg 5 ?_; refine c_regionSubN (SPlan.take 0 (SPlan.take 1 (SPlan.take 2 (SPlan.take 3 (SPlan.take 4 (SPlan.take 5 (SPlan.take 6 (SPlan.take 7 (SPlan.run 8 (SPlan.run 9 (SPlan.run 10 (SPlan.take 11 (SPlan.run 12 SPlan.done))))))))))))) (some 12) [true, true, true, true, false, true, true] rfl rfl rfl (by decide +kernel) ?_) | (refine kLoop 3 ?_; refine c_loopV (ι := Nat × (Value × SPiece) × (Value × SPiece)) (fun j => j.1 ≤ m ∧ OElems eImg 39 j.2.1.1 (List.replicate j.1 (newImage s.W s.H s.Back)) j.2.1.2 ∧ OInts 3 j.2.2.1 (List.replicate j.1 0) j.2.2.2) (fun j => [(7, .int .i64 (j.1 : Int))]) (fun j => [[(_, srow [j.2.1.1, j.2.2.1, .slice none 0 0, .int .i64 s.W, .int .i64 s.H, .int .i64 s.Back, _] 90)], _, [], j.2.2.2, j.2.1.2, _, _]) (fun j => m - j.1) (0, (_, []), (_, [])) ⟨by dsimp only; omega, OElems.nil, OInts.nil _⟩ rfl (fun _ => rfl) ⟨rfl, trivial⟩ (fun w hw => hw.nil2.nil2.nil2) (fun j hj => ?_); obtain ⟨hj1, hj2, hj3⟩ := hj; have f2 := hj2.form; obtain ⟨wa, wc, ej⟩ := f2; have f3 := hj3.form; obtain ⟨wb, wd, ek⟩ := f3) | refine c_seq ?_ | refine c_regionN rfl ?_ | refine c_ret ?_ | (refine kCond ?_; (first | refine c_cond_t rfl ?_ | refine c_cond_f rfl ?_ | ((first | refine c_cond_d rfl (fun h => ?_) (fun h => ?_) | refine c_cond_n rfl (fun h => ?_) (fun h => ?_)) <;> (try (first | contradiction | (exfalso; omega) | (exfalso; (exfalso; omega))))) | refine c_cond_nb rfl (fun h => ?_) (fun h => ?_) | refine c_cond rfl (fun h => ?_) (fun h => ?_))) | refine c_block ?_ | refine c_skip ?_ | refine c_exit ?_ | refine c_regionQN rfl rfl (by decide +kernel) ?_)) | apply s_stepQ | (refine kQG ?_; (first | refine s_gyesQ rfl rfl rfl ?_ | refine s_gnoQ rfl rfl rfl rfl rfl ?_ | ((first | refine s_splitQ_d rfl rfl (fun h => ?_) (fun h => ?_) | refine s_splitQ_n rfl rfl (fun h => ?_) (fun h => ?_)) <;> (try (first | contradiction | (exfalso; omega) | (exfalso; (exfalso; omega))))) | refine s_splitQ_nb rfl rfl (fun h => ?_) (fun h => ?_) | refine s_splitQ rfl rfl (fun h => ?_) (fun h => ?_))) | refine lQ_then ?_ | refine lQ_ends ?_ | (refine kE ?_; (first | refine e_then_r ?_ | refine e_block_r ?_ | refine e_then_n ?_ | refine e_then_x ?_ | refine e_block_n ?_ | refine e_block_x ?_ | refine e_block_y rfl ?_)) | refine l_ends ?_)
  · refine e_round (j.1 + 1, (_, H4), (_, H5)) ⟨by dsimp only; omega, by dsimp only; rw [List.replicate_succ']; exact hv4, by dsimp only; rw [List.replicate_succ']; exact hv5⟩ ⟨slook_to rfl (vint_to (by push_cast; rfl)), (by repeat' first | exact trivial | refine ⟨rfl, ?_⟩)⟩ (fun w hw => hw.sub (by repeat' first | exact List.nil_sublist _ | exact List.Sublist.slnil | refine List.Sublist.cons_cons _ ?_ | refine List.Sublist.cons _ ?_)) (by dsimp only; omega)
  all_goals
    have hjm : j.1 = m := by omega
    by_cases q : s.ok ∧ (1 ≤ n ∧ n ≤ 3)
    · have hn : newChain s n = ⟨List.replicate j.1 (newImage s.W s.H s.Back), List.replicate j.1 0, [], s⟩ := by unfold newChain; rw [if_pos q, hjm, hm1 q.2.2]
      have hyes := fresh_ok.2 (show s.ok ∧ (1 ≤ j.1 ∧ j.1 ≤ 3) from ⟨q.1, by omega⟩)
      rw [hn, decide_eq_true q]
      first
        | exact absurd hyes (by assumption)
        | exact s_leaveN rfl rfl (SRes.cellG rfl rfl fwA (.tmp rfl .nil)) (fun w hw => ⟨_, _, rfl, ⟨_, rfl, ⟨_, _, _, _, j.2.1.2, j.2.2.2, [], Hs, rfl, hj2, hj3, OElems.nil, hus, rfl⟩⟩, hw.toFreshL (by repeat' first | exact List.nil_sublist _ | exact List.Sublist.slnil | refine List.Sublist.cons_cons _ ?_ | refine List.Sublist.cons _ ?_)⟩) .ret (.inl rfl)
    · have hno := fun hh => q ⟨(fresh_ok (s := s) (m := j.1)).1 hh |>.1, by have := ((fresh_ok (s := s) (m := j.1)).1 hh).2; omega⟩
      have hn : newChain s n = ⟨[], [], [], ⟨0, 0, 0, []⟩⟩ := by unfold newChain; rw [if_neg q]
      rw [hn, decide_eq_false q]
      first
        | exact absurd (by assumption) hno
        | exact s_leaveN rfl rfl (SRes.cellG rfl rfl fwA (.tmp rfl .nil)) (fun w hw => ⟨_, [], rfl, ⟨_, rfl, ⟨_, _, _, _, [], [], [], [], rfl, OElems.nil, OInts.nil _, OElems.nil, OElems.nil, rfl⟩⟩, hw.toFresh0⟩) .ret (.inl rfl)
end Go.Proofs.Ytakijgpoaeggnaa
