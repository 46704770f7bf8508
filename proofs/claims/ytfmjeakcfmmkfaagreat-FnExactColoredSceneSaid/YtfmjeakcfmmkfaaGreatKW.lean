/-
  Joining the ways through a region: what comes after it is walked once. Pieces picked out of a heap in any order.
-/
import Derived.Test.YtfmjeakcfmmkfaaGreatKF
set_option linter.unusedVariables false
namespace Go.Proofs.YtfmjeakcfmmkfaaGreat
open Go Sx
theorem papart : ∀ {L : SHeap} {i j : Nat} {A B : SPiece} {k : Nat} {o p : Obj}, (L.flatten.map (·.1)).Nodup → getL L i = some A → getL L j = some B → i ≠ j → (k, o) ∈ A → (k, p) ∈ B → False
  | [], i, j, A, B, k, o, p, hn, hi, hj, hij, ha, hb => by simp [getL] at hi
  | X :: L, 0, 0, A, B, k, o, p, hn, hi, hj, hij, ha, hb => hij rfl
  | X :: L, 0, j + 1, A, B, k, o, p, hn, hi, hj, hij, ha, hb => by
    simp only [getL, Option.some.injEq] at hi
    subst hi
    rw [List.flatten_cons, List.map_append, List.nodup_append] at hn
    exact hn.2.2 k (List.mem_map.2 ⟨(k, o), ha, rfl⟩) k (List.mem_map.2 ⟨(k, p), getL_flat (show getL L j = some B from hj) hb, rfl⟩) rfl
  | X :: L, i + 1, 0, A, B, k, o, p, hn, hi, hj, hij, ha, hb => by
    simp only [getL, Option.some.injEq] at hj
    subst hj
    rw [List.flatten_cons, List.map_append, List.nodup_append] at hn
    exact hn.2.2 k (List.mem_map.2 ⟨(k, p), hb, rfl⟩) k (List.mem_map.2 ⟨(k, o), getL_flat (show getL L i = some A from hi) ha, rfl⟩) rfl
  | X :: L, i + 1, j + 1, A, B, k, o, p, hn, hi, hj, hij, ha, hb => by
    rw [List.flatten_cons, List.map_append, List.nodup_append] at hn
    exact papart (L := L) hn.2.1 (show getL L i = some A from hi) (show getL L j = some B from hj) (fun e => hij (by rw [e])) ha hb
/-- these pieces, in this order -/
inductive Picks (L : SHeap) : List Nat → SHeap → Prop
  | nil : Picks L [] []
  | cons {i : Nat} {A : SPiece} {is : List Nat} {L' : SHeap} (hi : getL L i = some A) (h : Picks L is L') : Picks L (i :: is) (A :: L')
theorem Picks.mem {L L' : SHeap} {is : List Nat} (h : Picks L is L') {p : Nat × Obj} (hp : p ∈ L'.flatten) : ∃ j B, j ∈ is ∧ getL L j = some B ∧ p ∈ B := by
  induction h with
  | nil => simp at hp
  | @cons i A is L' hi h ih =>
    rw [List.flatten_cons, List.mem_append] at hp
    rcases hp with hp | hp
    · exact ⟨i, A, List.mem_cons_self .., hi, hp⟩
    · obtain ⟨j, B, h1, h2, h3⟩ := ih hp
      exact ⟨j, B, List.mem_cons_of_mem _ h1, h2, h3⟩
def nodupB : List Nat → Bool
  | [] => true
  | i :: is => !is.contains i && nodupB is
theorem _root_.Sx.SSt.picks {lo : SMut} {s w : World} {L L' : SHeap} {is : List Nat} (h : SSt lo s L w) (hp : Picks L is L') (hd : nodupB is = true) : SSt lo s L' w := by
  refine ⟨h.kept, fun b o hm => ?_, ?_⟩
  · obtain ⟨j, B, h1, h2, h3⟩ := hp.mem hm
    exact h.blocks b o (getL_flat h2 h3)
  · have hn := h.nodup
    clear h
    induction hp with
    | nil => exact List.nodup_nil
    | @cons i A is L' hi hp ih =>
      simp only [nodupB, Bool.and_eq_true, Bool.not_eq_true'] at hd
      rw [List.flatten_cons, List.map_append, List.nodup_append]
      refine ⟨((List.sublist_flatten_of_mem (getL_mem hi)).map _).nodup hn, ih hd.2, ?_⟩
      intro k hk k' hk' e
      subst e
      obtain ⟨⟨k1, o⟩, h1, rfl⟩ := List.mem_map.1 hk
      obtain ⟨⟨k2, p⟩, h2, h3⟩ := List.mem_map.1 hk'
      obtain ⟨j, B, h4, h5, h6⟩ := hp.mem h2
      dsimp only at h3
      subst h3
      refine papart hn hi h5 (fun e => ?_) h1 h6
      subst e
      have := hd.1
      rw [List.contains_eq_mem, decide_eq_false_iff_not] at this
      exact this h4
def lrev : SHeap → SHeap → SHeap
  | [], acc => acc
  | p :: r, acc => lrev r (p :: acc)
def lapp' : SHeap → SHeap → Option SHeap
  | [], acc => some acc
  | p :: r, acc => lapp' r (p :: acc)
def lapp (A B : SHeap) : Option SHeap := lapp' (lrev A []) B
section
variable {P : Program} {n : Nat} {lo : SMut} {s : World} {Q : Exit → Act → World → Prop} {E : SEnv} {L : SHeap}
theorem kSeqR (id : Nat) {ops : Array Oper} {dr : Bool} {y : Code} (h : WPC P n lo s (.seq (.region id ops dr) y) Q E L) : WPC P n lo s (.seq (.region id ops dr) y) Q E L := h
/-- whatever way is taken through the region, one of these states is reached: V j are the slots that it leaves, A j the new pieces, ks the old ones that are kept -/
theorem c_join {ι : Type} (ks : List Bool) {id : Nat} {ops : Array Oper} {dr : Bool} {y : Code} {E0 : SEnv} {L0 : SHeap} (I : ι → Prop) (V : ι → SEnv) (A : ι → SHeap) {F : ι → SEnv} {H : ι → SHeap}
    (hk : selO ks L = some L0) (hE0 : sloopE (.region id ops dr) E = some E0) (hF : ∀ i, sapp (V i) E0 = some (F i)) (hH : ∀ i, lapp (A i) L0 = some (H i))
    (hx : WPC P n lo s (.region id ops dr) (Exit.then (fun a w => ∃ j, I j ∧ SSat n a (F j) ∧ SSt lo s (H j) w) Q) E L)
    (hy : ∀ j, I j → WPC P n lo s y Q (F j) (H j)) : WPC P n lo s (.seq (.region id ops dr) y) Q E L := by
  unfold WPC at *
  intro a w ha hw
  refine wp_seq (wp_mono (hx a w ha hw) ?_)
  intro e a' w' h
  cases e with
  | normal => obtain ⟨j, hj, h1, h2⟩ := h; exact hy j hj a' w' h1 h2
  | _ => exact h
theorem e_join {ι : Type} {I : ι → Prop} {F : ι → SEnv} {H : ι → SHeap} (j : ι) (hI : I j) (hE : SSub E (F j)) (hL : ∀ w, SSt lo s L w → SSt lo s (H j) w) :
    SEnds n lo s (Exit.then (fun a w => ∃ j, I j ∧ SSat n a (F j) ∧ SSt lo s (H j) w) Q) .normal E L := by
  unfold SEnds
  exact fun a w ha hw => ⟨j, hI, ha.sub hE, hL w hw⟩
theorem e_joinP {ι : Type} {I : ι → Prop} {F : ι → SEnv} {H : ι → SHeap} {is : List Nat} (j : ι) (hI : I j) (hE : SSub E (F j)) (hp : Picks L is (H j)) (hd : nodupB is = true) :
    SEnds n lo s (Exit.then (fun a w => ∃ j, I j ∧ SSat n a (F j) ∧ SSt lo s (H j) w) Q) .normal E L :=
  e_join j hI hE (fun w hw => hw.picks hp hd)
end
end Go.Proofs.YtfmjeakcfmmkfaaGreat
