/-
  Structs of numbers held against one another. Nothing of any one program.
-/
import Derived.Test.YtbpflnececfkmaaD1
import Derived.Laws.StructEq
set_option linter.unusedVariables false
namespace Sx
open Go
/-- these fields are numbers, one after the other from this place on -/
def intFields (P : Program) : Nat → List Field → Bool
  | _, [] => true
  | o, f :: fs => (f.name != "_") && (f.offset == o) && (match P.underlying f.type with | some (.int _) => true | _ => false) && intFields P (o + 1) fs
def eqIntsB (P : Program) (t : TypeId) (k : Nat) : Bool :=
  (match P.underlying t with | some (.struct fs) => fs.size == k && intFields P 0 fs.toList | _ => false) && !P.stoodInHeld t && !P.eqGuardType P.depth t
class SEqI (P : Program) (t : TypeId) (k : Nat) : Prop where
  h : eqIntsB P t k = true
theorem part_int {P : Program} {t : TypeId} {kk : IntKind} (h : P.underlying t = some (.int kk)) {l : List Value} {o : Nat} {v : Value} (hv : l[o]? = some v) (w : World) : (part t l.toArray o).run P w = .ok v w := by
  simp [part, isAgg, run_underlying h, hv]
theorem eqFields_ints {P : Program} (d : Nat) (w : World) : ∀ (fs : List Field) (o : Nat) (p q a c : List Int), p.length = o → q.length = o → fs.length = a.length → a.length = c.length → intFields P o fs = true →
    (Op.eqFields (d + 1) (ivals (p ++ a)).toArray (ivals (q ++ c)).toArray fs).run P w = .ok (decide (a = c)) w
  | [], o, p, q, a, c, _, _, hl, hl2, _ => by
    have h1 : a = [] := List.eq_nil_of_length_eq_zero hl.symm
    subst h1
    have h2 : c = [] := List.eq_nil_of_length_eq_zero hl2.symm
    subst h2
    simp [Op.eqFields]
  | f :: fs, o, p, q, [], c, _, _, hl, _, _ => by simp at hl
  | f :: fs, o, p, q, x :: a, [], _, _, _, hl2, _ => by simp at hl2
  | f :: fs, o, p, q, x :: a, y :: c, hp, hq, hl, hl2, hf => by
    simp only [intFields, Bool.and_eq_true, bne_iff_ne, beq_iff_eq] at hf
    obtain ⟨⟨⟨h1, h2⟩, h3⟩, h4⟩ := hf
    obtain ⟨kk, hk⟩ : ∃ kk, P.underlying f.type = some (.int kk) := by
      cases hu : P.underlying f.type with
      | none => simp [hu] at h3
      | some td => cases td <;> simp [hu] at h3; exact ⟨_, rfl⟩
    have g1 : (ivals (p ++ x :: a))[f.offset]? = some (.int .i64 x) := by rw [h2, ← hp]; simp [ivals]
    have g2 : (ivals (q ++ y :: c))[f.offset]? = some (.int .i64 y) := by rw [h2, ← hq]; simp [ivals]
    have ih := eqFields_ints d w fs (o + 1) (p ++ [x]) (q ++ [y]) a c (by simp [hp]) (by simp [hq]) (by simpa using hl) (by simpa using hl2) h4
    rw [List.append_assoc, List.append_assoc] at ih
    simp only [List.singleton_append] at ih
    unfold Op.eqFields
    rw [if_pos h1]
    simp only [Sem.run_bind, part_int hk g1, part_int hk g2, Result.andThen_ok, run_equalIn_int w d f.type .i64 kk x y hk]
    by_cases e : x = y
    · subst e
      simp only [beq_self_eq_true, Bool.not_true, Bool.false_eq_true, if_false, ih, List.cons.injEq, true_and]
    · simp [e]
section
variable {P : Program} {n : Nat} {lo : SMut} {s : World} {E : SEnv} {L : SHeap} {d : Option Tmp} {ty : TypeId} {pos : String} {after : Array Edge} {g : Option (Nat × Bool)} {x y : Operand} {xt yt : TypeId}
theorem equal_ints {P : Program} {t : TypeId} {k : Nat} [hk : SEqI P t k] (d : Nat) {a c : List Int} (ha : a.length = k) (hc : c.length = k) (w : World) : (Op.equalIn (d + 2) t (.agg (ivals a).toArray) (.agg (ivals c).toArray)).run P w = .ok (decide (a = c)) w := by
  have h := hk.h
  unfold eqIntsB at h
  simp only [Bool.and_eq_true, Bool.not_eq_true'] at h
  obtain ⟨⟨h1, h2⟩, h3⟩ := h
  have h4 : P.underlying t = some (.struct (P.fieldsOf t)) ∧ (P.fieldsOf t).size = k ∧ intFields P 0 (P.fieldsOf t).toList = true := by
    unfold Program.fieldsOf
    cases hu : P.underlying t with
    | none => simp [hu] at h1
    | some td => cases td <;> simp [hu] at h1 ⊢; exact h1
  rw [run_equalIn_struct w (d + 1) t _ _ h4.1 h2]
  exact eqFields_ints d w _ 0 [] [] a c rfl rfl (by rw [Array.length_toList, h4.2.1, ha]) (by rw [ha, hc]) h4.2.2
theorem ov_eqlI {k : Nat} [hk : SEqI P xt k] {a c : List Int} (hx : sval E x = some (.agg (ivals a).toArray)) (hy : sval E y = some (.agg (ivals c).toArray)) (ha : a.length = k) (hc : c.length = k) : SOpV P n lo s E L ⟨d, .binOp .eql xt x y yt, ty, pos, after, g⟩ (.bool (decide (a = c))) :=
  SOpV.of_run fun q hq w hw => by
    have h := hk.h
    unfold eqIntsB at h
    simp only [Bool.and_eq_true, Bool.not_eq_true'] at h
    simp only [execOp, hq.sval hx, hq.sval hy, Sem.run_bind, run_eqGuard_agg w .eql xt x y _ _ h.2, Result.andThen_ok, run_eql_struct, equal_ints 9998 ha hc w]
    rfl
theorem ov_neqI {k : Nat} [hk : SEqI P xt k] {a c : List Int} (hx : sval E x = some (.agg (ivals a).toArray)) (hy : sval E y = some (.agg (ivals c).toArray)) (ha : a.length = k) (hc : c.length = k) : SOpV P n lo s E L ⟨d, .binOp .neq xt x y yt, ty, pos, after, g⟩ (.bool (!decide (a = c))) :=
  SOpV.of_run fun q hq w hw => by
    have h := hk.h
    unfold eqIntsB at h
    simp only [Bool.and_eq_true, Bool.not_eq_true'] at h
    simp only [execOp, hq.sval hx, hq.sval hy, Sem.run_bind, run_eqGuard_agg w .neq xt x y _ _ h.2, Result.andThen_ok, run_neq_struct, equal_ints 9998 ha hc w]
    rfl
end
end Sx
namespace Go.Proofs.Ytbpflnececfkmaa
open Go Sx
instance : SEqI Try.prog 59 4 := ⟨by kernel_rfl⟩
def rectL (r : DRect) : List Int := [r.X, r.Y, r.W, r.H]
theorem rectL_inj {r q : DRect} : rectL r = rectL q ↔ r = q := by
  constructor
  · intro h; cases r; cases q; simp [rectL] at h; simp [h]
  · intro h; rw [h]
theorem rectL_dec (r q : DRect) : decide (rectL r = rectL q) = decide (r = q) := decide_eq_decide.2 rectL_inj
section
variable {n : Nat} {lo : SMut} {s : World} {E : SEnv} {L : SHeap} {d : Option Tmp} {ty : TypeId} {pos : String} {after : Array Edge} {g : Option (Nat × Bool)} {x y : Operand} {yt : TypeId}
theorem ov_eqRect {r q : DRect} (hx : sval E x = some (vRect r)) (hy : sval E y = some (vRect q)) : SOpV Try.prog n lo s E L ⟨d, .binOp .eql 59 x y yt, ty, pos, after, g⟩ (.bool (decide (r = q))) := by
  rw [← rectL_dec]; exact ov_eqlI (k := 4) (a := rectL r) (c := rectL q) hx hy rfl rfl
theorem ov_neRect {r q : DRect} (hx : sval E x = some (vRect r)) (hy : sval E y = some (vRect q)) : SOpV Try.prog n lo s E L ⟨d, .binOp .neq 59 x y yt, ty, pos, after, g⟩ (.bool (!decide (r = q))) := by
  rw [← rectL_dec]; exact ov_neqI (k := 4) (a := rectL r) (c := rectL q) hx hy rfl rfl
end
end Go.Proofs.Ytbpflnececfkmaa
