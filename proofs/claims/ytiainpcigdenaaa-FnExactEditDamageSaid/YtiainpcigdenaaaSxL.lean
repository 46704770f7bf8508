/-
  The engine, seventh part: what the arguments of a law read as; from a walk of a law to its row.
-/
import Derived.Test.YtiainpcigdenaaaSx
import Derived.WalkKit
import Derived.ProofKit
import Derived.OpenShut
import Derived.Carry
import Derived.JoinedOf
set_option linter.unusedVariables false
namespace Sx
open Go Go.ChangeShapes Go.WideShapes Go.ChangeAt Go.RowKit

/-- these cells read as something of type t -/
def SRd (P : Program) (W : World) (t : TypeId) (cs : List Value) : Prop :=
  ∃ (H : Type) (enc : TypeId × Value → H) (fuel : Nat) (x : DataW H × List MemPlace), DataW.trod enc P W 0 (fun _ => true) true fuel t cs = some x

section
variable {P : Program} {W : World} {t : TypeId} {cs : List Value}

theorem SRd.int [hu : SUnd P t (.int .i64)] (h : SRd P W t cs) : ∃ n : Int, cs = [.int .i64 n] ∧ (-9223372036854775808 ≤ n ∧ n ≤ 9223372036854775807) := by
  obtain ⟨H, enc, fuel, x, hx⟩ := h
  obtain ⟨n, h1, h2, h3⟩ := DataW.trod_int hu.h hx
  refine ⟨n, h1, ?_⟩
  have := h3
  simp [Lit.wf, IntKind.min, IntKind.max, IntKind.signed, IntKind.bits] at this
  omega

theorem SRd.u8 [hu : SUnd P t (.int .u8)] (h : SRd P W t cs) : ∃ n : Int, cs = [.int .u8 n] ∧ (0 ≤ n ∧ n ≤ 255) := by
  obtain ⟨H, enc, fuel, x, hx⟩ := h
  obtain ⟨n, h1, h2, h3⟩ := DataW.trod_int hu.h hx
  refine ⟨n, h1, ?_⟩
  have := h3
  simp [Lit.wf, IntKind.min, IntKind.max, IntKind.signed, IntKind.bits] at this
  omega

theorem SRd.bool [hu : SUnd P t .bool] (h : SRd P W t cs) : ∃ b : Bool, cs = [.bool b] := by
  obtain ⟨H, enc, fuel, x, hx⟩ := h
  cases fuel with
  | zero => simp [DataW.trod] at hx
  | succ fuel =>
    unfold DataW.trod at hx
    rw [hu.h] at hx
    split at hx <;> simp_all

/-- a struct: its cells, field by field -/
theorem SRd.struct {fs : Array Field} {z : Value} {k by_ : Nat} [hu : SUnd P t (.struct fs)] [hi : SInf P t z k by_] (h : SRd P W t cs) :
    cs.length = k ∧ ∀ (i : Nat) (f : Field), fs[i]? = some f → SRd P W f.type ((cs.drop f.offset).take (P.cellsOf f.type)) := by
  obtain ⟨H, enc, fuel, x, hx⟩ := h
  obtain ⟨xs, n, _, _, hl, hlen, hf⟩ := DataW.trod_struct hu.h hx
  refine ⟨?_, fun i f hfi => ?_⟩
  · obtain ⟨ii, i1, i2, i3, i4⟩ := hi.out
    rw [hl]; simp [Program.cellsOf, i1, i3]
  · have hlt : i < xs.length := by
      have := (Array.getElem?_eq_some_iff.1 hfi).1
      omega
    exact ⟨H, enc, n, xs[i], by simpa [List.getElem?_eq_getElem hlt] using hf i f hfi⟩

theorem cellsOf_eq {z : Value} {k by_ : Nat} [hi : SInf P t z k by_] : P.cellsOf t = k := by
  obtain ⟨ii, i1, i2, i3, i4⟩ := hi.out
  simp [Program.cellsOf, i1, i3]

theorem mapM_some {α β : Type} {f : α → Option β} : ∀ {l : List α} {r : List β}, l.mapM f = some r → ∀ x ∈ l, ∃ y, f x = some y
  | [], _, _, x, hx => by cases hx
  | a :: l, r, h, x, hx => by
    rw [List.mapM_cons] at h
    cases ha : f a with
    | none => simp [ha] at h
    | some b =>
      cases hl : l.mapM f with
      | none => simp [ha, hl] at h
      | some r' =>
        rcases List.mem_cons.1 hx with rfl | hx
        · exact ⟨b, ha⟩
        · exact mapM_some hl x hx

theorem mapM_range {β : Type} {f : Nat → Option β} {n : Nat} {r : List β} (h : (List.range n).mapM f = some r) : r.length = n ∧ ∀ (j : Nat) (u : β), r[j]? = some u → f j = some u := by
  have key : ∀ (l : List Nat) (r : List β), l.mapM f = some r → r.length = l.length ∧ ∀ (j : Nat) (u : β), r[j]? = some u → ∃ i, l[j]? = some i ∧ f i = some u := by
    intro l
    induction l with
    | nil => intro r h; simp at h; subst h; simp
    | cons a l ih =>
      intro r h
      rw [List.mapM_cons] at h
      cases ha : f a with
      | none => simp [ha] at h
      | some b =>
        cases hl : l.mapM f with
        | none => simp [ha, hl] at h
        | some r' =>
          simp [ha, hl] at h
          subst h
          obtain ⟨i1, i2⟩ := ih r' hl
          refine ⟨by simp [i1], fun j u hu => ?_⟩
          cases j with
          | zero => simp at hu; exact ⟨a, by simp, hu ▸ ha⟩
          | succ j => obtain ⟨i, h1, h2⟩ := i2 j u (by simpa using hu); exact ⟨i, by simpa using h1, h2⟩
  obtain ⟨h1, h2⟩ := key _ _ h
  refine ⟨by simpa using h1, fun j u hu => ?_⟩
  obtain ⟨i, hi, hf⟩ := h2 j u hu
  have hj : j < n := by have := (List.getElem?_eq_some_iff.1 hu).1; rw [h1] at this; simpa using this
  rw [List.getElem?_range hj] at hi
  cases hi
  exact hf

theorem cells_some {w : World} {a : Addr} {n : Nat} {r : List Value} (h : w.cells? 0 a n = some r) : r.length = n ∧ ∀ (j : Nat) (u : Value), r[j]? = some u → w.cell? (a.add j) = some u := by
  unfold World.cells? at h
  rw [if_pos (Nat.zero_le _)] at h
  exact mapM_range h

/-- a slice: rows of cells, each of which reads as an element -/
theorem SRd.slice {e : TypeId} {z : Value} {k by_ : Nat} [hu : SUnd P t (.slice e)] [hi : SInf P e z k by_] (hk : 0 < k) (h : SRd P W t cs) :
    ∃ v n rows, cs = [v] ∧ RRow W v k n rows ∧ ∀ i, i < n → SRd P W e (rows i) := by
  obtain ⟨H, enc, fuel, x, hx⟩ := h
  cases fuel with
  | zero => simp [DataW.trod] at hx
  | succ fuel =>
    have hce : P.cellsOf e = k := cellsOf_eq
    unfold DataW.trod at hx
    rw [hu.h] at hx
    split at hx <;> first | (simp at *; done) | skip
    · refine ⟨.slice none 0 0, 0, fun _ => [], rfl, ⟨⟨none, 0, rfl, fun h => by omega⟩, by omega, fun i hi => by omega, fun i hi => by omega, Nat.le_refl _⟩, fun i hi => by omega⟩
    · rename_i e' a len cap he
      simp only [Option.some.injEq, TypeDesc.slice.injEq] at he
      subst he
      simp only at hx
      split at hx
      case isFalse => cases hx
      rename_i hcond
      obtain ⟨hb, hlc, hcm⟩ := hcond
      simp only [hce] at hx
      cases hm : (List.range len).mapM (fun i => (W.cells? 0 (a.add (i * k)) k).bind (DataW.trod enc P W 0 (fun _ => true) true fuel e)) with
      | none => rw [hm] at hx; simp at hx
      | some elems =>
        have helem : ∀ i, i < len → ∃ r, W.cells? 0 (a.add (i * k)) k = some r ∧ ∃ y, DataW.trod enc P W 0 (fun _ => true) true fuel e r = some y := by
          intro i hi
          obtain ⟨y, hy⟩ := mapM_some hm i (List.mem_range.2 hi)
          cases hc : W.cells? 0 (a.add (i * k)) k with
          | none => simp [hc] at hy
          | some r => exact ⟨r, rfl, y, by simpa [hc] using hy⟩
        refine ⟨.slice (some a) len cap, len, fun i => (W.cells? 0 (a.add (i * k)) k).getD [], rfl, ⟨⟨_, _, rfl, fun h0 => ?_⟩, ?_, fun i hi => ?_, fun i hi j u hu => ?_, hlc⟩, fun i hi => ?_⟩
        · obtain ⟨r, hr, _⟩ := helem 0 h0
          obtain ⟨h1, h2⟩ := cells_some hr
          have h3 := h2 0 r[0] (by simp [List.getElem?_eq_getElem (show 0 < r.length by omega)])
          refine ⟨a.block, a.off, ?_⟩
          simp only [Nat.zero_mul, Addr.add, if_true] at h3
          have hs : a.spot = none := by
            unfold World.cell? at h3
            split at h3
            · split at h3
              · cases h3
              · rename_i hsp; simpa using hsp
            · cases h3
          cases a; simp at hs; simp [hs]
        · unfold maxLen at hcm; omega
        · obtain ⟨r, hr, _⟩ := helem i hi
          simp [hr, (cells_some hr).1]
        · obtain ⟨r, hr, _⟩ := helem i hi
          simp only [hr, Option.getD_some] at hu
          have h3 := (cells_some hr).2 j u hu
          have hjk : j < k := by have := (List.getElem?_eq_some_iff.1 hu).1; rw [(cells_some hr).1] at this; exact this
          simp only [baseOf]
          by_cases h0 : i * k + j = 0
          · have hi0 : i * k = 0 := by omega
            have hj0 : j = 0 := by omega
            subst hj0
            simp only [hi0, Addr.add, if_true] at h3
            have hs : a.spot = none := by
              unfold World.cell? at h3
              split at h3
              · split at h3
                · cases h3
                · rename_i hsp; simpa using hsp
              · cases h3
            rw [hi0]
            cases a; simp at hs; subst hs; exact h3
          · have : ((a.add (i * k)).add j) = ⟨a.block, a.off + i * k + j, none⟩ := by
              unfold Addr.add
              by_cases hi0 : i * k = 0
              · have hj0 : j ≠ 0 := by omega
                simp [hi0, hj0]
              · by_cases hj0 : j = 0
                · simp [hi0, hj0]
                · simp [hi0, hj0]
            rw [this] at h3
            exact h3
        · obtain ⟨r, hr, y, hy⟩ := helem i hi
          exact ⟨H, enc, fuel, y, by simpa [hr] using hy⟩

end

/-! ### from the walk to the row -/
theorem trodAll_each {H : Type} {enc : TypeId × Value → H} {P : Program} {W : World} {base : Nat} {sp : Nat → Bool} {held : Bool} : ∀ {ts : List TypeId} {vs : List Value} {ds : List (DataW H)} {ps : List MemPlace},
    DataW.TrodAll enc P W base sp held ts vs ds ps → vs.length = ts.length ∧ ds.length = ts.length ∧ ∀ (j : Nat) t v, ts[j]? = some t → vs[j]? = some v → ∃ d p, DataW.Trod enc P W base sp held t v d p
  | [], [], [], _, _ => ⟨rfl, rfl, fun j t v h => by simp at h⟩
  | t :: ts, v :: vs, d :: ds, ps, h => by
    obtain ⟨p, q, h1, h2, _⟩ := h
    obtain ⟨i1, i2, i3⟩ := trodAll_each h2
    refine ⟨by simp [i1], by simp [i2], fun j t' v' ht hv => ?_⟩
    cases j with
    | zero => simp at ht hv; subst ht; subst hv; exact ⟨d, p, h1⟩
    | succ j => exact i3 j t' v' (by simpa using ht) (by simpa using hv)
  | [], [], _ :: _, _, h => h.elim
  | [], _ :: _, _, _, h => h.elim
  | _ :: _, [], _, _, h => h.elim
  | _ :: _, _ :: _, [], _, h => h.elim

theorem trodAll_stay {H : Type} {enc : TypeId × Value → H} {P : Program} {W W' : World} (hl : laidOutB P = true) (hb : Below W.heap.size W W') : ∀ {ts : List TypeId} {vs : List Value} {ds : List (DataW H)} {ps : List MemPlace},
    (ts.all fun t => P.readableRec t && decide (t < P.types.size)) = true → DataW.TrodAll enc P W 0 (fun _ => true) true ts vs ds ps → DataW.TrodAll enc P W' 0 (fun b => decide (b < W.heap.size)) true ts vs ds ps
  | [], [], [], _, _, h => h
  | t :: ts, v :: vs, d :: ds, ps, ht, h => by
    have hlt := DataW.TrodAll.lt h
    obtain ⟨p, q, h1, h2, rfl⟩ := h
    simp only [List.all_cons, Bool.and_eq_true, decide_eq_true_eq] at ht
    exact ⟨p, q, Below.trod hl ht.1.1 ht.1.2 h1 hb (fun x hx => hlt x (List.mem_append_left _ hx)), trodAll_stay hl hb (by simpa using ht.2) h2, rfl⟩
  | [], [], _ :: _, _, _, h => h.elim
  | [], _ :: _, _, _, _, h => h.elim
  | _ :: _, [], _, _, _, h => h.elim
  | _ :: _, _ :: _, [], _, _, h => h.elim

/-- the walk of a law, over whatever its arguments read as -/
def LawWalk (P : Program) (f : FuncId) (fn : Func) : Prop :=
  ∀ (W : World) (base : Nat) (args : Array Value), args.size = fn.params.size →
    (∀ (j : Nat) t v, fn.params[j]? = some t → args[j]? = some v → Value.okWide P W .any base t v ∧ SRd P W t v.cells.toList) →
    Calls P f args W fun e W' => e = .returned (.bool true) ∧ Below W.heap.size W W'

theorem lift {C : Checked} {P : Program} (hP : C.prog = P) {os : Os} {f : FuncId} {fn : Func} {s : ChangeSpec} {conds : List PathCond} {apart fresh handsOn : Bool} {tb : TypeId} {H : Type} {enc : TypeId × Value → H}
    (own : ownKnob P.godebug = none) (started : os.Started) (noInit : P.inits.idxOf? f = none) (hfn : P.funcs[f]? = some fn)
    (witness : ∃ (w : World) (tape : Tape) (i : Input), w.os = os ∧ (w.forCall tape i).Shaped C.prog ∧ i.vars = [] ∧ Input.okWide C.prog (w.forCall tape i) .any w.heap.size f i ∧
      s.pre6 enc C.prog fn conds apart (w.forCall tape i).memory i.args ∧ Assume.holds {} C.prog (lone (Frame.enter C.prog f i.args .normal) [] (w.forCall tape i)))
    (hl : laidOutB P = true) (hts : (fn.params.toList.all fun t => P.readableRec t && decide (t < P.types.size)) = true)
    (hres : fn.resultTypes = #[tb]) (hb : P.underlying tb = some .bool) (hvars : s.vars = [])
    (hs : ∀ ds : List (DataW H), ds.length = fn.params.size → s.fn H (ds ++ []) = { results := [.lit (.bool true)], args := ds })
    (walk : LawWalk P f fn) :
    ReturnsInHanded {} C os f .any (s.pre6 enc P fn conds apart) (s.post enc P fn apart fresh handsOn false) := by
  subst hP
  refine returnsInHanded_of_change own started noInit hfn witness ?_
  intro W base args ds gs before hval hW hcnd _
  have hW' := hW
  obtain ⟨p, q, hA, hV, hbef, hfz, hnd⟩ := hW
  rw [hvars] at hV
  obtain ⟨i1, i2, i3⟩ := trodAll_each hA
  obtain ⟨rfl, rfl⟩ := trodVars_none hV
  have hsz : args.size = fn.params.size := by simpa using i1
  refine (walk W base args hsz fun j t v ht hv => ⟨hval j t v ht hv, ?_⟩).mono fun e W' ⟨he, hbw⟩ => ?_
  · obtain ⟨d, p', fuel, hf⟩ := i3 j t v (by simpa using ht) (by simpa using hv)
    exact ⟨H, enc, fuel, _, hf⟩
  · subst he
    have hfnr := hs ds (by simpa using i2)
    refine ⟨_, rfl, ds, [], before, [], p, [], hW', ?_, ?_, ?_, hbw.frame _, fun h => by cases h⟩
    · rw [hfnr, hres]
      exact trodAll_cons_mk (shut_bool hb _) trodAll_mk0
    · rw [hfnr]
      exact trodAll_stay hl hbw hts hA
    · rw [hfnr, hvars]
      rfl

/-- arguments by their place -/
theorem arg_at {args : Array Value} {ps : Array TypeId} (h : args.size = ps.size) {j : Nat} {t : TypeId} (ht : ps[j]? = some t) : ∃ v, args[j]? = some v := by
  have : j < args.size := by rw [h]; exact (Array.getElem?_eq_some_iff.1 ht).1
  exact ⟨args[j], by simp [this]⟩

section
variable {P : Program} {W : World} {base : Nat} {t : TypeId} {v : Value}
theorem okv_int [hu : SUnd P t (.int .i64)] (h : Value.okWide P W .any base t v ∧ SRd P W t v.cells.toList) : ∃ n : Int, v = .int .i64 n ∧ (-9223372036854775808 ≤ n ∧ n ≤ 9223372036854775807) := by
  obtain ⟨n, rfl⟩ := okWide_int hu.h h.1
  obtain ⟨m, h1, h2⟩ := h.2.int
  simp [Value.cells] at h1
  subst h1
  exact ⟨_, rfl, h2⟩
theorem okv_struct {fs : Array Field} [hu : SUnd P t (.struct fs)] (h : Value.okWide P W .any base t v ∧ SRd P W t v.cells.toList) : ∃ cs : List Value, v = .agg cs.toArray ∧ SRd P W t cs := by
  obtain ⟨cs, rfl, _⟩ := okWide_struct hu.h h.1
  exact ⟨cs.toList, rfl, h.2⟩
theorem okv_slice {e : TypeId} [hu : SUnd P t (.slice e)] (h : Value.okWide P W .any base t v ∧ SRd P W t v.cells.toList) : SRd P W t [v] := by
  obtain ⟨a, len, cap, rfl⟩ := okWide_slice hu.h h.1
  exact h.2
end

theorem args1 {args : Array Value} {v0 : Value} (h : args.size = 1) (e0 : args[0]? = some v0) : args = [v0].toArray := by
  apply Array.ext_getElem?; intro i; match i with
  | 0 => simpa using e0
  | i + 1 => simp [Array.getElem?_eq_none (show args.size ≤ i + 1 by omega)]
theorem args2 {args : Array Value} {v0 v1 : Value} (h : args.size = 2) (e0 : args[0]? = some v0) (e1 : args[1]? = some v1) : args = [v0, v1].toArray := by
  apply Array.ext_getElem?; intro i; match i with
  | 0 => simpa using e0
  | 1 => simpa using e1
  | i + 2 => simp [Array.getElem?_eq_none (show args.size ≤ i + 2 by omega)]
theorem args3 {args : Array Value} {v0 v1 v2 : Value} (h : args.size = 3) (e0 : args[0]? = some v0) (e1 : args[1]? = some v1) (e2 : args[2]? = some v2) : args = [v0, v1, v2].toArray := by
  apply Array.ext_getElem?; intro i; match i with
  | 0 => simpa using e0
  | 1 => simpa using e1
  | 2 => simpa using e2
  | i + 3 => simp [Array.getElem?_eq_none (show args.size ≤ i + 3 by omega)]
theorem args4 {args : Array Value} {v0 v1 v2 v3 : Value} (h : args.size = 4) (e0 : args[0]? = some v0) (e1 : args[1]? = some v1) (e2 : args[2]? = some v2) (e3 : args[3]? = some v3) : args = [v0, v1, v2, v3].toArray := by
  apply Array.ext_getElem?; intro i; match i with
  | 0 => simpa using e0
  | 1 => simpa using e1
  | 2 => simpa using e2
  | 3 => simpa using e3
  | i + 4 => simp [Array.getElem?_eq_none (show args.size ≤ i + 4 by omega)]
theorem args5 {args : Array Value} {v0 v1 v2 v3 v4 : Value} (h : args.size = 5) (e0 : args[0]? = some v0) (e1 : args[1]? = some v1) (e2 : args[2]? = some v2) (e3 : args[3]? = some v3) (e4 : args[4]? = some v4) : args = [v0, v1, v2, v3, v4].toArray := by
  apply Array.ext_getElem?; intro i; match i with
  | 0 => simpa using e0
  | 1 => simpa using e1
  | 2 => simpa using e2
  | 3 => simpa using e3
  | 4 => simpa using e4
  | i + 5 => simp [Array.getElem?_eq_none (show args.size ≤ i + 5 by omega)]

theorem SRd.sub {P : Program} {W : World} {cs : List Value} {fs : Array Field} (h : ∀ (i : Nat) (f : Field), fs[i]? = some f → SRd P W f.type ((cs.drop f.offset).take (P.cellsOf f.type))) (i off t : Nat) {z : Value} {k by_ : Nat} [hi : SInf P t z k by_]
    (hf : (fs[i]?).map (fun f => (f.offset, f.type)) = some (off, t)) : SRd P W t ((cs.drop off).take k) := by
  cases hfi : fs[i]? with
  | none => simp [hfi] at hf
  | some f =>
    simp only [hfi, Option.map_some, Option.some.injEq, Prod.mk.injEq] at hf
    obtain ⟨rfl, rfl⟩ := hf
    have := h i f hfi
    rwa [cellsOf_eq] at this

theorem rows_list {α : Type} (R : List Value → α → Prop) (d : α) : ∀ (n : Nat) (rows : Nat → List Value), (∀ i, i < n → ∃ x, R (rows i) x) → ∃ l : List α, l.length = n ∧ ∀ i, i < n → R (rows i) (l.getD i d)
  | 0, _, _ => ⟨[], rfl, fun i hi => by omega⟩
  | n + 1, rows, h => by
    obtain ⟨l, hl, hr⟩ := rows_list R d n rows (fun i hi => h i (by omega))
    obtain ⟨x, hx⟩ := h n (by omega)
    refine ⟨l ++ [x], by simp [hl], fun i hi => ?_⟩
    by_cases hin : i < n
    · have : (l ++ [x]).getD i d = l.getD i d := by simp [List.getD, List.getElem?_append_left (show i < l.length by omega)]
      rw [this]; exact hr i hin
    · have : i = n := by omega
      subst this
      simpa [List.getD, List.getElem?_append_right (show l.length ≤ i by omega), hl] using hx

theorem SRd.ints {P : Program} {W : World} {t e : TypeId} {cs : List Value} {z : Value} {by_ : Nat} [hu : SUnd P t (.slice e)] [he : SUnd P e (.int .i64)] [hi : SInf P e z 1 by_] (h : SRd P W t cs) :
    ∃ v l, cs = [v] ∧ RInts W v l := by
  obtain ⟨v, n, rows, rfl, hr, hel⟩ := h.slice (by omega)
  obtain ⟨l, hl, hlr⟩ := rows_list (fun cs (x : Int) => cs = [.int .i64 x]) 0 n rows (fun i hi => by obtain ⟨m, hm, _⟩ := (hel i hi).int; exact ⟨m, hm⟩)
  exact ⟨v, l, rfl, hr.congr hl fun i hi => (hlr i hi).symm⟩

theorem SRd.bytes {P : Program} {W : World} {t e : TypeId} {cs : List Value} {z : Value} {by_ : Nat} [hu : SUnd P t (.slice e)] [he : SUnd P e (.int .u8)] [hi : SInf P e z 1 by_] (h : SRd P W t cs) :
    ∃ v l, cs = [v] ∧ RBytes W v l := by
  obtain ⟨v, n, rows, rfl, hr, hel⟩ := h.slice (by omega)
  obtain ⟨l, hl, hlr⟩ := rows_list (fun cs (x : Int) => cs = [.int .u8 x] ∧ 0 ≤ x ∧ x ≤ 255) 0 n rows (fun i hi => by obtain ⟨m, hm, hb⟩ := (hel i hi).u8; exact ⟨m, hm, hb⟩)
  exact ⟨v, l, rfl, hr.congr hl fun i hi => (hlr i hi).1.symm, fun i hi => (hlr i (by omega)).2⟩

theorem take1 {α : Type} {l : List α} {k : Nat} {v : α} (h : (l.drop k).take 1 = [v]) : l[k]? = some v := by
  have := congrArg (fun x => x[0]?) h
  simpa [List.getElem?_take, List.getElem?_drop] using this

theorem cells_eq {α : Type} {l m : List α} {n : Nat} (h : l.length = n) (hm : m.length = n) (he : ∀ k, k < n → l[k]? = m[k]?) : l = m := by
  apply List.ext_getElem?
  intro k
  by_cases hk : k < n
  · exact he k hk
  · rw [List.getElem?_eq_none (by omega), List.getElem?_eq_none (by omega)]

/-! the words at the program's head: the row's facts on them, without reading the long line of letters in the kernel -/
/-- letters by their numbers -/
def chs (l : List Nat) : List Char := l.map Char.ofNat
theorem strip_cut (rest : List (List Char)) : ∀ (os : List String), (∀ o ∈ os, ("cut".toList == o.toList) = false) → stripLifts os ("cut".toList :: rest) = ([], "cut".toList :: rest)
  | [], _ => rfl
  | o :: os, h => by
    unfold stripLifts
    rw [if_neg (by rw [h o List.mem_cons_self]; exact Bool.false_ne_true)]
    exact strip_cut rest os (fun o' h' => h o' (List.mem_cons_of_mem _ h'))

theorem strip_lifts (rest : List (List Char)) : stripLifts liftWords ("cut".toList :: rest) = ([], "cut".toList :: rest) :=
  strip_cut rest liftWords (by decide)

theorem headLifts_cut {P : Program} {rest : List (List Char)} (h : behindMainWord (wordsSigns P.initOrder.toList) = "cut".toList :: rest) : P.headLifts = [] := by
  unfold Program.headLifts
  rw [h, strip_lifts]
  exact if_pos rfl

theorem liftsFinal_cut {P : Program} {rest : List (List Char)} (h : behindMainWord (wordsSigns P.initOrder.toList) = "cut".toList :: rest) : P.liftsFinal = false := by
  unfold Program.liftsFinal
  rw [h, headLifts_cut h]
  have : ("cut".toList == "carried".toList) = false := by decide
  simp only [List.head?_cons, Option.some_beq_some, this, Bool.false_and, Bool.false_or]
  rfl

theorem make_cut {P : Program} {rest : List (List Char)} (h : behindMainWord (wordsSigns P.initOrder.toList) = "cut".toList :: rest) : P.make = some .cut := by
  unfold Program.make
  rw [h]
  have h1 : ("cut".toList == "gc".toList || "cut".toList == "spec".toList) = false := by decide
  have h2 : ("cut".toList == "cut".toList) = true := by decide
  show (if ("cut".toList == "gc".toList || "cut".toList == "spec".toList) = true then _ else if ("cut".toList == "cut".toList || _) = true then _ else _) = _
  rw [h1, h2, if_neg Bool.false_ne_true, Bool.true_or, if_pos rfl]

theorem mayEnter_cut {P : Program} {rest : List (List Char)} (h : behindMainWord (wordsSigns P.initOrder.toList) = "cut".toList :: rest) (h1 : P.laysLater = false) (h2 : P.bearsReflect = false) (h3 : P.doorFits [] = true) : P.mayEnter = true := by
  unfold Program.mayEnter
  rw [h]
  have e1 : ("cut".toList == "gc".toList || "cut".toList == "spec".toList) = false := by decide
  have e2 : ("cut".toList == "carried".toList) = false := by decide
  have e4 : (some "cut".toList == some "cut".toList) = true := by decide
  dsimp only
  rw [strip_lifts, h1, h2]
  simp only [e1, e2, Bool.false_and, Bool.false_or, List.head?_cons, Bool.not_false, Bool.or_true, Bool.and_true, h3]
  rfl
end Sx
