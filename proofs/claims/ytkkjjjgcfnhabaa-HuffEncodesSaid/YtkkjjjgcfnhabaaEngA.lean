/- Part EngA of the proof of the claim in this folder: a way to walk code, and the contracts of the functions that the law reaches. Conditions: none. -/
import Derived.WalkKit
import Derived.Orders
import Derived.Laws.Append
import Derived.Laws.BytesArg
import Derived.Laws.Slices
import Derived.Laws.MakeOwn
import Derived.Lib.ConvBytes
import Derived.KernelRfl
import Derived.Laws.Strings
import Derived.Laws.Tables
import Derived.Laws.Cells
import Derived.Laws.AppendOwn
import Derived.Laws.BytesString
set_option linter.unusedVariables false
set_option linter.unusedSimpArgs false
namespace Go.Proofs.Ytkkjjjgcfnhabaa.Eng
open Go

abbrev Hp := Array Obj
structure Fx where
  tape : Nat → Question → Nat
  os : Os
  output : Array (Nat × ByteArray)
def Fx.at (φ : Fx) (H : Hp) (d : Nat) : World := { heap := H, tape := φ.tape, drawn := d, os := φ.os, output := φ.output }
def Fx.of (w : World) : Fx := ⟨w.tape, w.os, w.output⟩
theorem Fx.at_of (w : World) : (Fx.of w).at w.heap w.drawn = w := rfl

/-- The cell at a place. -/
def cel (H : Hp) (b o : Nat) : Option Value :=
  match H[b]? with
  | some (.cells c _ _) => c[o]?
  | _ => none
theorem cell_at (φ : Fx) (H : Hp) (d b o : Nat) : (φ.at H d).cell? ⟨b, o, none⟩ = cel H b o := by
  unfold World.cell? cel Fx.at
  simp only
  cases H[b]? with
  | none => rfl
  | some x => cases x <;> rfl

/-- A row of values laid over a row from a place on. -/
def spl (c : Array Value) (o : Nat) (vs : List Value) : Array Value := (c.toList.take o ++ vs ++ c.toList.drop (o + vs.length)).toArray
def objPut (o : Nat) (vs : List Value) : Obj → Obj
  | .cells c e f => .cells (spl c o vs) e f
  | x => x
def hput (H : Hp) (b o : Nat) (vs : List Value) : Hp := H.modify b (objPut o vs)
/-- May the cells be written? -/
def canPut (H : Hp) (b o : Nat) (vs : List Value) : Prop :=
  ∃ c e lo hi, H[b]? = some (.cells c e (lo, hi)) ∧ o + vs.length ≤ c.size ∧ (hi ≤ o ∨ o + vs.length ≤ lo ∨ hi ≤ lo) ∧ ∀ v ∈ vs, v.oneCell' = true

theorem size_spl (c : Array Value) (o : Nat) (vs : List Value) (h : o + vs.length ≤ c.size) : (spl c o vs).size = c.size := by
  simp [spl]; omega
theorem spl_nil (c : Array Value) (o : Nat) : spl c o [] = c := by simp [spl]
theorem getElem?_spl (c : Array Value) (o : Nat) (vs : List Value) (h : o + vs.length ≤ c.size) (i : Nat) :
    (spl c o vs)[i]? = if o ≤ i ∧ i < o + vs.length then vs[i - o]? else c[i]? := by
  have hl : (c.toList.take o).length = o := by simp; omega
  simp only [spl, List.getElem?_toArray, List.append_assoc]
  by_cases h1 : i < o
  · rw [List.getElem?_append_left (by omega), List.getElem?_take]
    rw [if_pos h1, if_neg (by omega)]; simp
  · rw [List.getElem?_append_right (by omega), hl]
    by_cases h2 : i - o < vs.length
    · rw [List.getElem?_append_left h2, if_pos (by omega)]
    · rw [List.getElem?_append_right (by omega), if_neg (by omega), List.getElem?_drop]
      rw [Array.getElem?_toList]; congr 1; omega
theorem spl_cons (c : Array Value) (o : Nat) (v : Value) (vs : List Value) (h : o + (vs.length + 1) ≤ c.size) :
    spl (c.setIfInBounds o v) (o + 1) vs = spl c o (v :: vs) := by
  apply Array.ext_getElem?
  intro i
  rw [getElem?_spl _ _ _ (by simp; omega), getElem?_spl _ _ _ (by simp; omega)]
  rw [Array.getElem?_setIfInBounds]
  by_cases h1 : i = o
  · subst h1
    rw [if_neg (by omega), if_pos rfl, if_pos (by omega), if_pos (by simp)]; simp
  · by_cases h2 : o + 1 ≤ i ∧ i < o + 1 + vs.length
    · rw [if_pos h2, if_pos (by simp; omega)]
      have : i - o = (i - (o + 1)) + 1 := by omega
      rw [this, List.getElem?_cons_succ]
    · rw [if_neg h2, if_neg (by omega), if_neg (by simp; omega)]

theorem run_storeCells (P : Program) (φ : Fx) (d b o : Nat) : ∀ (vs : List Value) (i : Nat) (H : Hp), canPut H b (o + i) vs →
    (storeCells ⟨b, o, none⟩ vs i).run P (φ.at H d) = .ok () (φ.at (hput H b (o + i) vs) d)
  | [], i, H, h => by
    obtain ⟨c, e, lo, hi, hb, _⟩ := h
    have : hput H b (o + i) [] = H := by
      apply Array.ext_getElem?
      intro j
      rw [hput, Array.getElem?_modify]
      split
      · rename_i hj; subst hj; rw [hb]; simp [objPut, spl_nil]
      · rfl
    rw [this]; rfl
  | v :: vs, i, H, h => by
    obtain ⟨c, e, lo, hi, hb, hs, hf, h1⟩ := h
    have ha : (⟨b, o, none⟩ : Addr).add i = ⟨b, o + i, none⟩ := by unfold Addr.add; split <;> simp_all
    have hcell : (φ.at H d).cell? ⟨b, o + i, none⟩ = some c[o + i]! := by
      rw [cell_at, cel, hb]
      have : o + i < c.size := by simp at hs; omega
      simp [this]
    have hfr : (φ.at H d).frozen? ⟨b, o + i, none⟩ = false := by
      simp only [World.frozen?, Fx.at, hb]
      simp at hs hf ⊢
      omega
    have hset : (φ.at H d).setCell ⟨b, o + i, none⟩ v = φ.at (H.modify b (objPut (o + i) [v])) d := by
      simp only [World.setCell, Fx.at]
      congr 1
      apply Array.ext_getElem?
      intro j
      rw [Array.getElem?_modify, Array.getElem?_modify]
      split
      · rename_i hj; subst hj; rw [hb]
        simp only [Option.map_some, objPut]
        congr 2
        rw [← spl_cons _ _ _ _ (by simp at hs ⊢; omega), spl_nil]
        simp
      · rfl
    have hb' : (H.modify b (objPut (o + i) [v]))[b]? = some (.cells (c.setIfInBounds (o + i) v) e (lo, hi)) := by
      rw [Array.getElem?_modify, if_pos rfl, hb]
      simp only [Option.map_some, objPut]
      rw [← spl_cons _ _ _ _ (by simp at hs ⊢; omega), spl_nil]
    have ih := run_storeCells P φ d b o vs (i + 1) (H.modify b (objPut (o + i) [v])) ⟨_, e, lo, hi, hb', by simp at hs ⊢; omega, by simp at hf ⊢; omega, fun u hu => h1 u (List.mem_cons_of_mem _ hu)⟩
    simp only [storeCells, Sem.run_bind, ha]
    rw [run_store P _ _ v .plain (h1 v List.mem_cons_self), hcell]
    simp only [hfr, Bool.false_eq_true, if_false, Result.andThen_ok, hset, ih]
    congr 2
    apply Array.ext_getElem?
    intro j
    rw [hput, hput, Array.getElem?_modify, Array.getElem?_modify, Array.getElem?_modify]
    by_cases hj : b = j
    · subst hj
      simp only [if_true, hb, Option.map_some, objPut]
      congr 2
      have e1 : spl c (o + i) [v] = c.setIfInBounds (o + i) v := by rw [← spl_cons _ _ _ _ (by simp at hs ⊢; omega), spl_nil]
      rw [e1, show o + (i + 1) = o + i + 1 from by omega, spl_cons _ _ _ _ (by simp at hs; omega)]
    · simp only [hj, if_false]

/-! ### What a run comes to -/
def RunsV (P : Program) (φ : Fx) (s : Sem Value) (H : Hp) (K : Value → Hp → Prop) : Prop :=
  ∀ d, ∃ v H' d', s.run P (φ.at H d) = .ok v (φ.at H' d') ∧ K v H'
def RunsU (P : Program) (φ : Fx) (s : Sem Unit) (H : Hp) (K : Hp → Prop) : Prop :=
  ∀ d, ∃ H' d', s.run P (φ.at H d) = .ok () (φ.at H' d') ∧ K H'
/-- A call that returns. -/
def HCalls (P : Program) (φ : Fx) (f : FuncId) (args : List Value) (H : Hp) (R : Value → Hp → Prop) : Prop :=
  ∀ d, Calls P f args.toArray (φ.at H d) fun e w' => ∃ v H' d', e = .returned v ∧ w' = φ.at H' d' ∧ R v H'
theorem HCalls.mono {P : Program} {φ : Fx} {f : FuncId} {args : List Value} {H : Hp} {R R' : Value → Hp → Prop} (h : HCalls P φ f args H R) (hr : ∀ v H', R v H' → R' v H') : HCalls P φ f args H R' :=
  fun d => (h d).mono fun _ _ ⟨v, H', d', e1, e2, e3⟩ => ⟨v, H', d', e1, e2, hr _ _ e3⟩
def RunsN (P : Program) (φ : Fx) (s : Sem Next) (H : Hp) (K : Value → Hp → Prop) : Prop :=
  ∀ d, (∃ v H' d', s.run P (φ.at H d) = .ok (.value v) (φ.at H' d') ∧ K v H') ∨ (∃ H' d', s.run P (φ.at H d) = .ok .skip (φ.at H' d') ∧ K undef H') ∨
    (∃ f args H' d', s.run P (φ.at H d) = .ok (.enter f args) (φ.at H' d') ∧ HCalls P φ f args.toList H' K)
/-- It comes to one value and leaves all as it is. -/
def RunsQ (P : Program) (φ : Fx) (s : Sem Value) (H : Hp) (K : Value → Prop) : Prop := ∃ v, (∀ d, s.run P (φ.at H d) = .ok v (φ.at H d)) ∧ K v
/-- It comes to one value, whatever the memory. -/
def RunsP (P : Program) (s : Sem Value) (K : Value → Prop) : Prop := ∃ v, (∀ w, s.run P w = .ok v w) ∧ K v
theorem RunsP.q {P : Program} {φ : Fx} {s : Sem Value} {H : Hp} {K : Value → Prop} (h : RunsP P s K) : RunsQ P φ s H K :=
  let ⟨v, e, k⟩ := h; ⟨v, fun d => e _, k⟩
theorem RunsQ.v {P : Program} {φ : Fx} {s : Sem Value} {H : Hp} {K : Value → Hp → Prop} (h : RunsQ P φ s H (K · H)) : RunsV P φ s H K := fun d =>
  let ⟨v, e, k⟩ := h; ⟨v, H, d, e d, k⟩
theorem RunsV.next {P : Program} {φ : Fx} {s : Sem Value} {H : Hp} {K : Value → Hp → Prop} (h : RunsV P φ s H K) : RunsN P φ (do pure (.value (← s))) H K := fun d => by
  obtain ⟨v, H', d', e, k⟩ := h d
  exact .inl ⟨v, H', d', by simp [e], k⟩
theorem RunsU.next {P : Program} {φ : Fx} {s : Sem Unit} {H : Hp} {K : Value → Hp → Prop} (h : RunsU P φ s H (K undef)) : RunsN P φ (do s; pure .skip) H K := fun d => by
  obtain ⟨H', d', e, k⟩ := h d
  exact .inr (.inl ⟨H', d', by simp [e], k⟩)
theorem RunsN.mono {P : Program} {φ : Fx} {s : Sem Next} {H : Hp} {K K' : Value → Hp → Prop} (h : RunsN P φ s H K) (hk : ∀ v H', K v H' → K' v H') : RunsN P φ s H K' := fun d => by
  rcases h d with ⟨v, H', d', e, k⟩ | ⟨H', d', e, k⟩ | ⟨f, args, H', d', e, k⟩
  · exact .inl ⟨v, H', d', e, hk _ _ k⟩
  · exact .inr (.inl ⟨H', d', e, hk _ _ k⟩)
  · exact .inr (.inr ⟨f, args, H', d', e, k.mono hk⟩)
theorem Oper.wp_of_runs {P : Program} {φ : Fx} {o : Oper} {a : Act} {H : Hp} {d : Nat} {K : Value → Hp → Prop} {N : Act → World → Prop} {Q : Exit → Act → World → Prop}
    (h : RunsN P φ (execOp a.eval o) H K) (hk : ∀ v H' d', K v H' → N (a.put o.dst v) (φ.at H' d')) : o.wp P a (φ.at H d) N Q := by
  unfold Oper.wp
  rcases h d with ⟨v, H', d', e, k⟩ | ⟨H', d', e, k⟩ | ⟨f, args, H', d', e, k⟩
  · rw [e]; exact hk _ _ _ k
  · rw [e]; exact hk _ _ _ k
  · rw [e, Oper.upon_enter]
    have := k d'
    simp only [Array.toArray_toList] at this
    refine this.mono ?_
    rintro _ _ ⟨v, H2, d2, rfl, rfl, hv⟩
    exact hk _ _ _ hv
end Go.Proofs.Ytkkjjjgcfnhabaa.Eng
namespace Go.Proofs.Ytkkjjjgcfnhabaa.Eng
open Go

/-- Shapes of cells. -/
inductive CSh where
  | int (k : IntKind) | bool | str | ptr | slc | map | any | ints (n : Nat) (k : IntKind) | box
/-- Kinds of types, as far as the operations ask. A field: its place, its size, is it an aggregate. -/
inductive TK where
  | bool | int (k : IntKind) | str | ptr | slc (e : TypeId) | arr (n : Nat) (e : TypeId) | st (fs : List (Nat × Nat × Bool)) | func | map (k e : TypeId) | other
structure TI where
  t : TypeId
  k : TK
  size : Nat
  bytes : Nat
  zero : List Value
  shp : List CSh
  ret : List (Bool × List CSh)   -- of a tuple its parts, of another type itself
  tup : Bool
def TK.agg : TK → Bool
  | .arr _ _ | .st _ => true
  | _ => false
def CSh.len : CSh → Nat
  | .ints n _ => n
  | _ => 1
def shLen : List CSh → Nat
  | [] => 0
  | s :: r => s.len + shLen r
def isAggD : Option TypeDesc → Bool
  | some (.struct _) | some (.array _ _) => true
  | _ => false
def stPlaces (P : Program) : List Field → Option (List (Nat × Nat × Bool))
  | [] => some []
  | f :: r => match P.info? f.type, P.underlying f.type, stPlaces P r with
    | some i, some d, some l => some ((f.offset, i.size, isAggD (some d)) :: l)
    | _, _, _ => none
def TK.of (P : Program) : Option TypeDesc → Option TK
  | some .bool => some .bool
  | some (.int k) => some (.int k)
  | some .string => some .str
  | some (.pointer _) => some .ptr
  | some (.slice e) => some (.slc e)
  | some (.array n e) => some (.arr n e)
  | some (.struct fs) => match stPlaces P fs.toList with
    | some l => some (.st l)
    | none => some .other
  | some (.func _ _ _) => some .func
  | some (.map k e) => some (.map k e)
  | some _ => some .other
  | none => none
/-- What the table says of the types. -/
def TI.fact (P : Program) (i : TI) : Option (Nat × Nat × Option (List Value)) × Option TK × Bool :=
  ((P.info? i.t).map fun x => (x.size, x.bytes, x.zero.map fun z => z.cells.toList), TK.of P (P.underlying i.t), isAggD (P.underlying i.t))
def TI.want (i : TI) : Option (Nat × Nat × Option (List Value)) × Option TK × Bool := (some (i.size, i.bytes, some i.zero), some i.k, i.k.agg)
def TI.fit (i : TI) : Bool := Nat.beq (shLen i.shp) i.size
/-- What the walks ask of a program. -/
structure Ctx where
  P : Program
  T : List TI
  lo : Nat
  hi : Nat
  eqs : List TypeId
def tget : List TI → TypeId → Option TI
  | [], _ => none
  | i :: r, t => match Nat.beq i.t t with
    | true => some i
    | false => tget r t
def cellsEq : List Value → List Value → Bool
  | .int _ a :: r, .int _ b :: s => decide (a = b) && cellsEq r s
  | .bool a :: r, .bool b :: s => (a == b) && cellsEq r s
  | .string a :: r, .string b :: s => decide (a = b) && cellsEq r s
  | _, _ => true
def callable (P : Program) (f : FuncId) : Bool :=
  match P.funcs[f]? with
  | some fn => fn.body.isSome && fn.name != "runtime.NumGoroutine"
  | none => false
def shFits : List CSh → List Value → Prop
  | [], [] => True
  | .int k :: r, .int k' _ :: s => k = k' ∧ shFits r s
  | .bool :: r, .bool _ :: s => shFits r s
  | .str :: r, .string _ :: s => shFits r s
  | _, _ => False
/-- Is the comparison of two structs of this type cell by cell? -/
def EqLaw (P : Program) (T : List TI) (t : TypeId) : Prop :=
  ∀ i, tget T t = some i → ∀ (xs ys : List Value), shFits i.shp xs → shFits i.shp ys → ∀ (x y : Operand) (w : World),
    (do eqGuard .eql t x y (.agg xs.toArray) (.agg ys.toArray); binOp .eql t (.agg xs.toArray) (.agg ys.toArray)).run P w = .ok (.bool (cellsEq xs ys)) w ∧
    (do eqGuard .neq t x y (.agg xs.toArray) (.agg ys.toArray); binOp .neq t (.agg xs.toArray) (.agg ys.toArray)).run P w = .ok (.bool (!cellsEq xs ys)) w
structure Ctx.OK (C : Ctx) : Prop where
  types : C.T.map (TI.fact C.P) = C.T.map TI.want
  fit : C.T.all TI.fit = true
  funcs : ∀ f, C.lo ≤ f → f < C.hi → callable C.P f = true
  eqs : ∀ t, t ∈ C.eqs → EqLaw C.P C.T t
  mixed : C.P.follows .mixedOrders = true

theorem tget_t {T : List TI} {t : TypeId} {i : TI} (h : tget T t = some i) : i.t = t ∧ i ∈ T := by
  induction T with
  | nil => simp [tget] at h
  | cons x r ih =>
    simp only [tget] at h
    cases hb : Nat.beq x.t t with
    | true => rw [hb] at h; simp only [Option.some.injEq] at h; subst h; exact ⟨Nat.eq_of_beq_eq_true hb, List.mem_cons_self⟩
    | false => rw [hb] at h; exact ⟨(ih h).1, List.mem_cons_of_mem _ (ih h).2⟩
structure TIok (P : Program) (i : TI) : Prop where
  info : ∃ x z, P.info? i.t = some x ∧ x.size = i.size ∧ x.bytes = i.bytes ∧ x.zero = some z ∧ z.cells.toList = i.zero
  kind : TK.of P (P.underlying i.t) = some i.k
  agg : isAggD (P.underlying i.t) = i.k.agg
  fit : shLen i.shp = i.size
theorem Ctx.OK.get {C : Ctx} (ok : C.OK) {t : TypeId} {i : TI} (h : tget C.T t = some i) : i.t = t ∧ TIok C.P i := by
  obtain ⟨ht, hm⟩ := tget_t h
  have h1 := List.map_inj_left.1 ok.types i hm
  have h2 := List.all_eq_true.1 ok.fit i hm
  simp only [TI.fact, TI.want, Prod.mk.injEq] at h1
  obtain ⟨a, b, c⟩ := h1
  refine ⟨ht, ?_, b, c, Nat.eq_of_beq_eq_true h2⟩
  cases hi : C.P.info? i.t with
  | none => simp [hi] at a
  | some x =>
    simp only [hi, Option.map_some, Option.some.injEq, Prod.mk.injEq] at a
    cases hz : x.zero with
    | none => simp [hz] at a
    | some z => simp [hz] at a; exact ⟨x, z, rfl, a.1, a.2.1, hz, a.2.2⟩

/-! ### Reading cells -/
def ldC (H : Hp) (b o : Nat) : Nat → List CSh → (List Value → Prop) → Prop
  | _, [], K => K []
  | i, .int k :: r, K => ∃ n : Int, cel H b (o + i) = some (.int k n) ∧ ldC H b o (i + 1) r fun vs => K (.int k n :: vs)
  | i, .bool :: r, K => ∃ x : Bool, cel H b (o + i) = some (.bool x) ∧ ldC H b o (i + 1) r fun vs => K (.bool x :: vs)
  | i, .str :: r, K => ∃ s : ByteArray, cel H b (o + i) = some (.string s) ∧ ldC H b o (i + 1) r fun vs => K (.string s :: vs)
  | i, .ptr :: r, K => ∃ p : Option Addr, cel H b (o + i) = some (.pointer p) ∧ ldC H b o (i + 1) r fun vs => K (.pointer p :: vs)
  | i, .slc :: r, K => ∃ (A : Option Addr) (n c : Nat), cel H b (o + i) = some (.slice A n c) ∧ ldC H b o (i + 1) r fun vs => K (.slice A n c :: vs)
  | i, .map :: r, K => ∃ m : Option Nat, cel H b (o + i) = some (.map m) ∧ ldC H b o (i + 1) r fun vs => K (.map m :: vs)
  | i, .box :: r, K => ∃ (b' o' : Nat), cel H b (o + i) = some (.pointer (some ⟨b', o', none⟩)) ∧ ldC H b o (i + 1) r fun vs => K (.pointer (some ⟨b', o', none⟩) :: vs)
  | i, .any :: r, K => ∃ v : Value, cel H b (o + i) = some v ∧ ldC H b o (i + 1) r fun vs => K (v :: vs)
  | i, .ints m k :: r, K => ∃ xs : List Int, (xs.length = m ∧ ∀ j, j < m → cel H b (o + i + j) = some (.int k (xs.getD j 0))) ∧ ldC H b o (i + m) r fun vs => K (xs.map (.int k) ++ vs)
theorem ldC_spec (H : Hp) (b o : Nat) : ∀ (sh : List CSh) (i : Nat) (K : List Value → Prop), ldC H b o i sh K →
    ∃ vs : List Value, vs.length = shLen sh ∧ (∀ j v, vs[j]? = some v → cel H b (o + i + j) = some v) ∧ K vs
  | [], i, K, h => ⟨[], rfl, by simp, h⟩
  | s :: r, i, K, h => by
    have one : ∀ v : Value, s.len = 1 → cel H b (o + i) = some v → ldC H b o (i + 1) r (fun vs => K (v :: vs)) →
        ∃ vs : List Value, vs.length = shLen (s :: r) ∧ (∀ j v, vs[j]? = some v → cel H b (o + i + j) = some v) ∧ K vs := by
      intro v h1 hc hr
      obtain ⟨vs, hl, hv, hk⟩ := ldC_spec H b o r (i + 1) _ hr
      refine ⟨v :: vs, by simp [shLen, h1, hl]; omega, ?_, hk⟩
      intro j u hu
      cases j with
      | zero => simp at hu; subst hu; exact hc
      | succ j => rw [show o + i + (j + 1) = o + (i + 1) + j from by omega]; exact hv j u (by simpa using hu)
    cases s <;> simp only [ldC] at h
    case int k => obtain ⟨n, hc, hr⟩ := h; exact one _ rfl hc hr
    case bool => obtain ⟨n, hc, hr⟩ := h; exact one _ rfl hc hr
    case str => obtain ⟨n, hc, hr⟩ := h; exact one _ rfl hc hr
    case ptr => obtain ⟨n, hc, hr⟩ := h; exact one _ rfl hc hr
    case slc => obtain ⟨A, n, c, hc, hr⟩ := h; exact one _ rfl hc hr
    case map => obtain ⟨n, hc, hr⟩ := h; exact one _ rfl hc hr
    case any => obtain ⟨n, hc, hr⟩ := h; exact one _ rfl hc hr
    case box => obtain ⟨b', o', hc, hr⟩ := h; exact one _ rfl hc hr
    case ints m k =>
      obtain ⟨xs, ⟨hl, hx⟩, hr⟩ := h
      obtain ⟨vs, hl2, hv, hk⟩ := ldC_spec H b o r (i + m) _ hr
      refine ⟨xs.map (.int k) ++ vs, by simp [shLen, CSh.len, hl, hl2], ?_, hk⟩
      intro j u hu
      by_cases hj : j < m
      · rw [List.getElem?_append_left (by simp; omega)] at hu
        rw [hx j hj, ← hu]
        simp [List.getD_eq_getElem?_getD, List.getElem?_eq_getElem (show j < xs.length by omega)]
      · rw [List.getElem?_append_right (by simp; omega)] at hu
        simp [hl] at hu
        rw [show o + i + j = o + (i + m) + (j - m) from by omega]
        exact hv _ _ hu
theorem ldC_mono (H : Hp) (b o : Nat) : ∀ (sh : List CSh) (i : Nat) (K K' : List Value → Prop), (∀ vs, K vs → K' vs) → ldC H b o i sh K → ldC H b o i sh K'
  | [], _, _, _, hk, h => hk _ h
  | .int _ :: r, i, K, K', hk, ⟨n, hc, h⟩ => ⟨n, hc, ldC_mono H b o r (i + 1) _ _ (fun _ => hk _) h⟩
  | .bool :: r, i, K, K', hk, ⟨n, hc, h⟩ => ⟨n, hc, ldC_mono H b o r (i + 1) _ _ (fun _ => hk _) h⟩
  | .str :: r, i, K, K', hk, ⟨n, hc, h⟩ => ⟨n, hc, ldC_mono H b o r (i + 1) _ _ (fun _ => hk _) h⟩
  | .ptr :: r, i, K, K', hk, ⟨n, hc, h⟩ => ⟨n, hc, ldC_mono H b o r (i + 1) _ _ (fun _ => hk _) h⟩
  | .slc :: r, i, K, K', hk, ⟨A, n, c, hc, h⟩ => ⟨A, n, c, hc, ldC_mono H b o r (i + 1) _ _ (fun _ => hk _) h⟩
  | .map :: r, i, K, K', hk, ⟨n, hc, h⟩ => ⟨n, hc, ldC_mono H b o r (i + 1) _ _ (fun _ => hk _) h⟩
  | .box :: r, i, K, K', hk, ⟨b', o', hc, h⟩ => ⟨b', o', hc, ldC_mono H b o r (i + 1) _ _ (fun _ => hk _) h⟩
  | .any :: r, i, K, K', hk, ⟨n, hc, h⟩ => ⟨n, hc, ldC_mono H b o r (i + 1) _ _ (fun _ => hk _) h⟩
  | .ints m _ :: r, i, K, K', hk, ⟨n, hc, h⟩ => ⟨n, hc, ldC_mono H b o r (i + m) _ _ (fun _ => hk _) h⟩

/-- A variable of a type is read. -/
def ldW (i : TI) (H : Hp) (b o : Nat) (K : Value → Prop) : Prop :=
  match i.k.agg with
  | true => ldC H b o 0 i.shp fun vs => K (.agg vs.toArray)
  | false => ldC H b o 0 i.shp fun vs => match vs with
    | [v] => K v
    | _ => False
theorem ldW_run {C : Ctx} (ok : C.OK) {t : TypeId} {i : TI} (hi : tget C.T t = some i) {φ : Fx} {H : Hp} {b o : Nat} {K : Value → Prop} (h : ldW i H b o K) :
    ∃ v, (∀ d, (loadVar t ⟨b, o, none⟩).run C.P (φ.at H d) = .ok v (φ.at H d)) ∧ K v := by
  obtain ⟨rfl, oki⟩ := ok.get hi
  obtain ⟨⟨x, z, hx, hs, _, _, _⟩, hk, ha, hf⟩ := oki
  have hag : ∀ d, (isAgg i.t).run C.P (φ.at H d) = .ok i.k.agg (φ.at H d) := by
    intro d
    cases hu : C.P.underlying i.t with
    | none => rw [hu] at hk; simp [TK.of] at hk
    | some dd => rw [hu] at ha; rw [← ha]; cases dd <;> simp [isAgg, run_underlying hu, isAggD]
  unfold ldW at h
  cases hg : i.k.agg with
  | true =>
    simp only [hg] at h hag
    obtain ⟨vs, hl, hv, hk2⟩ := ldC_spec H b o i.shp 0 _ h
    refine ⟨_, fun d => ?_, hk2⟩
    have hcells := run_loadCells_list (P := C.P) (φ.at H d) ⟨b, o, none⟩ vs (fun j v hj => by
      have := hv j v hj
      have ha : (⟨b, o, none⟩ : Addr).add j = ⟨b, o + j, none⟩ := by unfold Addr.add; split <;> simp_all
      rw [ha, cell_at]; simpa using this)
    rw [hl, hf] at hcells
    simp [loadVar, hag, sizeOf, typeInfo, hx, hs, hcells]
  | false =>
    simp only [hg] at h hag
    obtain ⟨vs, hl, hv, hk2⟩ := ldC_spec H b o i.shp 0 _ h
    match vs, hk2 with
    | [v], hk2 =>
      refine ⟨v, fun d => ?_, hk2⟩
      have h0 := hv 0 v rfl
      simp only [Nat.add_zero] at h0
      simp [loadVar, hag, cell_at, h0]
theorem ldW_mono {i : TI} {H : Hp} {b o : Nat} {K K' : Value → Prop} (hk : ∀ v, K v → K' v) (h : ldW i H b o K) : ldW i H b o K' := by
  unfold ldW at h ⊢
  cases hg : i.k.agg with
  | true => simp only [hg] at h; exact ldC_mono H b o _ _ _ _ (fun _ => hk _) h
  | false =>
    simp only [hg] at h
    refine ldC_mono H b o _ _ _ _ (fun vs hv => ?_) h
    match vs, hv with
    | [v], hv => exact hk _ hv

/-! ### What a call hands back -/
def exC : List CSh → (List Value → Prop) → Prop
  | [], K => K []
  | .int k :: r, K => ∃ n : Int, exC r fun vs => K (.int k n :: vs)
  | .bool :: r, K => ∃ x : Bool, exC r fun vs => K (.bool x :: vs)
  | .str :: r, K => ∃ s : ByteArray, exC r fun vs => K (.string s :: vs)
  | .ptr :: r, K => ∃ p : Option Addr, exC r fun vs => K (.pointer p :: vs)
  | .slc :: r, K => ∃ (A : Option Addr) (n c : Nat), exC r fun vs => K (.slice A n c :: vs)
  | .map :: r, K => ∃ m : Option Nat, exC r fun vs => K (.map m :: vs)
  | .box :: r, K => ∃ b o : Nat, exC r fun vs => K (.pointer (some ⟨b, o, none⟩) :: vs)
  | .any :: r, K => ∃ v : Value, exC r fun vs => K (v :: vs)
  | .ints m k :: r, K => ∃ xs : List Int, xs.length = m ∧ exC r fun vs => K (xs.map (.int k) ++ vs)
def exR : List (Bool × List CSh) → (List Value → Prop) → Prop
  | [], K => K []
  | (true, sh) :: r, K => exC sh fun vs => exR r fun ws => K (.agg vs.toArray :: ws)
  | (false, sh) :: r, K => exC sh fun vs => exR r fun ws => K (vs ++ ws)
theorem exC_some : ∀ (sh : List CSh) (K : List Value → Prop), exC sh K → ∃ vs, K vs
  | [], _, h => ⟨_, h⟩
  | .int _ :: r, _, ⟨_, h⟩ => let ⟨_, k⟩ := exC_some r _ h; ⟨_, k⟩
  | .bool :: r, _, ⟨_, h⟩ => let ⟨_, k⟩ := exC_some r _ h; ⟨_, k⟩
  | .str :: r, _, ⟨_, h⟩ => let ⟨_, k⟩ := exC_some r _ h; ⟨_, k⟩
  | .ptr :: r, _, ⟨_, h⟩ => let ⟨_, k⟩ := exC_some r _ h; ⟨_, k⟩
  | .slc :: r, _, ⟨_, _, _, h⟩ => let ⟨_, k⟩ := exC_some r _ h; ⟨_, k⟩
  | .map :: r, _, ⟨_, h⟩ => let ⟨_, k⟩ := exC_some r _ h; ⟨_, k⟩
  | .box :: r, _, ⟨_, _, h⟩ => let ⟨_, k⟩ := exC_some r _ h; ⟨_, k⟩
  | .any :: r, _, ⟨_, h⟩ => let ⟨_, k⟩ := exC_some r _ h; ⟨_, k⟩
  | .ints _ _ :: r, _, ⟨_, _, h⟩ => let ⟨_, k⟩ := exC_some r _ h; ⟨_, k⟩
theorem exC_mono : ∀ (sh : List CSh) (K K' : List Value → Prop), (∀ vs, K vs → K' vs) → exC sh K → exC sh K'
  | [], _, _, hk, h => hk _ h
  | .int _ :: r, _, _, hk, ⟨n, h⟩ => ⟨n, exC_mono r _ _ (fun _ => hk _) h⟩
  | .bool :: r, _, _, hk, ⟨n, h⟩ => ⟨n, exC_mono r _ _ (fun _ => hk _) h⟩
  | .str :: r, _, _, hk, ⟨n, h⟩ => ⟨n, exC_mono r _ _ (fun _ => hk _) h⟩
  | .ptr :: r, _, _, hk, ⟨n, h⟩ => ⟨n, exC_mono r _ _ (fun _ => hk _) h⟩
  | .slc :: r, _, _, hk, ⟨A, n, c, h⟩ => ⟨A, n, c, exC_mono r _ _ (fun _ => hk _) h⟩
  | .map :: r, _, _, hk, ⟨n, h⟩ => ⟨n, exC_mono r _ _ (fun _ => hk _) h⟩
  | .box :: r, _, _, hk, ⟨b, o, h⟩ => ⟨b, o, exC_mono r _ _ (fun _ => hk _) h⟩
  | .any :: r, _, _, hk, ⟨n, h⟩ => ⟨n, exC_mono r _ _ (fun _ => hk _) h⟩
  | .ints _ _ :: r, _, _, hk, ⟨n, hl, h⟩ => ⟨n, hl, exC_mono r _ _ (fun _ => hk _) h⟩
theorem exR_some : ∀ (rs : List (Bool × List CSh)) (K : List Value → Prop), exR rs K → ∃ vs, K vs
  | [], _, h => ⟨_, h⟩
  | (true, _) :: r, _, h => let ⟨_, k⟩ := exC_some _ _ h; let ⟨_, k2⟩ := exR_some r _ k; ⟨_, k2⟩
  | (false, _) :: r, _, h => let ⟨_, k⟩ := exC_some _ _ h; let ⟨_, k2⟩ := exR_some r _ k; ⟨_, k2⟩
theorem exR_mono : ∀ (rs : List (Bool × List CSh)) (K K' : List Value → Prop), (∀ vs, K vs → K' vs) → exR rs K → exR rs K'
  | [], _, _, hk, h => hk _ h
  | (true, _) :: r, _, _, hk, h => exC_mono _ _ _ (fun _ h' => exR_mono r _ _ (fun _ => hk _) h') h
  | (false, _) :: r, _, _, hk, h => exC_mono _ _ _ (fun _ h' => exR_mono r _ _ (fun _ => hk _) h') h
/-- What came back is of the shape. -/
def retW (i : TI) (v : Value) (K : Value → Prop) : Prop :=
  match i.tup with
  | true => exR i.ret fun ws => v = .tuple ws.toArray ∧ K (.tuple ws.toArray)
  | false => exR i.ret fun ws => match ws with
    | [u] => v = u ∧ K u
    | _ => False
theorem retW_spec {i : TI} {v : Value} {K : Value → Prop} (h : retW i v K) : K v := by
  unfold retW at h
  cases hg : i.tup with
  | true => simp only [hg] at h; obtain ⟨ws, rfl, k⟩ := exR_some _ _ h; exact k
  | false =>
    simp only [hg] at h
    obtain ⟨ws, k⟩ := exR_some _ _ h
    match ws, k with
    | [u], k => obtain ⟨rfl, k⟩ := k; exact k
theorem retW_mono {i : TI} {v : Value} {K K' : Value → Prop} (hk : ∀ v, K v → K' v) (h : retW i v K) : retW i v K' := by
  unfold retW at h ⊢
  cases hg : i.tup with
  | true => simp only [hg] at h; exact exR_mono _ _ _ (fun _ ⟨a, b⟩ => ⟨a, hk _ b⟩) h
  | false =>
    simp only [hg] at h
    refine exR_mono _ _ _ (fun ws k => ?_) h
    match ws, k with
    | [u], k => exact ⟨k.1, hk _ k.2⟩
def retQ (C : Ctx) (t : TypeId) (v : Value) (K : Value → Prop) : Prop :=
  match tget C.T t with
  | some i => retW i v K
  | none => False
theorem retQ_spec {C : Ctx} {t : TypeId} {v : Value} {K : Value → Prop} (h : retQ C t v K) : K v := by
  unfold retQ at h
  split at h
  · exact retW_spec h
  · exact h.elim
theorem retQ_mono {C : Ctx} {t : TypeId} {v : Value} {K K' : Value → Prop} (hk : ∀ v, K v → K' v) (h : retQ C t v K) : retQ C t v K' := by
  unfold retQ at h ⊢
  split at h
  · exact retW_mono hk h
  · exact h.elim
end Go.Proofs.Ytkkjjjgcfnhabaa.Eng
namespace Go.Proofs.Ytkkjjjgcfnhabaa.Eng
open Go

/-! ### The operations -/
def iMin : IntKind → Int
  | .i8 => -128 | .i16 => -32768 | .i32 => -2147483648 | .i64 => -9223372036854775808 | _ => 0
def iMax : IntKind → Int
  | .i8 => 127 | .i16 => 32767 | .i32 => 2147483647 | .i64 => 9223372036854775807
  | .u8 => 255 | .u16 => 65535 | .u32 => 4294967295 | .u64 => 18446744073709551615
theorem wrap_in (k : IntKind) (n : Int) (h : iMin k ≤ n ∧ n ≤ iMax k) : k.wrap n = n := by
  cases k <;> simp only [iMin, iMax] at h <;> simp only [IntKind.wrap, IntKind.bits, IntKind.signed] <;> simp <;> omega
def ikEq : IntKind → IntKind → Bool
  | .i8, .i8 | .i16, .i16 | .i32, .i32 | .i64, .i64 | .u8, .u8 | .u16, .u16 | .u32, .u32 | .u64, .u64 => true
  | _, _ => false
theorem ikEq_eq {a b : IntKind} (h : ikEq a b = true) : a = b := by cases a <;> cases b <;> first | rfl | simp [ikEq] at h
def bAnd (k : IntKind) (a b : Int) : Int := k.wrap ((BitVec.ofInt k.bits a &&& BitVec.ofInt k.bits b).toNat)
def bOr (k : IntKind) (a b : Int) : Int := k.wrap ((BitVec.ofInt k.bits a ||| BitVec.ofInt k.bits b).toNat)
def bXor (k : IntKind) (a b : Int) : Int := k.wrap ((BitVec.ofInt k.bits a ^^^ BitVec.ofInt k.bits b).toNat)
def bClr (k : IntKind) (a b : Int) : Int := k.wrap ((BitVec.ofInt k.bits a &&& ~~~BitVec.ofInt k.bits b).toNat)
def arW (raw : Bool) (k : IntKind) (v : Int) (K : Value → Prop) : Prop :=
  match raw with
  | true => K (.int k (k.wrap v))
  | false => (iMin k ≤ v ∧ v ≤ iMax k) ∧ K (.int k v)
def ifB (b : Bool) (p : Prop) : Prop :=
  match b with
  | true => p
  | false => False
theorem ifB_spec {b : Bool} {p : Prop} (h : ifB b p) : b = true ∧ p := by
  cases b
  · exact h.elim
  · exact ⟨rfl, h⟩
theorem ifB_mono {b : Bool} {p q : Prop} (h : ifB b p) (hk : p → q) : ifB b q := by
  cases b
  · exact h
  · exact hk h
def natIn (x : Nat) : List Nat → Bool
  | [] => false
  | y :: r => match Nat.beq x y with
    | true => true
    | false => natIn x r
theorem natIn_mem {x : Nat} : ∀ {l : List Nat}, natIn x l = true → x ∈ l
  | [], h => by simp [natIn] at h
  | y :: r, h => by
    simp only [natIn] at h
    cases hb : Nat.beq x y with
    | true => exact Nat.eq_of_beq_eq_true hb ▸ List.mem_cons_self
    | false => rw [hb] at h; exact List.mem_cons_of_mem _ (natIn_mem h)
theorem mem_natIn {x : Nat} : ∀ {l : List Nat}, x ∈ l → natIn x l = true
  | y :: r, h => by
    simp only [natIn]
    cases hb : Nat.beq x y with
    | true => rfl
    | false =>
      have hne : x ≠ y := Nat.ne_of_beq_eq_false hb
      rcases List.mem_cons.1 h with e | h
      · exact absurd e hne
      · exact mem_natIn h

def TK.isBool : TK → Bool
  | .bool => true
  | _ => false
def TK.isPtr : TK → Bool
  | .ptr => true
  | _ => false
def TK.isSlc : TK → Bool
  | .slc _ => true
  | _ => false
def TK.isStr : TK → Bool
  | .str => true
  | _ => false
def tkB (C : Ctx) (t : TypeId) (p : TK → Bool) : Bool :=
  match tget C.T t with
  | some i => p i.k
  | none => false
theorem tkB_spec {C : Ctx} {t : TypeId} {p : TK → Bool} (h : tkB C t p = true) : ∃ i, tget C.T t = some i ∧ p i.k = true := by
  unfold tkB at h
  split at h
  · exact ⟨_, by assumption, h⟩
  · cases h
def fitW (C : Ctx) (t : TypeId) (xs ys : List Value) : Prop :=
  match tget C.T t with
  | some i => shFits i.shp xs ∧ shFits i.shp ys
  | none => False
theorem fitW_spec {C : Ctx} {t : TypeId} {xs ys : List Value} (h : fitW C t xs ys) : ∃ i, tget C.T t = some i ∧ shFits i.shp xs ∧ shFits i.shp ys := by
  unfold fitW at h
  split at h
  · exact ⟨_, by assumption, h⟩
  · exact h.elim

def binW (C : Ctx) (raw : Bool) (op : BinOp) (t : TypeId) (x y : Value) (K : Value → Prop) : Prop :=
  match op, x, y with
  | .add, .int k a, .int k' b => ifB (ikEq k k') (arW raw k (a + b) K)
  | .sub, .int k a, .int k' b => ifB (ikEq k k') (arW raw k (a - b) K)
  | .mul, .int k a, .int k' b => ifB (ikEq k k') (arW raw k (a * b) K)
  | .quo, .int k a, .int k' b => ifB (ikEq k k') (match raw with
    | true => b ≠ 0 ∧ K (.int k (k.wrap (a.tdiv b)))
    | false => (0 ≤ a ∧ a ≤ iMax k ∧ 0 < b) ∧ K (.int k (a / b)))
  | .rem, .int k a, .int k' b => ifB (ikEq k k') (match raw with
    | true => b ≠ 0 ∧ K (.int k (a.tmod b))
    | false => (0 ≤ a ∧ 0 < b) ∧ K (.int k (a % b)))
  | .and, .int k a, .int k' b => ifB (ikEq k k') (K (.int k (bAnd k a b)))
  | .or, .int k a, .int k' b => ifB (ikEq k k') (K (.int k (bOr k a b)))
  | .xor, .int k a, .int k' b => ifB (ikEq k k') (K (.int k (bXor k a b)))
  | .andNot, .int k a, .int k' b => ifB (ikEq k k') (K (.int k (bClr k a b)))
  | .shl, .int k a, .int _ b => 0 ≤ b ∧ arW raw k (a * 2 ^ (min b.toNat k.bits)) K
  | .shr, .int k a, .int _ b => 0 ≤ b ∧ K (.int k (a / 2 ^ (min b.toNat k.bits)))
  | .eql, .int k a, .int k' b => ifB (ikEq k k') (K (.bool (decide (a = b))))
  | .neq, .int k a, .int k' b => ifB (ikEq k k') (K (.bool (!decide (a = b))))
  | .lss, .int k a, .int k' b => ifB (ikEq k k') (K (.bool (decide (a < b))))
  | .leq, .int k a, .int k' b => ifB (ikEq k k') (K (.bool (decide (a ≤ b))))
  | .gtr, .int k a, .int k' b => ifB (ikEq k k') (K (.bool (decide (b < a))))
  | .geq, .int k a, .int k' b => ifB (ikEq k k') (K (.bool (decide (b ≤ a))))
  | .add, .string a, .string b => a.size + b.size ≤ 9223372036854775807 ∧ K (.string (a ++ b))
  | .eql, .string a, .string b => K (.bool (decide (a = b)))
  | .neq, .string a, .string b => K (.bool (!decide (a = b)))
  | .lss, .string a, .string b => K (.bool (Op.bytesLess a.toList b.toList))
  | .leq, .string a, .string b => K (.bool (Op.bytesLess a.toList b.toList || decide (a = b)))
  | .gtr, .string a, .string b => K (.bool (!(Op.bytesLess a.toList b.toList || decide (a = b))))
  | .geq, .string a, .string b => K (.bool (!Op.bytesLess a.toList b.toList))
  | .eql, .bool a, .bool b => ifB (tkB C t TK.isBool) (K (.bool (a == b)))
  | .neq, .bool a, .bool b => ifB (tkB C t TK.isBool) (K (.bool (!(a == b))))
  | .eql, .pointer p, .pointer none => ifB (tkB C t TK.isPtr) (K (.bool p.isNone))
  | .neq, .pointer p, .pointer none => ifB (tkB C t TK.isPtr) (K (.bool (!p.isNone)))
  | .eql, .slice A _ _, .slice none _ _ => ifB (tkB C t TK.isSlc) (K (.bool A.isNone))
  | .neq, .slice A _ _, .slice none _ _ => ifB (tkB C t TK.isSlc) (K (.bool (!A.isNone)))
  | .eql, .agg xs, .agg ys => ifB (natIn t C.eqs) (fitW C t xs.toList ys.toList ∧ K (.bool (cellsEq xs.toList ys.toList)))
  | .neq, .agg xs, .agg ys => ifB (natIn t C.eqs) (fitW C t xs.toList ys.toList ∧ K (.bool (!cellsEq xs.toList ys.toList)))
  | _, _, _ => False

theorem arW_spec {raw : Bool} {k : IntKind} {v : Int} {K : Value → Prop} (h : arW raw k v K) : K (.int k (k.wrap v)) := by
  cases raw with
  | true => exact h
  | false => rw [wrap_in k v h.1]; exact h.2
theorem arW_mono {raw : Bool} {k : IntKind} {v : Int} {K K' : Value → Prop} (hk : ∀ v, K v → K' v) (h : arW raw k v K) : arW raw k v K' := by
  cases raw with
  | true => exact hk _ h
  | false => exact ⟨h.1, hk _ h.2⟩
theorem toList_inj {a b : ByteArray} : (a.toList == b.toList) = decide (a = b) := by
  by_cases h : a = b
  · subst h; simp
  · simp only [h, decide_false]
    rw [beq_eq_false_iff_ne]
    intro he
    apply h
    rw [ByteArray.toList_eq, ByteArray.toList_eq] at he
    cases a; cases b; simp at he; simp [he]
end Go.Proofs.Ytkkjjjgcfnhabaa.Eng
namespace Go.Proofs.Ytkkjjjgcfnhabaa.Eng
open Go

theorem kind_und {P : Program} {i : TI} (h : TIok P i) {k : TK} (hk : i.k = k) : TK.of P (P.underlying i.t) = some k := by rw [h.kind, hk]
theorem of_struct {P : Program} {l : Array Field} : (TK.of P (some (.struct l))) = some .other ∨ ∃ fs, TK.of P (some (.struct l)) = some (.st fs) ∧ stPlaces P l.toList = some fs := by
  simp only [TK.of]
  cases h : stPlaces P l.toList with
  | none => exact .inl rfl
  | some x => exact .inr ⟨x, rfl, rfl⟩
theorem und_bool {P : Program} {i : TI} (h : TIok P i) (hk : i.k = .bool) : P.underlying i.t = some .bool := by
  have := kind_und h hk
  cases hu : P.underlying i.t with
  | none => simp [hu, TK.of] at this
  | some d =>
    rw [hu] at this
    cases d
    case struct l => rcases of_struct (P := P) (l := l) with e | ⟨fs, e, _⟩ <;> (rw [e] at this; simp at this)
    all_goals (simp [TK.of] at this; try rfl)
theorem und_str {P : Program} {i : TI} (h : TIok P i) (hk : i.k = .str) : P.underlying i.t = some .string := by
  have := kind_und h hk
  cases hu : P.underlying i.t with
  | none => simp [hu, TK.of] at this
  | some d =>
    rw [hu] at this
    cases d
    case struct l => rcases of_struct (P := P) (l := l) with e | ⟨fs, e, _⟩ <;> (rw [e] at this; simp at this)
    all_goals (simp [TK.of] at this; try rfl)
theorem und_int {P : Program} {i : TI} (h : TIok P i) {k : IntKind} (hk : i.k = .int k) : P.underlying i.t = some (.int k) := by
  have := kind_und h hk
  cases hu : P.underlying i.t with
  | none => simp [hu, TK.of] at this
  | some d =>
    rw [hu] at this
    cases d
    case struct l => rcases of_struct (P := P) (l := l) with e | ⟨fs, e, _⟩ <;> (rw [e] at this; simp at this)
    all_goals (simp [TK.of] at this; try (subst this; rfl))
theorem und_ptr {P : Program} {i : TI} (h : TIok P i) (hk : i.k = .ptr) : ∃ e, P.underlying i.t = some (.pointer e) := by
  have := kind_und h hk
  cases hu : P.underlying i.t with
  | none => simp [hu, TK.of] at this
  | some d =>
    rw [hu] at this
    cases d
    case struct l => rcases of_struct (P := P) (l := l) with e | ⟨fs, e, _⟩ <;> (rw [e] at this; simp at this)
    all_goals (simp [TK.of] at this; try exact ⟨_, rfl⟩)
theorem und_slc {P : Program} {i : TI} (h : TIok P i) {e : TypeId} (hk : i.k = .slc e) : P.underlying i.t = some (.slice e) := by
  have := kind_und h hk
  cases hu : P.underlying i.t with
  | none => simp [hu, TK.of] at this
  | some d =>
    rw [hu] at this
    cases d
    case struct l => rcases of_struct (P := P) (l := l) with e | ⟨fs, e, _⟩ <;> (rw [e] at this; simp at this)
    all_goals (simp [TK.of] at this; try (subst this; rfl))
theorem und_arr {P : Program} {i : TI} (h : TIok P i) {n : Nat} {e : TypeId} (hk : i.k = .arr n e) : P.underlying i.t = some (.array n e) := by
  have := kind_und h hk
  cases hu : P.underlying i.t with
  | none => simp [hu, TK.of] at this
  | some d =>
    rw [hu] at this
    cases d
    case struct l => rcases of_struct (P := P) (l := l) with e | ⟨fs, e, _⟩ <;> (rw [e] at this; simp at this)
    all_goals (simp [TK.of] at this; try (obtain ⟨rfl, rfl⟩ := this; rfl))
theorem und_st {P : Program} {i : TI} (h : TIok P i) {fs : List (Nat × Nat × Bool)} (hk : i.k = .st fs) :
    ∃ l, P.underlying i.t = some (.struct l) ∧ stPlaces P l.toList = some fs := by
  have := kind_und h hk
  cases hu : P.underlying i.t with
  | none => simp [hu, TK.of] at this
  | some d =>
    rw [hu] at this
    cases d
    case struct l =>
      rcases of_struct (P := P) (l := l) with e | ⟨fs', e, h2⟩
      · rw [e] at this; simp at this
      · rw [e] at this; simp at this; subst this; exact ⟨l, rfl, h2⟩
    all_goals simp [TK.of] at this
theorem stPlaces_map {P : Program} : ∀ {l : List Field} {fs : List (Nat × Nat × Bool)}, stPlaces P l = some fs →
    l.mapM (fun f => (P.info? f.type).map fun i => (f.offset, i.size)) = some (fs.map fun x => (x.1, x.2.1))
  | [], fs, h => by simp [stPlaces] at h; subst h; rfl
  | f :: r, fs, h => by
    simp only [stPlaces] at h
    split at h
    · rename_i i dd l h1 hd h2
      simp only [Option.some.injEq] at h
      subst h
      simp [List.mapM_cons, h1, stPlaces_map h2]
    · cases h
theorem stPlaces_get {P : Program} : ∀ {l : List Field} {fs : List (Nat × Nat × Bool)}, stPlaces P l = some fs → ∀ {j : Nat} {off size : Nat} {ag : Bool}, fs[j]? = some (off, size, ag) →
    ∃ f i dd, l[j]? = some f ∧ f.offset = off ∧ P.info? f.type = some i ∧ i.size = size ∧ P.underlying f.type = some dd ∧ isAggD (some dd) = ag
  | [], fs, h, j, off, size, ag, hj => by simp [stPlaces] at h; subst h; simp at hj
  | f :: r, fs, h, j, off, size, ag, hj => by
    simp only [stPlaces] at h
    split at h
    · rename_i i dd l h1 hd h2
      simp only [Option.some.injEq] at h
      subst h
      cases j with
      | zero => simp at hj; exact ⟨f, i, dd, rfl, hj.1, h1, hj.2.1, hd, hj.2.2⟩
      | succ j => simpa using stPlaces_get h2 (by simpa using hj)
    · cases h

theorem equalIn_bool {C : Ctx} {t : TypeId} (h : C.P.underlying t = some .bool) (a b : Bool) (w : World) (d : Nat) : (Op.equalIn (d + 1) t (.bool a) (.bool b)).run C.P w = .ok (a == b) w := by
  simp [Op.equalIn, run_underlying h]
theorem equalIn_ptr {C : Ctx} {t e : TypeId} (h : C.P.underlying t = some (.pointer e)) (p : Option Addr) (w : World) (d : Nat) : (Op.equalIn (d + 1) t (.pointer p) (.pointer none)).run C.P w = .ok p.isNone w := by
  cases p <;> simp [Op.equalIn, run_underlying h]
theorem equalIn_slc {C : Ctx} {t e : TypeId} (h : C.P.underlying t = some (.slice e)) (A : Option Addr) (n c n' c' : Nat) (w : World) (d : Nat) : (Op.equalIn (d + 1) t (.slice A n c) (.slice none n' c')).run C.P w = .ok A.isNone w := by
  cases A <;> simp [Op.equalIn, run_underlying h]
theorem equal_bool {C : Ctx} {t : TypeId} (h : C.P.underlying t = some .bool) (a b : Bool) (w : World) : (Op.equal t (.bool a) (.bool b)).run C.P w = .ok (a == b) w := equalIn_bool h a b w 9999
theorem equal_ptr {C : Ctx} {t e : TypeId} (h : C.P.underlying t = some (.pointer e)) (p : Option Addr) (w : World) : (Op.equal t (.pointer p) (.pointer none)).run C.P w = .ok p.isNone w := equalIn_ptr h p w 9999
theorem equal_slc {C : Ctx} {t e : TypeId} (h : C.P.underlying t = some (.slice e)) (A : Option Addr) (n c n' c' : Nat) (w : World) : (Op.equal t (.slice A n c) (.slice none n' c')).run C.P w = .ok A.isNone w := equalIn_slc h A n c n' c' w 9999
theorem tk_bool {k : TK} (h : k.isBool = true) : k = .bool := by cases k <;> simp [TK.isBool] at h; rfl
theorem tk_ptr {k : TK} (h : k.isPtr = true) : k = .ptr := by cases k <;> simp [TK.isPtr] at h; rfl
theorem tk_slc {k : TK} (h : k.isSlc = true) : ∃ e, k = .slc e := by cases k <;> simp [TK.isSlc] at h; exact ⟨_, rfl⟩
theorem tk_str {k : TK} (h : k.isStr = true) : k = .str := by cases k <;> simp [TK.isStr] at h; rfl
theorem fdiv_two (a : Int) (n : Nat) : a.fdiv (2 ^ n) = a / 2 ^ n := Int.fdiv_eq_ediv_of_nonneg _ (Int.le_of_lt (Int.pow_pos (by omega)))

theorem binW_run {C : Ctx} (ok : C.OK) {raw : Bool} {op : BinOp} {t : TypeId} {x y : Value} {K : Value → Prop} (h : binW C raw op t x y K) (X Y : Operand) :
    ∃ v, (∀ w, (do eqGuard op t X Y x y; binOp op t x y : Sem Value).run C.P w = .ok v w) ∧ K v := by
  unfold binW at h
  split at h
  case h_1 k a k' b => obtain ⟨e, h2⟩ := ifB_spec h; clear h; obtain rfl := ikEq_eq e; have h := h2; clear h2; exact ⟨_, by intro w; simp [eqGuard, binOp, Op.intArith], arW_spec h⟩
  case h_2 k a k' b => obtain ⟨e, h2⟩ := ifB_spec h; clear h; obtain rfl := ikEq_eq e; have h := h2; clear h2; exact ⟨_, by intro w; simp [eqGuard, binOp, Op.intArith], arW_spec h⟩
  case h_3 k a k' b => obtain ⟨e, h2⟩ := ifB_spec h; clear h; obtain rfl := ikEq_eq e; have h := h2; clear h2; exact ⟨_, by intro w; simp [eqGuard, binOp, Op.intArith], arW_spec h⟩
  case h_4 k a k' b =>
    obtain ⟨e, h2⟩ := ifB_spec h; clear h; obtain rfl := ikEq_eq e; have h := h2; clear h2
    cases raw with
    | true => simp only at h; exact ⟨_, by intro w; simp [eqGuard, binOp, Op.intDiv, h.1], h.2⟩
    | false =>
      simp only at h
      obtain ⟨⟨h0, h1, h2⟩, hk⟩ := h
      have e1 : a.tdiv b = a / b := by rw [Int.tdiv_eq_ediv_of_nonneg h0]
      have e2 : k.wrap (a / b) = a / b := wrap_in k _ ⟨by
        have : 0 ≤ a / b := Int.ediv_nonneg h0 (by omega)
        have : iMin k ≤ 0 := by cases k <;> simp [iMin]
        omega, by
        have : a / b ≤ a := Int.ediv_le_self b h0
        omega⟩
      exact ⟨.int k (a / b), by intro w; simp [eqGuard, binOp, Op.intDiv, show b ≠ 0 by omega, e1, e2], hk⟩
  case h_5 k a k' b =>
    obtain ⟨e, h2⟩ := ifB_spec h; clear h; obtain rfl := ikEq_eq e; have h := h2; clear h2
    cases raw with
    | true => simp only at h; exact ⟨_, by intro w; simp [eqGuard, binOp, Op.intDiv, h.1], h.2⟩
    | false =>
      simp only at h
      obtain ⟨⟨h0, h2⟩, hk⟩ := h
      exact ⟨.int k (a % b), by intro w; simp [eqGuard, binOp, Op.intDiv, show b ≠ 0 by omega, Int.tmod_eq_emod_of_nonneg h0], hk⟩
  case h_6 k a k' b => obtain ⟨e, h2⟩ := ifB_spec h; clear h; obtain rfl := ikEq_eq e; have h := h2; clear h2; exact ⟨.int k (bAnd k a b), by intro w; simp [eqGuard, binOp, Op.intBits, bAnd], h⟩
  case h_7 k a k' b => obtain ⟨e, h2⟩ := ifB_spec h; clear h; obtain rfl := ikEq_eq e; have h := h2; clear h2; exact ⟨.int k (bOr k a b), by intro w; simp [eqGuard, binOp, Op.intBits, bOr], h⟩
  case h_8 k a k' b => obtain ⟨e, h2⟩ := ifB_spec h; clear h; obtain rfl := ikEq_eq e; have h := h2; clear h2; exact ⟨.int k (bXor k a b), by intro w; simp [eqGuard, binOp, Op.intBits, bXor], h⟩
  case h_9 k a k' b => obtain ⟨e, h2⟩ := ifB_spec h; clear h; obtain rfl := ikEq_eq e; have h := h2; clear h2; exact ⟨.int k (bClr k a b), by intro w; simp [eqGuard, binOp, Op.intBits, bClr], h⟩
  case h_10 k a k' b => exact ⟨_, by intro w; simp [eqGuard, binOp, Op.shift, show ¬ b < 0 by omega], arW_spec h.2⟩
  case h_11 k a k' b => exact ⟨.int k (a / 2 ^ (min b.toNat k.bits)), by intro w; simp [eqGuard, binOp, Op.shift, show ¬ b < 0 by omega, fdiv_two], h.2⟩
  case h_12 k a k' b => obtain ⟨e, h2⟩ := ifB_spec h; clear h; obtain rfl := ikEq_eq e; have h := h2; clear h2; exact ⟨.bool (decide (a = b)), by intro w; simp [eqGuard, binOp, Op.intCmp, Bool.beq_eq_decide_eq], h⟩
  case h_13 k a k' b => obtain ⟨e, h2⟩ := ifB_spec h; clear h; obtain rfl := ikEq_eq e; have h := h2; clear h2; exact ⟨.bool (!decide (a = b)), by intro w; simp [eqGuard, binOp, Op.intCmp]; by_cases e : a = b <;> simp [e], h⟩
  case h_14 k a k' b => obtain ⟨e, h2⟩ := ifB_spec h; clear h; obtain rfl := ikEq_eq e; have h := h2; clear h2; exact ⟨.bool (decide (a < b)), by intro w; simp [eqGuard, binOp, Op.intCmp, Bool.beq_eq_decide_eq], h⟩
  case h_15 k a k' b => obtain ⟨e, h2⟩ := ifB_spec h; clear h; obtain rfl := ikEq_eq e; have h := h2; clear h2; exact ⟨.bool (decide (a ≤ b)), by intro w; simp [eqGuard, binOp, Op.intCmp, Bool.beq_eq_decide_eq], h⟩
  case h_16 k a k' b => obtain ⟨e, h2⟩ := ifB_spec h; clear h; obtain rfl := ikEq_eq e; have h := h2; clear h2; exact ⟨.bool (decide (b < a)), by intro w; simp [eqGuard, binOp, Op.intCmp, Bool.beq_eq_decide_eq], h⟩
  case h_17 k a k' b => obtain ⟨e, h2⟩ := ifB_spec h; clear h; obtain rfl := ikEq_eq e; have h := h2; clear h2; exact ⟨.bool (decide (b ≤ a)), by intro w; simp [eqGuard, binOp, Op.intCmp, Bool.beq_eq_decide_eq], h⟩
  case h_18 a b =>
    refine ⟨.string (a ++ b), ?_, h.2⟩
    have h1 := h.1
    have hm : IntKind.i64.max = 9223372036854775807 := by decide
    intro w; simp [eqGuard, binOp, Op.stringOp, hm]; omega
  case h_19 a b => exact ⟨.bool (decide (a = b)), by intro w; simp [eqGuard, binOp, Op.stringOp, toList_inj], h⟩
  case h_20 a b => exact ⟨.bool (!decide (a = b)), by intro w; simp [eqGuard, binOp, Op.stringOp, toList_inj], h⟩
  case h_21 a b => exact ⟨.bool (Op.bytesLess a.toList b.toList), by intro w; simp [eqGuard, binOp, Op.stringOp, toList_inj], h⟩
  case h_22 a b => exact ⟨.bool (Op.bytesLess a.toList b.toList || decide (a = b)), by intro w; simp [eqGuard, binOp, Op.stringOp, toList_inj], h⟩
  case h_23 a b => exact ⟨.bool (!(Op.bytesLess a.toList b.toList || decide (a = b))), by intro w; simp [eqGuard, binOp, Op.stringOp, toList_inj], h⟩
  case h_24 a b => exact ⟨.bool (!Op.bytesLess a.toList b.toList), by intro w; simp [eqGuard, binOp, Op.stringOp, toList_inj], h⟩
  case h_25 a b =>
    obtain ⟨e, h2⟩ := ifB_spec h
    obtain ⟨i, hi, hk⟩ := tkB_spec e
    obtain ⟨rfl, oi⟩ := ok.get hi
    exact ⟨.bool (a == b), by intro w; simp [eqGuard, binOp, equal_bool (und_bool oi (tk_bool hk))], h2⟩
  case h_26 a b =>
    obtain ⟨e, h2⟩ := ifB_spec h
    obtain ⟨i, hi, hk⟩ := tkB_spec e
    obtain ⟨rfl, oi⟩ := ok.get hi
    exact ⟨.bool (!(a == b)), by intro w; simp [eqGuard, binOp, equal_bool (und_bool oi (tk_bool hk))], h2⟩
  case h_27 p =>
    obtain ⟨e, h2⟩ := ifB_spec h
    obtain ⟨i, hi, hk⟩ := tkB_spec e
    obtain ⟨rfl, oi⟩ := ok.get hi
    obtain ⟨_, he⟩ := und_ptr oi (tk_ptr hk)
    exact ⟨.bool p.isNone, by intro w; simp [eqGuard, binOp, equal_ptr he], h2⟩
  case h_28 p =>
    obtain ⟨e, h2⟩ := ifB_spec h
    obtain ⟨i, hi, hk⟩ := tkB_spec e
    obtain ⟨rfl, oi⟩ := ok.get hi
    obtain ⟨_, he⟩ := und_ptr oi (tk_ptr hk)
    exact ⟨.bool (!p.isNone), by intro w; simp [eqGuard, binOp, equal_ptr he], h2⟩
  case h_29 A n c n' c' =>
    obtain ⟨e, h2⟩ := ifB_spec h
    obtain ⟨i, hi, hk⟩ := tkB_spec e
    obtain ⟨rfl, oi⟩ := ok.get hi
    obtain ⟨_, hk⟩ := tk_slc hk
    exact ⟨.bool A.isNone, by intro w; simp [eqGuard, binOp, equal_slc (und_slc oi hk)], h2⟩
  case h_30 A n c n' c' =>
    obtain ⟨e, h2⟩ := ifB_spec h
    obtain ⟨i, hi, hk⟩ := tkB_spec e
    obtain ⟨rfl, oi⟩ := ok.get hi
    obtain ⟨_, hk⟩ := tk_slc hk
    exact ⟨.bool (!A.isNone), by intro w; simp [eqGuard, binOp, equal_slc (und_slc oi hk)], h2⟩
  case h_31 xs ys =>
    obtain ⟨e, hf, h2⟩ := ifB_spec h
    obtain ⟨i, hi, f1, f2⟩ := fitW_spec hf
    have := fun w => (ok.eqs t (natIn_mem e) i hi xs.toList ys.toList f1 f2 X Y w).1
    simp only [Array.toArray_toList] at this
    exact ⟨_, this, h2⟩
  case h_32 xs ys =>
    obtain ⟨e, hf, h2⟩ := ifB_spec h
    obtain ⟨i, hi, f1, f2⟩ := fitW_spec hf
    have := fun w => (ok.eqs t (natIn_mem e) i hi xs.toList ys.toList f1 f2 X Y w).2
    simp only [Array.toArray_toList] at this
    exact ⟨_, this, h2⟩
  case h_33 => exact h.elim

theorem binW_mono {C : Ctx} {raw : Bool} {op : BinOp} {t : TypeId} {x y : Value} {K K' : Value → Prop} (hk : ∀ v, K v → K' v) (h : binW C raw op t x y K) : binW C raw op t x y K' := by
  unfold binW at h ⊢
  split at h <;>
    first
    | exact h.elim
    | exact ifB_mono h (hk _)
    | exact ifB_mono h (arW_mono hk)
    | exact hk _ h
    | exact ⟨h.1, hk _ h.2⟩
    | exact ⟨h.1, arW_mono hk h.2⟩
    | (refine ifB_mono h (fun h => ?_); cases raw <;> exact ⟨h.1, hk _ h.2⟩)
    | exact ifB_mono h (fun h => ⟨h.1, hk _ h.2⟩)
end Go.Proofs.Ytkkjjjgcfnhabaa.Eng
namespace Go.Proofs.Ytkkjjjgcfnhabaa.Eng
open Go

theorem add_off (b o n : Nat) : (⟨b, o, none⟩ : Addr).add n = ⟨b, o + n, none⟩ := by unfold Addr.add; split <;> simp_all
def vcells : Value → List Value
  | .agg cs => cs.toList
  | v => [v]
theorem vcells_eq (v : Value) : v.cells.toList = vcells v := by cases v <;> rfl
theorem cells_eq (v : Value) : v.cells = (vcells v).toArray := by rw [← vcells_eq]

/-! #### load, store, alloc, box -/
def loadW (C : Ctx) (t : TypeId) (p : Value) (H : Hp) (K : Value → Hp → Prop) : Prop :=
  match p with
  | .pointer (some ⟨b, o, none⟩) => (match tget C.T t with
    | some i => ldW i H b o fun v => K v H
    | none => False)
  | _ => False
theorem loadW_run {C : Ctx} (ok : C.OK) {φ : Fx} {t : TypeId} {p : Value} {H : Hp} {K : Value → Hp → Prop} (h : loadW C t p H K) : RunsQ C.P φ (Instr.loadAt t p) H (K · H) := by
  unfold loadW at h
  split at h
  · split at h
    · rename_i i hi
      obtain ⟨v, hr, hk⟩ := ldW_run ok hi (φ := φ) h
      exact ⟨v, fun d => by simp [Instr.loadAt, Instr.sureAddr, hr], hk⟩
    · exact h.elim
  · exact h.elim
theorem loadW_mono {C : Ctx} {t : TypeId} {p : Value} {H : Hp} {K K' : Value → Hp → Prop} (hk : ∀ v H', K v H' → K' v H') (h : loadW C t p H K) : loadW C t p H K' := by
  unfold loadW at h ⊢
  split at h
  · split at h
    · exact ldW_mono (fun _ => hk _ _) h
    · exact h.elim
  · exact h.elim
def fitsN : List Value → Nat → Prop → Prop
  | [], 0, p => p
  | _ :: r, n + 1, p => fitsN r n p
  | _, _, _ => False
theorem fitsN_iff : ∀ (l : List Value) (n : Nat) (p : Prop), fitsN l n p ↔ l.length = n ∧ p
  | [], 0, p => by simp [fitsN]
  | [], n + 1, p => by simp [fitsN]
  | a :: r, 0, p => by simp [fitsN]
  | a :: r, n + 1, p => by simp [fitsN, fitsN_iff r n p]
def storeW (C : Ctx) (t : TypeId) (p v : Value) (H : Hp) (K : Value → Hp → Prop) : Prop :=
  match p with
  | .pointer (some ⟨b, o, none⟩) => (match tget C.T t with
    | some i => fitsN (vcells v) i.size (canPut H b o (vcells v) ∧ K undef (hput H b o (vcells v)))
    | none => False)
  | _ => False
theorem storeW_run {C : Ctx} (ok : C.OK) {φ : Fx} {t : TypeId} {p v : Value} {H : Hp} {K : Value → Hp → Prop} (h : storeW C t p v H K) : RunsU C.P φ (Instr.storeAt t p v) H (K undef) := by
  intro d
  unfold storeW at h
  split at h
  · split at h
    · rename_i b o _ i hi
      obtain ⟨hb, hc, hk⟩ := (fitsN_iff _ _ _).1 h
      obtain ⟨rfl, oi⟩ := ok.get hi
      obtain ⟨⟨x, z, hx, hs, _⟩, _⟩ := oi
      refine ⟨_, d, ?_, hk⟩
      have := run_storeCells C.P φ d b o (vcells v) 0 H (by simpa using hc)
      simp only [Nat.add_zero] at this
      have hl : v.cells.size = i.size := by rw [cells_eq]; simpa using hb
      simp [Instr.storeAt, Instr.sureAddr, storeVar, sizeOf, typeInfo, hx, hs, hl, vcells_eq, this]
    · exact h.elim
  · exact h.elim
theorem storeW_mono {C : Ctx} {t : TypeId} {p v : Value} {H : Hp} {K K' : Value → Hp → Prop} (hk : ∀ v H', K v H' → K' v H') (h : storeW C t p v H K) : storeW C t p v H K' := by
  unfold storeW at h ⊢
  split at h
  · split at h
    · exact (fitsN_iff _ _ _).2 ⟨((fitsN_iff _ _ _).1 h).1, ((fitsN_iff _ _ _).1 h).2.1, hk _ _ ((fitsN_iff _ _ _).1 h).2.2⟩
    · exact h.elim
  · exact h.elim
def allocW (C : Ctx) (t : TypeId) (H : Hp) (K : Value → Hp → Prop) : Prop :=
  match tget C.T t with
  | some i => K (.pointer (some ⟨H.size, 0, none⟩)) (H.push (.cells i.zero.toArray t (0, 0)))
  | none => False
theorem at_push (φ : Fx) (H : Hp) (d : Nat) (o : Obj) : { φ.at H d with heap := (φ.at H d).heap.push o } = φ.at (H.push o) d := rfl
theorem run_newRow (P : Program) (φ : Fx) (H : Hp) (d : Nat) (t : TypeId) (c : Array Value) : (newRow t c).run P (φ.at H d) = .ok ⟨H.size, 0, none⟩ (φ.at (H.push (.cells c t (0, 0))) d) := by
  simp only [newRow, Sem.run_bind, run_newObj, Result.andThen_ok, Sem.run_pure]; rfl
theorem zero_run {C : Ctx} (ok : C.OK) {t : TypeId} {i : TI} (hi : tget C.T t = some i)  : ∃ z, (∀ w, (zeroValue t).run C.P w = .ok z w) ∧ z.cells.toList = i.zero := by
  obtain ⟨rfl, oi⟩ := ok.get hi
  obtain ⟨⟨x, z, hx, hs, _, hz, hc⟩, _⟩ := oi
  exact ⟨z, fun w => by simp [zeroValue, typeInfo, hx, hz], hc⟩
theorem size_run {C : Ctx} (ok : C.OK) {t : TypeId} {i : TI} (hi : tget C.T t = some i) (w : World) : (sizeOf t).run C.P w = .ok i.size w := by
  obtain ⟨rfl, oi⟩ := ok.get hi
  obtain ⟨⟨x, z, hx, hs, _, hz, hc⟩, _⟩ := oi
  simp [sizeOf, typeInfo, hx, hs]
theorem bytes_run {C : Ctx} (ok : C.OK) {t : TypeId} {i : TI} (hi : tget C.T t = some i) (w : World) : ∃ x, (typeInfo t).run C.P w = .ok x w ∧ x.bytes = i.bytes ∧ x.size = i.size := by
  obtain ⟨rfl, oi⟩ := ok.get hi
  obtain ⟨⟨x, z, hx, hs, hb, hz, hc⟩, _⟩ := oi
  exact ⟨x, by simp [typeInfo, hx], hb, hs⟩
theorem allocW_run {C : Ctx} (ok : C.OK) {φ : Fx} {t : TypeId} {H : Hp} {K : Value → Hp → Prop} (h : allocW C t H K) : RunsV C.P φ (Instr.alloc t true (.tuple #[])) H K := by
  intro d
  unfold allocW at h
  split at h
  · rename_i i hi
    obtain ⟨z, hz, hc⟩ := zero_run ok hi
    refine ⟨_, _, d, ?_, h⟩
    have : z.cells = i.zero.toArray := by rw [← hc]
    simp [Instr.alloc, hz, newVar, run_newRow, this]
  · exact h.elim
theorem allocW_mono {C : Ctx} {t : TypeId} {H : Hp} {K K' : Value → Hp → Prop} (hk : ∀ v H', K v H' → K' v H') (h : allocW C t H K) : allocW C t H K' := by
  unfold allocW at h ⊢
  split at h
  · exact hk _ _ h
  · exact h.elim
theorem box_run {P : Program} {φ : Fx} {t : TypeId} {v : Value} {H : Hp} {K : Value → Hp → Prop} (h : K (.pointer (some ⟨H.size, 0, none⟩)) (H.push (.cells (vcells v).toArray t (0, 0)))) : RunsV P φ (Instr.box t v) H K := by
  intro d
  exact ⟨_, _, d, by simp [Instr.box, newVar, run_newRow, cells_eq], h⟩

/-! #### build -/
def lspl (c : List Value) (o : Nat) (vs : List Value) : List Value := c.take o ++ vs ++ c.drop (o + vs.length)
def fillL (place : Nat → Option (Nat × Nat)) (cells : List Value) : List (Nat × Value) → Option (List Value)
  | [] => some cells
  | (i, v) :: rest =>
    match place i with
    | none => none
    | some (off, size) =>
      match Nat.beq (vcells v).length size with
      | false => none
      | true => match Nat.ble (off + (vcells v).length) cells.length with
        | false => none
        | true => fillL place (lspl cells off (vcells v)) rest
theorem foldl_set (off : Nat) : ∀ (l : List Value) (k : Nat) (arr : Array Value), off + k + l.length ≤ arr.size →
    (l.zipIdx k).foldl (fun cs x => cs.setIfInBounds (off + x.2) x.1) arr = spl arr (off + k) l
  | [], k, arr, h => by simp [spl_nil]
  | v :: l, k, arr, h => by
    simp only [List.zipIdx_cons, List.foldl_cons]
    rw [foldl_set off l (k + 1) _ (by simp at h ⊢; omega), show off + (k + 1) = off + k + 1 from by omega]
    exact spl_cons _ _ _ _ (by simp at h; omega)
theorem fill_eq (place : Nat → Option (Nat × Nat)) : ∀ (parts : List (Nat × Value)) (cells : List Value) (cs : List Value), fillL place cells parts = some cs → Instr.fill place cells.toArray parts = some cs.toArray
  | [], cells, cs, h => by simp [fillL] at h; subst h; rfl
  | (i, v) :: rest, cells, cs, h => by
    simp only [fillL] at h
    split at h
    · cases h
    · rename_i off size hp
      split at h
      · cases h
      · rename_i h1
        split at h
        · cases h
        · rename_i h2
          have h1 := Nat.eq_of_beq_eq_true h1
          have h2 := Nat.le_of_ble_eq_true h2
          have ih := fill_eq place rest _ cs h
          have hcs : v.cells.size = size := by rw [cells_eq]; simpa using h1
          have e : v.cells.zipIdx.foldl (fun cs x => cs.setIfInBounds (off + x.2) x.1) cells.toArray = (lspl cells off (vcells v)).toArray := by
            rw [cells_eq]
            rw [← Array.foldl_toList, Array.toList_zipIdx]
            have := foldl_set off (vcells v) 0 cells.toArray (by simpa using h2)
            simp only [Nat.add_zero] at this
            rw [this]; rfl
          simp only [Instr.fill, hp]
          rw [if_neg]
          · rw [e]; exact ih
          · rw [hcs]; rw [h1] at h2; simp; omega
def buildW (C : Ctx) (t : TypeId) (parts : List (Nat × Value)) (K : Value → Prop) : Prop :=
  match tget C.T t with
  | some i => (match i.k with
    | .st fs => (match fillL (fun j => (fs[j]?).map fun f => (f.1, f.2.1)) i.zero parts with
      | some cs => K (.agg cs.toArray)
      | none => False)
    | .arr _ e => (match tget C.T e with
      | some ie => (match fillL (fun j => some (j * ie.size, ie.size)) i.zero parts with
        | some cs => K (.agg cs.toArray)
        | none => False)
      | none => False)
    | _ => False)
  | none => False
theorem buildW_run {C : Ctx} (ok : C.OK) {t : TypeId} {parts : Array (Nat × Value)} {H : Hp} {K : Value → Hp → Prop} (h : buildW C t parts.toList (K · H)) : RunsP C.P (Instr.build t parts) (K · H) := by
  unfold buildW at h
  split at h
  · rename_i i hi
    obtain ⟨z, hz, hc⟩ := zero_run ok hi
    have hzc : z.cells = i.zero.toArray := by rw [← hc]
    obtain ⟨rfl, oi⟩ := ok.get hi
    split at h
    · rename_i fs hk
      obtain ⟨l, hu, hfs⟩ := und_st oi hk
      split at h
      · rename_i cs hf
        have hfl := fill_eq _ _ _ _ hf
        have hp := fun w => run_places w _ _ (stPlaces_map hfs)
        refine ⟨_, fun w => ?_, h⟩
        have e : (fun j : Nat => (fs.map fun (x : Nat × Nat × Bool) => (x.1, x.2.1))[j]?) = fun j : Nat => (fs[j]?).map fun (f : Nat × Nat × Bool) => (f.1, f.2.1) := by funext j; simp
        simp [Instr.build, run_underlying hu, hz, hzc, Array.mapM_eq_mapM_toList, hp]
        simp [hfl]
      · exact h.elim
    · rename_i n e hk
      have hu := und_arr oi hk
      split at h
      · rename_i ie hie
        split at h
        · rename_i cs hf
          have hfl := fill_eq _ _ _ _ hf
          exact ⟨_, fun w => by simp [Instr.build, run_underlying hu, hz, hzc, size_run ok hie, hfl], h⟩
        · exact h.elim
      · exact h.elim
    · exact h.elim
  · exact h.elim
theorem buildW_mono {C : Ctx} {t : TypeId} {parts : List (Nat × Value)} {K K' : Value → Prop} (hk : ∀ v, K v → K' v) (h : buildW C t parts K) : buildW C t parts K' := by
  unfold buildW at h ⊢
  repeat' split at h
  all_goals first | exact h.elim | skip
  all_goals simp_all
end Go.Proofs.Ytkkjjjgcfnhabaa.Eng
namespace Go.Proofs.Ytkkjjjgcfnhabaa.Eng
open Go

/-! #### rows of zeros; slices that are made -/
def zrow (zero : List Value) : Nat → List Value
  | 0 => []
  | n + 1 => zero ++ zrow zero n
theorem zrow_length (zero : List Value) (n : Nat) : (zrow zero n).length = n * zero.length := by
  induction n with
  | zero => simp [zrow]
  | succ n ih => simp [zrow, ih, Nat.succ_mul]; omega
theorem zrow_get (zero : List Value) (h : 0 < zero.length) : ∀ (n i : Nat), i < n * zero.length → (zrow zero n)[i]? = zero[i % zero.length]?
  | 0, i, hi => by simp at hi
  | n + 1, i, hi => by
    simp only [zrow]
    by_cases h1 : i < zero.length
    · rw [List.getElem?_append_left h1, Nat.mod_eq_of_lt h1]
    · rw [List.getElem?_append_right (by omega), zrow_get zero h n _ (by rw [Nat.succ_mul] at hi; omega)]
      congr 1
      conv => rhs; rw [show i = (i - zero.length) + zero.length from by omega, Nat.add_mod_right]
theorem range_zrow (zero : Array Value) (n : Nat) (h : 0 < zero.size ∨ n = 0) : ((Array.range (n * zero.size)).map fun i => zero[i % zero.size]!) = (zrow zero.toList n).toArray := by
  apply Array.ext_getElem?
  intro i
  rcases h with h | rfl
  · by_cases hi : i < n * zero.size
    · have h2 : i % zero.size < zero.size := Nat.mod_lt _ h
      simp only [Array.getElem?_map, Array.getElem?_range, hi, if_true, Option.map_some, List.getElem?_toArray]
      rw [zrow_get zero.toList (by simpa using h) n i (by simpa using hi)]
      simp [h2]
    · have h2 : (zrow zero.toList n).length ≤ i := by rw [zrow_length]; simp; omega
      simp [hi, h2, Array.getElem?_eq_none]
  · simp [zrow]
theorem zeroCells_zrow (zero : Array Value) (n : Nat) : Builtin.zeroCells zero n = (zrow zero.toList n).toArray := by
  by_cases h : 0 < zero.size
  · exact range_zrow zero n (.inl h)
  · have h0 : zero.size = 0 := by omega
    have h1 : zero = #[] := Array.eq_empty_of_size_eq_zero h0
    subst h1
    have : ∀ n, zrow [] n = [] := fun n => by induction n with
      | zero => rfl
      | succ n ih => simp [zrow, ih]
    simp [Builtin.zeroCells, this]

def oneP (len : Nat) (parts : List (Nat × Value)) : Option Value :=
  match len, parts with
  | 1, [(0, v)] => some v
  | _, _ => none
theorem oneP_spec {len : Nat} {parts : List (Nat × Value)} {v : Value} (h : oneP len parts = some v) : len = 1 ∧ parts = [(0, v)] := by
  unfold oneP at h
  split at h
  · cases h; exact ⟨rfl, rfl⟩
  · cases h
def bsliceW (C : Ctx) (t : TypeId) (len : Nat) (parts : List (Nat × Value)) (H : Hp) (K : Value → Hp → Prop) : Prop :=
  match tget C.T t with
  | some i => (match i.k with
    | .slc e => (match tget C.T e with
      | some ie => ifB (Nat.ble (len * ie.size) 16777216 && Nat.blt 0 ie.size && Nat.beq ie.zero.length ie.size)
          (match oneP len parts with
          | some v => fitsN (vcells v) ie.size (K (.slice (some ⟨H.size, 0, none⟩) len len) (H.push (.cells (vcells v).toArray e (0, 0))))
          | none => (match fillL (fun j => some (j * ie.size, ie.size)) (zrow ie.zero len) parts with
            | some cs => K (.slice (some ⟨H.size, 0, none⟩) len len) (H.push (.cells cs.toArray e (0, 0)))
            | none => False))
      | none => False)
    | _ => False)
  | none => False
theorem bsliceW_run {C : Ctx} (ok : C.OK) {φ : Fx} {t : TypeId} {len : Nat} {parts : Array (Nat × Value)} {H : Hp} {K : Value → Hp → Prop} (h : bsliceW C t len parts.toList H K) : RunsV C.P φ (Instr.buildSlice t len parts) H K := by
  intro d
  unfold bsliceW at h
  split at h
  · rename_i i hi
    obtain ⟨rfl, oi⟩ := ok.get hi
    split at h
    · rename_i e hk
      have hu := und_slc oi hk
      split at h
      · rename_i ie hie
        obtain ⟨z, hz, hc⟩ := zero_run ok hie
        have hzc : z.cells = ie.zero.toArray := by rw [← hc]
        obtain ⟨hb, h⟩ := ifB_spec h
        simp only [Bool.and_eq_true] at hb
        obtain ⟨⟨hb1, hb2⟩, hb3⟩ := hb
        have hb1 := Nat.le_of_ble_eq_true hb1
        have hb2 : 0 < ie.size := Nat.le_of_ble_eq_true hb2
        have hb3 := Nat.eq_of_beq_eq_true hb3
        have key : ∃ cs, fillL (fun j => some (j * ie.size, ie.size)) (zrow ie.zero len) parts.toList = some cs ∧ K (.slice (some ⟨H.size, 0, none⟩) len len) (H.push (.cells cs.toArray e (0, 0))) := by
          split at h
          · rename_i v hv
            obtain ⟨rfl, hp⟩ := oneP_spec hv
            obtain ⟨h1, h2⟩ := (fitsN_iff _ _ _).1 h
            refine ⟨vcells v, ?_, h2⟩
            rw [hp]
            have e1 : Nat.beq (vcells v).length ie.size = true := by rw [h1]; exact Nat.beq_refl _
            have e2 : Nat.ble (0 * ie.size + (vcells v).length) (zrow ie.zero 1).length = true := by
              rw [zrow_length, hb3, h1]; exact Nat.ble_eq_true_of_le (by omega)
            simp only [fillL, e1, e2]
            have e3 : (zrow ie.zero 1).length = (vcells v).length := by rw [zrow_length, hb3, h1]; omega
            simp [lspl, e3]
          · split at h
            · rename_i cs hf; exact ⟨cs, hf, h⟩
            · exact h.elim
        clear h
        obtain ⟨cs, hf, h⟩ := key
        · have hfl := fill_eq _ _ _ _ hf
          refine ⟨_, _, d, ?_, h⟩
          have hz2 := range_zrow ie.zero.toArray len (.inl (by simp; omega))
          simp only [List.size_toArray, hb3] at hz2
          have h1 : ¬ 16777216 < len * ie.size := by omega
          by_cases hl : len * ie.size = 0
          · have hl0 : len = 0 := by rcases Nat.mul_eq_zero.1 hl with h | h <;> omega
            subst hl0
            simp [Instr.buildSlice, run_underlying hu, size_run ok hie]
            simp [zrow] at hfl
            have e0 : (Array.map (fun _ : Nat => (default : Value)) (Array.range 0)) = #[] := by simp
            rw [e0, hfl]
            simp [run_newRow]
          · simp [Instr.buildSlice, run_underlying hu, size_run ok hie, h1, hl, hz, hzc]
            simp [hb3] at hz2 ⊢
            rw [hz2]
            simp [hfl, run_newRow]
      · exact h.elim
    · exact h.elim
  · exact h.elim
theorem bsliceW_mono {C : Ctx} {t : TypeId} {len : Nat} {parts : List (Nat × Value)} {H : Hp} {K K' : Value → Hp → Prop} (hk : ∀ v H', K v H' → K' v H') (h : bsliceW C t len parts H K) : bsliceW C t len parts H K' := by
  unfold bsliceW at h ⊢
  split at h
  · split at h
    · split at h
      · refine ifB_mono h (fun h => ?_)
        split at h
        · exact (fitsN_iff _ _ _).2 ⟨((fitsN_iff _ _ _).1 h).1, hk _ _ ((fitsN_iff _ _ _).1 h).2⟩
        · split at h
          · exact hk _ _ h
          · exact h.elim
      · exact h.elim
    · exact h.elim
  · exact h.elim

/-! #### addresses -/
def fieldAddrW (C : Ctx) (t : TypeId) (p : Value) (f : Nat) (H : Hp) (K : Value → Hp → Prop) : Prop :=
  match p with
  | .pointer (some ⟨b, o, none⟩) => (match tget C.T t with
    | some i => (match i.k with
      | .st fs => (match fs[f]? with
        | some (off, size, _) => ifB (Nat.blt 0 size) (K (.pointer (some ⟨b, o + off, none⟩)) H)
        | none => False)
      | _ => False)
    | none => False)
  | _ => False
theorem fieldAddrW_run {C : Ctx} (ok : C.OK) {t : TypeId} {p : Value} {f : Nat} {H : Hp} {K : Value → Hp → Prop} (h : fieldAddrW C t p f H K) : RunsP C.P (Instr.fieldAt t p f) (K · H) := by
  unfold fieldAddrW at h
  split at h
  · split at h
    · rename_i b o _ i hi
      obtain ⟨rfl, oi⟩ := ok.get hi
      split at h
      · rename_i fs hk
        obtain ⟨l, hu, hfs⟩ := und_st oi hk
        split at h
        · rename_i off size ag hf
          obtain ⟨fl, inf, dd, h1, h2, h3, h4, hft, h5⟩ := stPlaces_get hfs hf
          obtain ⟨hb, hK⟩ := ifB_spec h
          have hb : 0 < size := Nat.le_of_ble_eq_true hb
          have h1' : l[f]? = some fl := by simpa using h1
          refine ⟨_, fun w => ?_, hK⟩
          have : ¬ inf.size = 0 := by omega
          simp [Instr.fieldAt, run_underlying hu, h1', Instr.sureAddr, fieldPlace, sizeOf, typeInfo, h3, this, add_off, h2]
        · exact h.elim
      · exact h.elim
    · exact h.elim
  · exact h.elim
theorem fieldAddrW_mono {C : Ctx} {t : TypeId} {p : Value} {f : Nat} {H : Hp} {K K' : Value → Hp → Prop} (hk : ∀ v H', K v H' → K' v H') (h : fieldAddrW C t p f H K) : fieldAddrW C t p f H K' := by
  unfold fieldAddrW at h ⊢
  split at h
  · split at h
    · split at h
      · split at h
        · exact ifB_mono h (hk _ _)
        · exact h.elim
      · exact h.elim
    · exact h.elim
  · exact h.elim
def indexAddrW (C : Ctx) (t : TypeId) (x i : Value) (H : Hp) (K : Value → Hp → Prop) : Prop :=
  match tget C.T t with
  | some it => (match it.k, x, i with
    | .slc e, .slice A n _, .int _ j => (match tget C.T e with
      | some ie => ∃ b o, A = some ⟨b, o, none⟩ ∧ (0 ≤ j ∧ j < n) ∧ K (.pointer (some ⟨b, o + j.toNat * ie.size, none⟩)) H
      | none => False)
    | .arr n e, .pointer (some ⟨b, o, none⟩), .int _ j => (match tget C.T e with
      | some ie => (0 ≤ j ∧ j < n) ∧ K (.pointer (some ⟨b, o + j.toNat * ie.size, none⟩)) H
      | none => False)
    | _, _, _ => False)
  | none => False
theorem indexAddrW_run {C : Ctx} (ok : C.OK) {t : TypeId} {x i : Value} {H : Hp} {K : Value → Hp → Prop} (h : indexAddrW C t x i H K) : RunsP C.P (Instr.indexAt t x i) (K · H) := by
  unfold indexAddrW at h
  split at h
  · rename_i it hit
    obtain ⟨rfl, oi⟩ := ok.get hit
    split at h
    · rename_i e A n c kk j hk
      have hu := und_slc oi hk
      split at h
      · rename_i ie hie
        obtain ⟨b, o, rfl, hj, hK⟩ := h
        exact ⟨_, fun w => by simp [Instr.indexAt, asIntOf, run_underlying hu, hj, size_run ok hie, add_off], hK⟩
      · exact h.elim
    · rename_i n e b o kk j hk
      have hu := und_arr oi hk
      split at h
      · rename_i ie hie
        obtain ⟨hj, hK⟩ := h
        exact ⟨_, fun w => by simp [Instr.indexAt, asIntOf, Instr.sureAddr, run_underlying hu, hj, size_run ok hie, add_off], hK⟩
      · exact h.elim
    · exact h.elim
  · exact h.elim
theorem indexAddrW_mono {C : Ctx} {t : TypeId} {x i : Value} {H : Hp} {K K' : Value → Hp → Prop} (hk : ∀ v H', K v H' → K' v H') (h : indexAddrW C t x i H K) : indexAddrW C t x i H K' := by
  unfold indexAddrW at h ⊢
  split at h
  · split at h
    · split at h
      · obtain ⟨b, o, h1, h2, h3⟩ := h; exact ⟨b, o, h1, h2, hk _ _ h3⟩
      · exact h.elim
    · split at h
      · exact ⟨h.1, hk _ _ h.2⟩
      · exact h.elim
    · exact h.elim
  · exact h.elim
/-- A field of a struct that is no variable. -/
def fieldW (C : Ctx) (t : TypeId) (x : Value) (f : Nat) (K : Value → Prop) : Prop :=
  match x, tget C.T t with
  | .agg cs, some i => (match i.k with
    | .st fs => (match fs[f]? with
      | some (off, size, true) => K (.agg ((cs.toList.drop off).take size).toArray)
      | some (off, _, false) => (match cs.toList[off]? with
        | some v => K v
        | none => False)
      | none => False)
    | _ => False)
  | _, _ => False
theorem isAgg_run {P : Program} {t : TypeId} {d : TypeDesc} (h : P.underlying t = some d) (w : World) : (isAgg t).run P w = .ok (isAggD (some d)) w := by
  cases d <;> simp [isAgg, run_underlying h, isAggD]
theorem fieldW_run {C : Ctx} (ok : C.OK) {t : TypeId} {x : Value} {f : Nat} {H : Hp} {K : Value → Hp → Prop} (h : fieldW C t x f (K · H)) : RunsP C.P (Instr.field t x f) (K · H) := by
  unfold fieldW at h
  split at h
  · rename_i cs i hi
    obtain ⟨rfl, oi⟩ := ok.get hi
    split at h
    · rename_i fs hk
      obtain ⟨l, hu, hfs⟩ := und_st oi hk
      split at h
      · rename_i off size hf
        obtain ⟨fl, inf, dd, h1, h2, h3, h4, hft, h5⟩ := stPlaces_get hfs hf
        have h1' : l[f]? = some fl := by simpa using h1
        refine ⟨_, fun w => ?_, h⟩
        have e : cs.extract off (off + size) = ((cs.toList.drop off).take size).toArray := by
          apply Array.toList_inj.1
          simp
        simp [Instr.field, run_underlying hu, h1', part, isAgg_run hft, h5, asAgg, sizeOf, typeInfo, h3, h4, h2, e]
      · rename_i off size hf
        obtain ⟨fl, inf, dd, h1, h2, h3, h4, hft, h5⟩ := stPlaces_get hfs hf
        have h1' : l[f]? = some fl := by simpa using h1
        split at h
        · rename_i v hv
          have hv' : cs[off]? = some v := by simpa using hv
          exact ⟨_, fun w => by simp [Instr.field, run_underlying hu, h1', part, isAgg_run hft, h5, asAgg, h2, hv'], h⟩
        · exact h.elim
      · exact h.elim
    · exact h.elim
  · exact h.elim
theorem fieldW_mono {C : Ctx} {t : TypeId} {x : Value} {f : Nat} {K K' : Value → Prop} (hk : ∀ v, K v → K' v) (h : fieldW C t x f K) : fieldW C t x f K' := by
  unfold fieldW at h ⊢
  split at h
  · split at h
    · split at h
      · exact hk _ h
      · split at h
        · exact hk _ h
        · exact h.elim
      · exact h.elim
    · exact h.elim
  · exact h.elim
end Go.Proofs.Ytkkjjjgcfnhabaa.Eng
namespace Go.Proofs.Ytkkjjjgcfnhabaa.Eng
open Go

/-- The byte at a place of a string. -/
def bt (s : ByteArray) (i : Int) : Int := ((s.data.toList.getD i.toNat 0).toNat : Int)
def indexW (C : Ctx) (t : TypeId) (x i : Value) (K : Value → Prop) : Prop :=
  match x, i with
  | .string s, .int _ j => ifB (tkB C t TK.isStr) ((0 ≤ j ∧ j < s.size) ∧ K (.int .u8 (bt s j)))
  | .agg cs, .int _ j => (match tget C.T t with
    | some i => (match i.k with
      | .arr n e => (match tget C.T e with
        | some ie => (match ie.k with
          | .int kk => ifB (Nat.beq ie.size 1) ((0 ≤ j ∧ j < ((n : Nat) : Int)) ∧ ∃ m : Int, cs.toList[j.toNat]? = some (.int kk m) ∧ K (.int kk m))
          | _ => False)
        | none => False)
      | _ => False)
    | none => False)
  | _, _ => False
theorem indexW_run {C : Ctx} (ok : C.OK) {t : TypeId} {x i : Value} {H : Hp} {K : Value → Hp → Prop} (h : indexW C t x i (K · H)) : RunsP C.P (Instr.index t x i) (K · H) := by
  unfold indexW at h
  split at h
  · rename_i s kk j
    obtain ⟨e, ⟨h0, h1⟩, hK⟩ := ifB_spec h
    obtain ⟨it, hit, hk⟩ := tkB_spec e
    obtain ⟨rfl, oi⟩ := ok.get hit
    have hu := und_str oi (tk_str hk)
    have hj : j.toNat < s.size := by omega
    refine ⟨_, fun w => ?_, hK⟩
    have e1 : s[j.toNat]? = some (s.data.toList.getD j.toNat 0) := by
      have : j.toNat < s.data.size := hj
      rw [getElem?_pos s j.toNat hj]
      congr 1
      show s.data[j.toNat] = _
      simp only [List.getD_eq_getElem?_getD, Array.getElem?_toList]
      rw [Array.getElem?_eq_getElem this]; rfl
    simp [Instr.index, asIntOf, run_underlying hu, h0, e1, bt]
  · rename_i cs kk j
    split at h
    · rename_i i hi
      obtain ⟨rfl, oi⟩ := ok.get hi
      split at h
      · rename_i n e hk
        have hu := und_arr oi hk
        split at h
        · rename_i ie hie
          obtain ⟨rfl, oe⟩ := ok.get hie
          split at h
          · rename_i k2 hk2
            have hue := und_int oe hk2
            obtain ⟨e1, ⟨h0, h1⟩, m, hm, hK⟩ := ifB_spec h
            have e1 := Nat.eq_of_beq_eq_true e1
            refine ⟨_, fun w => ?_, hK⟩
            have hg : cs[j.toNat]? = some (.int k2 m) := by simpa using hm
            simp [Instr.index, asIntOf, run_underlying hu, h0, h1, size_run ok hie, e1, part, isAgg_run hue, isAggD, hg]
          · exact h.elim
        · exact h.elim
      · exact h.elim
    · exact h.elim
  · exact h.elim
theorem indexW_mono {C : Ctx} {t : TypeId} {x i : Value} {K K' : Value → Prop} (hk : ∀ v, K v → K' v) (h : indexW C t x i K) : indexW C t x i K' := by
  unfold indexW at h ⊢
  split at h
  · exact ifB_mono h (fun h => ⟨h.1, hk _ h.2⟩)
  · split at h
    · split at h
      · split at h
        · split at h
          · exact ifB_mono h (fun ⟨h1, m, h2, h3⟩ => ⟨h1, m, h2, hk _ h3⟩)
          · exact h.elim
        · exact h.elim
      · exact h.elim
    · exact h.elim
  · exact h.elim

/-! #### slicing -/
/-- Where a part of a slice begins. -/
def slA (A : Option Addr) (l m sz : Nat) : Option Addr := if m = l then A else A.map (·.add (l * sz))
def sliceW (C : Ctx) (t : TypeId) (x : Value) (lo hi mx : Option Value) (K : Value → Prop) : Prop :=
  match x with
  | .string s => ifB (tkB C t TK.isStr) (match lo, hi, mx with
    | none, none, none => K (.string (s.extract 0 s.size))
    | some (.int _ l), none, none => (0 ≤ l ∧ l ≤ s.size) ∧ K (.string (s.extract l.toNat s.size))
    | none, some (.int _ h), none => (0 ≤ h ∧ h ≤ s.size) ∧ K (.string (s.extract 0 h.toNat))
    | some (.int _ l), some (.int _ h), none => (0 ≤ l ∧ l ≤ h ∧ h ≤ s.size) ∧ K (.string (s.extract l.toNat h.toNat))
    | _, _, _ => False)
  | .slice A n c => (match tget C.T t with
    | some i => (match i.k with
      | .slc e => (match tget C.T e with
        | some ie => (match lo, hi, mx with
          | none, none, none => K (.slice A n c)
          | some (.int _ l), none, none => (0 ≤ l ∧ l ≤ n) ∧ K (.slice (slA A l.toNat c ie.size) (n - l.toNat) (c - l.toNat))
          | none, some (.int _ h), none => (0 ≤ h ∧ h ≤ c) ∧ K (.slice A h.toNat c)
          | some (.int _ l), some (.int _ h), none => (0 ≤ l ∧ l ≤ h ∧ h ≤ c) ∧ K (.slice (slA A l.toNat c ie.size) (h.toNat - l.toNat) (c - l.toNat))
          | none, some (.int _ h), some (.int _ m) => (0 ≤ h ∧ h ≤ m ∧ m ≤ c) ∧ K (.slice A h.toNat m.toNat)
          | some (.int _ l), some (.int _ h), some (.int _ m) => (0 ≤ l ∧ l ≤ h ∧ h ≤ m ∧ m ≤ c) ∧ K (.slice (slA A l.toNat m.toNat ie.size) (h.toNat - l.toNat) (m.toNat - l.toNat))
          | _, _, _ => False)
        | none => False)
      | _ => False)
    | none => False)
  | _ => False
theorem slA_zero (A : Option Addr) (m sz : Nat) : slA A 0 m sz = A := by
  unfold slA
  split
  · rfl
  · cases A with
    | none => rfl
    | some a => simp [Addr.add]
theorem sliceW_run {C : Ctx} (ok : C.OK) {t : TypeId} {x : Value} {lo hi mx : Option Value} {H : Hp} {K : Value → Hp → Prop} (h : sliceW C t x lo hi mx (K · H)) : RunsP C.P (Instr.sliceAt t x lo hi mx) (K · H) := by
  unfold sliceW at h
  split at h
  · rename_i s
    obtain ⟨e, hK⟩ := ifB_spec h
    obtain ⟨it, hit, hk⟩ := tkB_spec e
    obtain ⟨rfl, oi⟩ := ok.get hit
    have hu := und_str oi (tk_str hk)
    clear h
    split at hK
    · exact ⟨_, fun w => by simp [Instr.sliceAt, Instr.slice, Instr.sliceBounds, run_underlying hu], hK⟩
    · rename_i kk l
      obtain ⟨⟨h0, h1⟩, hK⟩ := hK
      exact ⟨_, fun w => by simp [Instr.sliceAt, Instr.slice, Instr.sliceBounds, Instr.sliceBound, asIntOf, run_underlying hu, h0, h1], hK⟩
    · rename_i kk l
      obtain ⟨⟨h0, h1⟩, hK⟩ := hK
      exact ⟨_, fun w => by simp [Instr.sliceAt, Instr.slice, Instr.sliceBounds, Instr.sliceBound, asIntOf, run_underlying hu, h0, h1], hK⟩
    · rename_i k1 l k2 r
      obtain ⟨⟨h0, h1, h2⟩, hK⟩ := hK
      have e1 : (0 ≤ r) := by omega
      have er : (r.toNat : Int) = r := Int.toNat_of_nonneg e1
      exact ⟨_, fun w => by simp [Instr.sliceAt, Instr.slice, Instr.sliceBounds, run_sliceBound, run_underlying hu, h0, h1, h2, e1, er], hK⟩
    · exact hK.elim
  · rename_i A n c
    split at h
    · rename_i it hit
      obtain ⟨rfl, oi⟩ := ok.get hit
      split at h
      · rename_i e hk
        have hu := und_slc oi hk
        split at h
        · rename_i ie hie
          split at h
          · refine ⟨_, fun w => ?_, h⟩
            have := slA_zero A c ie.size
            unfold slA at this
            simp [Instr.sliceAt, Instr.slice, Instr.sliceBounds, run_underlying hu, size_run ok hie]
            simpa using this
          · rename_i kk l
            obtain ⟨⟨h0, h1⟩, hK⟩ := h
            exact ⟨_, fun w => by simp [Instr.sliceAt, Instr.slice, Instr.sliceBounds, Instr.sliceBound, asIntOf, run_underlying hu, size_run ok hie, h0, h1, slA], hK⟩
          · rename_i kk r
            obtain ⟨⟨h0, h1⟩, hK⟩ := h
            refine ⟨_, fun w => ?_, hK⟩
            have := slA_zero A c ie.size
            unfold slA at this
            simp [Instr.sliceAt, Instr.slice, Instr.sliceBounds, Instr.sliceBound, asIntOf, run_underlying hu, size_run ok hie, h0, h1]
            simpa using this
          · rename_i k1 l k2 r
            obtain ⟨⟨h0, h1, h2⟩, hK⟩ := h
            have e1 : (0 ≤ r) := by omega
            have er : (r.toNat : Int) = r := Int.toNat_of_nonneg e1
            exact ⟨_, fun w => by simp [Instr.sliceAt, Instr.slice, Instr.sliceBounds, run_sliceBound, run_underlying hu, size_run ok hie, h0, h1, h2, e1, er, slA], hK⟩
          · rename_i k2 r k3 m
            obtain ⟨⟨h0, h1, h2⟩, hK⟩ := h
            refine ⟨_, fun w => ?_, hK⟩
            have e1 : (0 ≤ m) := by omega
            have em : (m.toNat : Int) = m := Int.toNat_of_nonneg e1
            have := slA_zero A m.toNat ie.size
            unfold slA at this
            simp [Instr.sliceAt, Instr.slice, Instr.sliceBounds, run_sliceBound, run_underlying hu, size_run ok hie, h0, h1, h2, e1, em]
            simpa using this
          · rename_i k1 l k2 r k3 m
            obtain ⟨⟨h0, h1, h2, h3⟩, hK⟩ := h
            have e1 : (0 ≤ m) := by omega
            have e0 : (0 ≤ r) := by omega
            have er : (r.toNat : Int) = r := Int.toNat_of_nonneg e0
            have em : (m.toNat : Int) = m := Int.toNat_of_nonneg e1
            exact ⟨_, fun w => by simp [Instr.sliceAt, Instr.slice, Instr.sliceBounds, run_sliceBound, run_underlying hu, size_run ok hie, h0, h1, h2, h3, e0, e1, er, em, slA], hK⟩
          · exact h.elim
        · exact h.elim
      · exact h.elim
    · exact h.elim
  · exact h.elim
theorem sliceW_mono {C : Ctx} {t : TypeId} {x : Value} {lo hi mx : Option Value} {K K' : Value → Prop} (hk : ∀ v, K v → K' v) (h : sliceW C t x lo hi mx K) : sliceW C t x lo hi mx K' := by
  unfold sliceW at h ⊢
  split at h
  · refine ifB_mono h (fun h => ?_)
    split at h <;> first | exact hk _ h | exact ⟨h.1, hk _ h.2⟩ | exact h.elim
  · split at h
    · split at h
      · split at h
        · split at h <;> first | exact hk _ h | exact ⟨h.1, hk _ h.2⟩ | exact h.elim
        · exact h.elim
      · exact h.elim
    · exact h.elim
  · exact h.elim

/-! #### make -/
def mkSlW (C : Ctx) (t : TypeId) (len cap : Value) (H : Hp) (K : Value → Hp → Prop) : Prop :=
  match tget C.T t with
  | some i => (match i.k with
    | .slc e => (match tget C.T e, len, cap with
      | some ie, .int _ l, .int _ c => ifB (Nat.blt 0 ie.size && Nat.beq ie.zero.length ie.size && Nat.blt 0 ie.bytes)
          ((0 ≤ l ∧ l ≤ c ∧ c * ie.bytes ≤ 281474976710656) ∧ K (.slice (some ⟨H.size, 0, none⟩) l.toNat c.toNat) (H.push (.cells (zrow ie.zero c.toNat).toArray e (0, 0))))
      | _, _, _ => False)
    | _ => False)
  | none => False
theorem mkSlW_run {C : Ctx} (ok : C.OK) {φ : Fx} {t : TypeId} {len cap : Value} {H : Hp} {K : Value → Hp → Prop} (h : mkSlW C t len cap H K) : RunsV C.P φ (Instr.makeSlice t len cap) H K := by
  intro d
  unfold mkSlW at h
  split at h
  · rename_i i hi
    obtain ⟨rfl, oi⟩ := ok.get hi
    split at h
    · rename_i e hk
      have hu := und_slc oi hk
      split at h
      · rename_i ie k1 l k2 c hie
        obtain ⟨hb, ⟨h0, h1, h2⟩, hK⟩ := ifB_spec h
        simp only [Bool.and_eq_true] at hb
        obtain ⟨⟨hb1, hb2⟩, hb3⟩ := hb
        have hb1 : 0 < ie.size := Nat.le_of_ble_eq_true hb1
        have hb2 := Nat.eq_of_beq_eq_true hb2
        have hb3 : 0 < ie.bytes := Nat.le_of_ble_eq_true hb3
        obtain ⟨rfl, oie⟩ := ok.get hie
        obtain ⟨⟨x, z, hx, hs, hby, hz, hc⟩, _⟩ := oie
        have hzc : z.cells = ie.zero.toArray := by rw [← hc]
        have hcc : c ≤ 9223372036854775807 := by
          have : c ≤ c * ie.bytes := by
            have := Int.mul_le_mul_of_nonneg_left (show (1 : Int) ≤ ie.bytes by omega) (show 0 ≤ c by omega)
            simpa using this
          omega
        have hr := run_make (P := C.P) (φ.at H d) i.t ie.t x z hu hx hz k1 k2 l c h0 h1 (by rw [hby, Int.mul_comm]; exact h2) hcc
        refine ⟨_, _, d, hr, ?_⟩
        have hz2 := range_zrow ie.zero.toArray c.toNat (.inl (by simp; omega))
        have e : madeCells z.cells (c.toNat * x.size) = (zrow ie.zero c.toNat).toArray := by
          rw [hzc, hs, ← hb2]; simpa [madeCells] using hz2
        simp only [World.alloc, Fx.at]
        rw [e]
        exact hK
      · exact h.elim
    · exact h.elim
  · exact h.elim
theorem mkSlW_mono {C : Ctx} {t : TypeId} {len cap : Value} {H : Hp} {K K' : Value → Hp → Prop} (hk : ∀ v H', K v H' → K' v H') (h : mkSlW C t len cap H K) : mkSlW C t len cap H K' := by
  unfold mkSlW at h ⊢
  split at h
  · split at h
    · split at h
      · exact ifB_mono h (fun h => ⟨h.1, hk _ _ h.2⟩)
      · exact h.elim
    · exact h.elim
  · exact h.elim
end Go.Proofs.Ytkkjjjgcfnhabaa.Eng
namespace Go.Proofs.Ytkkjjjgcfnhabaa.Eng
open Go

/-- The first cells of a slice. -/
def rdC (H : Hp) (A : Option Addr) (m : Nat) (ys : List Value) : Prop :=
  ys.length = m ∧ (0 < m → ∃ b o, A = some ⟨b, o, none⟩ ∧ ∀ j v, ys[j]? = some v → cel H b (o + j) = some v)
theorem rdC_cells {H : Hp} {A : Option Addr} {m : Nat} {ys : List Value} (h : rdC H A m ys) (φ : Fx) (d : Nat) {a : Addr} (ha : A = some a) : ∀ j v, ys[j]? = some v → (φ.at H d).cell? (a.add j) = some v := by
  intro j v hv
  have hm : 0 < m := by
    have := (List.getElem?_eq_some_iff.1 hv).1
    have := h.1; omega
  obtain ⟨b, o, e, hc⟩ := h.2 hm
  rw [ha] at e
  obtain rfl := Option.some.inj e
  rw [add_off, cell_at]
  exact hc j v hv
/-- A slice's cells are read by append and copy. -/
theorem rdC_first {P : Program} {φ : Fx} {H : Hp} {A : Option Addr} {sz n : Nat} {ys : List Value} (h : rdC H A (n * sz) ys) (d l c : Nat) :
    (Builtin.firstCells sz n (.slice A l c)).run P (φ.at H d) = .ok ys.toArray (φ.at H d) := by
  cases A with
  | none =>
    have : ys = [] := by
      rcases Nat.eq_zero_or_pos (n * sz) with h0 | h0
      · exact List.eq_nil_of_length_eq_zero (by rw [h.1]; exact h0)
      · obtain ⟨b, o, e, _⟩ := h.2 h0; cases e
    subst this
    simp [Builtin.firstCells]
  | some a => exact run_firstCells_some (φ.at H d) sz n a l c ys h.1 (rdC_cells h φ d rfl)
def hputA (H : Hp) (A : Option Addr) (k : Nat) (ys : List Value) : Hp :=
  match A with
  | none => H
  | some a => hput H a.block (a.off + k) ys
def canPutA (H : Hp) (A : Option Addr) (k : Nat) (ys : List Value) : Prop := ys = [] ∨ ∃ b o, A = some ⟨b, o, none⟩ ∧ canPut H b (o + k) ys
theorem hput_nil (H : Hp) (b o : Nat) : hput H b o [] = H := by
  apply Array.ext_getElem?
  intro j
  rw [hput, Array.getElem?_modify]
  split
  · rename_i hj
    subst hj
    cases H[b]? with
    | none => rfl
    | some x => cases x <;> simp [objPut, spl_nil]
  · rfl
theorem canPutA_run {P : Program} {φ : Fx} {H : Hp} {a : Addr} {k : Nat} {ys : List Value} (h : canPutA H (some a) k ys) (d : Nat) :
    (storeCells (a.add k) ys).run P (φ.at H d) = .ok () (φ.at (hputA H (some a) k ys) d) := by
  rcases h with rfl | ⟨b, o, e, hc⟩
  · simp [storeCells, hputA, hput_nil]
  · obtain rfl := Option.some.inj e
    simp only [hputA, add_off]
    have := run_storeCells P φ d b (o + k) ys 0 H (by simpa using hc)
    simpa using this
def byteVals (s : ByteArray) : List Value := s.data.toList.map fun b => Value.int .u8 (b.toNat : Int)
/-- What is appended. -/
def srcC (H : Hp) (sz : Nat) : Value → Nat → List Value → Prop
  | .slice B m _, k, ys => k = m ∧ rdC H B (m * sz) ys
  | .string s, k, ys => k = s.size ∧ sz = 1 ∧ ys = byteVals s
  | _, _, _ => False
def srcB (C : Ctx) (tx : TypeId) : Value → Bool
  | .slice _ _ _ => tkB C tx TK.isSlc
  | .string _ => tkB C tx TK.isStr
  | _ => false
theorem extract_all (st : ByteArray) : (st.extract 0 st.size).data = st.data := by
  have : st.extract 0 st.size = st := by
    apply ByteArray.ext
    simp
  rw [this]
def appW (C : Ctx) (t tx : TypeId) (s x : Value) (H : Hp) (K : Value → Hp → Prop) : Prop :=
  match tget C.T t, s with
  | some i, .slice A n c => (match i.k with
    | .slc e => (match tget C.T e with
      | some ie => ifB (srcB C tx x && Nat.blt 0 ie.size && Nat.blt 0 ie.bytes && Nat.beq ie.zero.length ie.size)
          (∃ m ys, srcC H ie.size x m ys ∧
          (n + m ≤ c → canPutA H A (n * ie.size) ys ∧ K (.slice A (n + m) c) (hputA H A (n * ie.size) ys)) ∧
          (c < n + m → (n + m) * ie.bytes ≤ 140737488355328 ∧ ∃ xs, rdC H A (n * ie.size) xs ∧
            ∀ cap, n + m ≤ cap → cap ≤ 9223372036854775807 → K (.slice (some ⟨H.size, 0, none⟩) (n + m) cap) (H.push (.cells (xs ++ ys ++ zrow ie.zero (cap - (n + m))).toArray e (0, 0)))))
      | none => False)
    | _ => False)
  | _, _ => False
theorem appW_run {C : Ctx} (ok : C.OK) {φ : Fx} {t tx ty : TypeId} {s x : Value} {H : Hp} {K : Value → Hp → Prop} (h : appW C t tx s x H K) : RunsV C.P φ (Builtin.append_ #[t, tx] ty #[s, x]) H K := by
  intro d
  unfold appW at h
  split at h
  · rename_i i A n c hi
    obtain ⟨rfl, oi⟩ := ok.get hi
    split at h
    · rename_i e hk
      have hu := und_slc oi hk
      split at h
      · rename_i ie hie
        obtain ⟨hb, m, ys, hsrc, h1, h2⟩ := ifB_spec h
        clear h
        simp only [Bool.and_eq_true] at hb
        obtain ⟨⟨⟨hb0, hb1⟩, hb2⟩, hb3⟩ := hb
        have hb1 : 0 < ie.size := Nat.le_of_ble_eq_true hb1
        have hb2 : 0 < ie.bytes := Nat.le_of_ble_eq_true hb2
        have hb3 := Nat.eq_of_beq_eq_true hb3
        obtain ⟨rfl, oie⟩ := ok.get hie
        obtain ⟨⟨xi, z, hx, hs, hby, hz, hc⟩, _⟩ := oie
        have hzc : z.cells = ie.zero.toArray := by rw [← hc]
        -- the second argument's type is no integer
        have hux : (∃ e', C.P.underlying tx = some (.slice e')) ∨ C.P.underlying tx = some .string := by
          cases x <;> simp only [srcB] at hb0 <;> first | cases hb0 | skip
          case string st =>
            obtain ⟨ix, hix, hkx⟩ := tkB_spec hb0
            obtain ⟨rfl, oix⟩ := ok.get hix
            exact .inr (und_str oix (tk_str hkx))
          case slice B m' c' =>
            obtain ⟨ix, hix, hkx⟩ := tkB_spec hb0
            obtain ⟨rfl, oix⟩ := ok.get hix
            obtain ⟨e', he'⟩ := tk_slc hkx
            exact .inl ⟨e', und_slc oix he'⟩
        have hlen : ∀ w, (Builtin.lenOf x).run C.P w = .ok m w := by
          intro w
          cases x <;> simp only [srcC] at hsrc
          case string st => obtain ⟨rfl, _⟩ := hsrc; rfl
          case slice B m' c' => obtain ⟨rfl, _⟩ := hsrc; rfl
        have hsrcf : (Builtin.firstCells ie.size m x).run C.P (φ.at H d) = .ok ys.toArray (φ.at H d) ∧ ∀ d', (Builtin.firstCells ie.size m x).run C.P (φ.at H d') = .ok ys.toArray (φ.at H d') := by
          have : ∀ d', (Builtin.firstCells ie.size m x).run C.P (φ.at H d') = .ok ys.toArray (φ.at H d') := by
            intro d'
            cases x <;> simp only [srcC] at hsrc
            case string st =>
              obtain ⟨rfl, _, rfl⟩ := hsrc
              simp only [Builtin.firstCells, Sem.run_pure, extract_all]
              congr 1
              apply Array.toList_inj.1
              simp [byteVals]
            case slice B m' c' => obtain ⟨rfl, hr⟩ := hsrc; exact rdC_first hr d' _ _
          exact ⟨this d, this⟩
        by_cases hroom : n + m ≤ c
        · obtain ⟨hp, hK⟩ := h1 hroom
          refine ⟨_, _, d, ?_, hK⟩
          cases A with
          | none =>
            have : hputA H none (n * ie.size) ys = H := rfl
            rcases hux with ⟨e', hux⟩ | hux <;> simp [Builtin.append_, run_underlying hu, run_underlying hux, sizeOf, typeInfo, hx, hs, hlen, hroom, hsrcf.1, this]
          | some a =>
            have hst := canPutA_run (P := C.P) (φ := φ) hp d
            rcases hux with ⟨e', hux⟩ | hux <;> simp [Builtin.append_, run_underlying hu, run_underlying hux, sizeOf, typeInfo, hx, hs, hlen, hroom, hsrcf.1, hst]
        · obtain ⟨hbyt, xs, hxs, hK⟩ := h2 (by omega)
          have hold : ∀ d', (Builtin.firstCells ie.size n (.slice A n c)).run C.P (φ.at H d') = .ok xs.toArray (φ.at H d') := fun d' => rdC_first hxs d' _ _
          have hsmall : n + m ≤ 140737488355328 := Nat.le_trans (Nat.le_mul_of_pos_right _ hb2) hbyt
          have hfit := growslice_fits (old := c) (need := n + m) (bytes := ie.bytes) (by omega) hbyt
          have g1 : ¬ (281474976710656 < Builtin.nextslicecap (n + m) c * ie.bytes) := by omega
          have hm63 : IntKind.i64.max = 9223372036854775807 := by decide
          have g0 : ¬ ((9223372036854775807 : Int) < (n : Int) + m) := by omega
          have hcapge := Nat.le_add_right (n + m) ((φ.tape d (.appendCap (n + m) c ie.t)) % (2 ^ 63 - (n + m)))
          have hcaplt : (n + m) + (φ.tape d (.appendCap (n + m) c ie.t)) % (2 ^ 63 - (n + m)) ≤ 9223372036854775807 := by
            have := Nat.mod_lt (φ.tape d (.appendCap (n + m) c ie.t)) (show 0 < 2 ^ 63 - (n + m) by omega)
            omega
          have hK' := hK _ hcapge hcaplt
          refine ⟨_, _, d + 1, ?_, hK'⟩
          have hdrew : (φ.at H d).drew = φ.at H (d + 1) := rfl
          have hty : ie.bytes ≠ 0 := by omega
          rcases hux with ⟨e', hux⟩ | hux <;>
          · simp [Builtin.append_, run_underlying hu, run_underlying hux, sizeOf, typeInfo, hx, hs, hlen, hroom, hby, g0, g1, hm63, hty, Question.forced, Question.cut]
            rw [hdrew, hold]
            have ht : (φ.at H d).tape = φ.tape := rfl
            have hdn : (φ.at H d).drawn = d := rfl
            simp [hsrcf.2, zeroValue, typeInfo, hx, hz, run_newRow, hzc, zeroCells_zrow, ht, hdn]
      · exact h.elim
    · exact h.elim
  · exact h.elim
theorem appW_mono {C : Ctx} {t tx : TypeId} {s x : Value} {H : Hp} {K K' : Value → Hp → Prop} (hk : ∀ v H', K v H' → K' v H') (h : appW C t tx s x H K) : appW C t tx s x H K' := by
  unfold appW at h ⊢
  split at h
  · split at h
    · split at h
      · refine ifB_mono h (fun ⟨m, ys, h0, h1, h2⟩ => ⟨m, ys, h0, fun hr => ⟨(h1 hr).1, hk _ _ (h1 hr).2⟩, fun hr => ?_⟩)
        obtain ⟨a, xs, b, c⟩ := h2 hr
        exact ⟨a, xs, b, fun cap c1 c2 => hk _ _ (c cap c1 c2)⟩
      · exact h.elim
    · exact h.elim
  · exact h.elim

/-! #### copy -/
def copyW (C : Ctx) (t : TypeId) (x y : Value) (H : Hp) (K : Value → Hp → Prop) : Prop :=
  match tget C.T t, x, y with
  | some i, .slice A n _, .slice B m _ => (match i.k with
    | .slc e => (match tget C.T e with
      | some ie => ∃ ys, rdC H B (min m n * ie.size) ys ∧ canPutA H A 0 ys ∧ K (.int .i64 (min m n : Nat)) (hputA H A 0 ys)
      | none => False)
    | _ => False)
  | _, _, _ => False
theorem copyW_run {C : Ctx} (ok : C.OK) {φ : Fx} {t tx ty : TypeId} {x y : Value} {H : Hp} {K : Value → Hp → Prop} (h : copyW C t x y H K) : RunsV C.P φ (Builtin.copy_ #[t, tx] ty #[x, y]) H K := by
  intro d
  unfold copyW at h
  split at h
  · rename_i i A n c B m c' hi
    obtain ⟨rfl, oi⟩ := ok.get hi
    split at h
    · rename_i e hk
      have hu := und_slc oi hk
      split at h
      · rename_i ie hie
        obtain ⟨ys, hr, hp, hK⟩ := h
        refine ⟨_, _, d, ?_, hK⟩
        have hf := rdC_first (P := C.P) (φ := φ) hr d m c'
        have hmin : Nat.min m n = min m n := rfl
        cases A with
        | none =>
          have : hputA H none 0 ys = H := rfl
          simp [Builtin.copy_, run_underlying hu, Builtin.lenOf, size_run ok hie, hmin, hf, this, goInt]
        | some a =>
          have hst := canPutA_run (P := C.P) (φ := φ) hp d
          have ha : a.add 0 = a := by simp [Addr.add]
          rw [ha] at hst
          simp [Builtin.copy_, run_underlying hu, Builtin.lenOf, size_run ok hie, hmin, hf, hst, goInt]
      · exact h.elim
    · exact h.elim
  · exact h.elim
theorem copyW_mono {C : Ctx} {t : TypeId} {x y : Value} {H : Hp} {K K' : Value → Hp → Prop} (hk : ∀ v H', K v H' → K' v H') (h : copyW C t x y H K) : copyW C t x y H K' := by
  unfold copyW at h ⊢
  split at h
  · split at h
    · split at h
      · obtain ⟨ys, h1, h2, h3⟩ := h; exact ⟨ys, h1, h2, hk _ _ h3⟩
      · exact h.elim
    · exact h.elim
  · exact h.elim

end Go.Proofs.Ytkkjjjgcfnhabaa.Eng
