/- Part FFa of the proof of the claim in this folder: a way to walk code, and the contracts of the functions that the law reaches. Conditions: none. -/
import Derived.Test.YtkkjjjgcfnhabaaProg
import Derived.Test.YtkkjjjgcfnhabaaEngB
set_option linter.unusedVariables false
set_option maxRecDepth 100000
set_option maxHeartbeats 0
set_option linter.unusedSimpArgs false
namespace Go.Proofs.Ytkkjjjgcfnhabaa.Eng
open Go Go.Proofs
def tys : List TI :=
 [⟨3, .int .i64, 1, 8, [.int .i64 0], [.int .i64], [(false, [.int .i64])], false⟩,
  ⟨4, .bool, 1, 1, [.bool false], [.bool], [(false, [.bool])], false⟩,
  ⟨5, .int .u8, 1, 1, [.int .u8 0], [.int .u8], [(false, [.int .u8])], false⟩,
  ⟨9, .str, 1, 16, [.string ⟨#[]⟩], [.str], [(false, [.str])], false⟩,
  ⟨22, .slc 146, 1, 24, [.slice none 0 0], [.slc], [(false, [.slc])], false⟩,
  ⟨24, .st [(0, 1, false), (1, 1, false)], 2, 32, [.int .i64 0, .slice none 0 0], [.int .i64, .slc], [(true, [.int .i64, .slc])], false⟩,
  ⟨25, .int .i64, 1, 8, [.int .i64 0], [.int .i64], [(false, [.int .i64])], false⟩,
  ⟨28, .other, 1, 0, [.tuple #[.int .i64 0, .int .i64 0]], [.any], [(false, [.int .i64]), (false, [.int .i64])], true⟩,
  ⟨59, .slc 5, 1, 24, [.slice none 0 0], [.slc], [(false, [.slc])], false⟩,
  ⟨142, .slc 150, 1, 24, [.slice none 0 0], [.slc], [(false, [.slc])], false⟩,
  ⟨144, .st [(0, 1, false), (1, 1, false), (2, 1, false)], 3, 40, [.bool false, .int .i64 0, .slice none 0 0], [.bool, .int .i64, .slc], [(true, [.bool, .int .i64, .slc])], false⟩,
  ⟨146, .st [(0, 1, false), (1, 1, false), (2, 3, true)], 5, 72, [.int .i64 0, .slice none 0 0, .bool false, .int .i64 0, .slice none 0 0], [.int .i64, .slc, .bool, .int .i64, .slc], [(true, [.int .i64, .slc, .bool, .int .i64, .slc])], false⟩,
  ⟨150, .st [(0, 1, false), (1, 1, false), (2, 1, false), (3, 1, false)], 4, 40, [.int .i64 0, .int .i64 0, .int .i64 0, .string ⟨#[]⟩], [.int .i64, .int .i64, .int .i64, .str], [(true, [.int .i64, .int .i64, .int .i64, .str])], false⟩]
noncomputable def cx : Ctx := ⟨Try.prog, tys, 3, 199, [150]⟩
end Go.Proofs.Ytkkjjjgcfnhabaa.Eng
namespace Go.Proofs.Ytkkjjjgcfnhabaa.Eng
open Go Go.Proofs
theorem cx_types : cx.T.map (TI.fact cx.P) = cx.T.map TI.want := by kernel_rfl
theorem cx_fit : cx.T.all TI.fit = true := by kernel_rfl
theorem cx_mixed : cx.P.follows .mixedOrders = true := by kernel_rfl
theorem cx_funcs : (List.range 196).all (fun n => callable cx.P (n + 3)) = true := by kernel_rfl
theorem cx_eq1 : cx.eqs.map (fun t => (cx.P.underlying t, cx.P.stoodInHeld t, cx.P.eqGuardType cx.P.depth t, (tget cx.T t).elim true fun i => eqFitB cx.P (cx.P.fieldsOf t).toList 0 i.shp)) = cx.eqs.map fun t => (some (.struct (cx.P.fieldsOf t)), false, false, true) := by kernel_rfl
theorem cx_ok : cx.OK where
  types := cx_types
  fit := cx_fit
  funcs := fun f h1 h2 => by
    have := List.all_eq_true.1 cx_funcs (f - 3) (by simp only [List.mem_range]; have : f < 199 := h2; omega)
    simpa only [Nat.sub_add_cancel (show 3 ≤ f from h1)] using this
  eqs := fun t ht => by
    have := List.map_inj_left.1 cx_eq1 t ht
    simp only [Prod.mk.injEq] at this
    exact eqLaw this.1 this.2.1 this.2.2.1 this.2.2.2
  mixed := cx_mixed
end Go.Proofs.Ytkkjjjgcfnhabaa.Eng
namespace Go.Proofs.Ytkkjjjgcfnhabaa.Eng
open Go

/-! ### Cells of a heap -/
theorem cel_lt {H : Hp} {b o : Nat} {v : Value} (h : cel H b o = some v) : b < H.size := by
  rcases Nat.lt_or_ge b H.size with hb | hb
  · exact hb
  · simp [cel, Array.getElem?_eq_none hb] at h
theorem cel_new (H : Hp) (cs : Array Value) (t : TypeId) (fr : Nat × Nat) (k : Nat) : cel (H.push (.cells cs t fr)) H.size k = cs[k]? := by
  simp [cel]
theorem cel_push {H : Hp} {o : Obj} {b k : Nat} {v : Value} (h : cel H b k = some v) : cel (H.push o) b k = some v := (Keeps.push H o).cel h
theorem hput_new (H : Hp) (cs : Array Value) (t : TypeId) (fr : Nat × Nat) (vs : List Value) (h : vs.length = cs.size) :
    hput (H.push (.cells cs t fr)) H.size 0 vs = H.push (.cells vs.toArray t fr) := by
  have : spl cs 0 vs = vs.toArray := by
    simp [spl, h]
  apply Array.ext_getElem?
  intro i
  simp only [hput, Array.getElem?_modify]
  by_cases hi : H.size = i
  · subst hi; simp [objPut, this]
  · rw [if_neg hi, Array.getElem?_push, Array.getElem?_push]
    simp only [show ¬ i = H.size from fun e => hi e.symm, if_false]
theorem canPut_new (H : Hp) (cs : Array Value) (t : TypeId) (o : Nat) (vs : List Value) (h : o + vs.length ≤ cs.size) (hv : ∀ v ∈ vs, v.oneCell' = true) :
    canPut (H.push (.cells cs t (0, 0))) H.size o vs :=
  ⟨cs, t, 0, 0, by simp, h, by omega, hv⟩
/-- What is at a place of a heap that may be written: an object with nothing frozen. -/
def objAt (H : Hp) (b : Nat) (cs : Array Value) (t : TypeId) : Prop := H[b]? = some (.cells cs t (0, 0))
theorem objAt_new (H : Hp) (cs : Array Value) (t : TypeId) : objAt (H.push (.cells cs t (0, 0))) H.size cs t := by simp [objAt]
theorem objAt_lt {H : Hp} {b : Nat} {cs : Array Value} {t : TypeId} (h : objAt H b cs t) : b < H.size := by
  rcases Nat.lt_or_ge b H.size with hb | hb
  · exact hb
  · simp [objAt, Array.getElem?_eq_none hb] at h
theorem objAt_cel {H : Hp} {b : Nat} {cs : Array Value} {t : TypeId} (h : objAt H b cs t) (k : Nat) : cel H b k = cs[k]? := by
  unfold objAt at h; simp [cel, h]
theorem Keeps.obj {H H' : Hp} (k : Keeps H H') {b : Nat} {cs : Array Value} {t : TypeId} (h : objAt H b cs t) : objAt H' b cs t := by
  unfold objAt at h ⊢; rw [k.old b (objAt_lt h)]; exact h
theorem objAt_canPut {H : Hp} {b : Nat} {cs : Array Value} {t : TypeId} (h : objAt H b cs t) {o : Nat} {vs : List Value} (hl : o + vs.length ≤ cs.size) (hv : ∀ v ∈ vs, v.oneCell' = true) : canPut H b o vs :=
  ⟨cs, t, 0, 0, h, hl, by omega, hv⟩
theorem objAt_hput {H : Hp} {b : Nat} {cs : Array Value} {t : TypeId} (h : objAt H b cs t) (o : Nat) (vs : List Value) : objAt (hput H b o vs) b (spl cs o vs) t := by
  have := objAt_lt h
  unfold objAt at h ⊢
  simp [hput, Array.getElem?_modify, h, objPut]
theorem hput_other {H : Hp} {b b' o : Nat} {vs : List Value} (h : b ≠ b') : (hput H b o vs)[b']? = H[b']? := by
  simp [hput, Array.getElem?_modify, h]
theorem hput_size (H : Hp) (b o : Nat) (vs : List Value) : (hput H b o vs).size = H.size := by simp [hput]
/-- A store into what came behind H. -/
theorem Keeps.hput {H H' : Hp} (k : Keeps H H') {b o : Nat} {vs : List Value} (hb : H.size ≤ b) : Keeps H (hput H' b o vs) :=
  ⟨by rw [hput_size]; exact k.size, fun i hi => by rw [hput_other (by omega)]; exact k.old i hi⟩
theorem Keeps.alloc {H H' : Hp} (k : Keeps H H') (o : Obj) : Keeps H (H'.push o) := k.trans (Keeps.push H' o)
theorem Keeps.from {H : Hp} {o : Obj} {H' : Hp} (k : Keeps (H.push o) H') : Keeps H H' := (Keeps.push H o).trans k

/-! ### Joins and loops -/
theorem join1 {α : Type} {A : (α → Hp → Prop) → Prop} {B : α → (Nat → Value) → Hp → Prop} (x0 : α) (H0 : Hp) (h1 : A (fun x H => x = x0 ∧ H = H0)) (h2 : ∀ j, B x0 j H0) :
    ∃ M : α → Hp → Prop, A M ∧ ∀ (x : α) (j : Nat → Value) (H : Hp), M x H → B x j H :=
  ⟨_, h1, fun x j H ⟨e1, e2⟩ => by subst e1; subst e2; exact h2 j⟩
theorem joinK {α : Type} {A : (α → Hp → Prop) → Prop} {B : α → (Nat → Value) → Hp → Prop} (h : A (fun x H => ∀ j, B x j H)) :
    ∃ M : α → Hp → Prop, A M ∧ ∀ (x : α) (j : Nat → Value) (H : Hp), M x H → B x j H :=
  ⟨_, h, fun x j H h => h j⟩
/-- A join of one bool: the heap grew. -/
theorem joinR {α : Type} {A : (α → Hp → Prop) → Prop} {B : α → (Nat → Value) → Hp → Prop} (M : α → Hp → Prop) (h1 : A M) (h2 : ∀ x j H, M x H → B x j H) :
    ∃ M : α → Hp → Prop, A M ∧ ∀ (x : α) (j : Nat → Value) (H : Hp), M x H → B x j H := ⟨M, h1, h2⟩

/-! ### Reads: the VC's words, by what is known of the cell -/
theorem xI {H : Hp} {b o : Nat} {k : IntKind} {x : Int} (h : cel H b o = some (.int k x)) (P : Int → Prop) : (∃ y, cel H b o = some (.int k y) ∧ P y) = P x := by
  apply propext; constructor
  · rintro ⟨y, e, p⟩; rw [h] at e; cases e; exact p
  · intro p; exact ⟨x, h, p⟩
theorem xB {H : Hp} {b o : Nat} {x : Bool} (h : cel H b o = some (.bool x)) (P : Bool → Prop) : (∃ y, cel H b o = some (.bool y) ∧ P y) = P x := by
  apply propext; constructor
  · rintro ⟨y, e, p⟩; rw [h] at e; cases e; exact p
  · intro p; exact ⟨x, h, p⟩
theorem xS {H : Hp} {b o : Nat} {x : ByteArray} (h : cel H b o = some (.string x)) (P : ByteArray → Prop) : (∃ y, cel H b o = some (.string y) ∧ P y) = P x := by
  apply propext; constructor
  · rintro ⟨y, e, p⟩; rw [h] at e; cases e; exact p
  · intro p; exact ⟨x, h, p⟩
theorem xP {H : Hp} {b o : Nat} {x : Option Addr} (h : cel H b o = some (.pointer x)) (P : Option Addr → Prop) : (∃ y, cel H b o = some (.pointer y) ∧ P y) = P x := by
  apply propext; constructor
  · rintro ⟨y, e, p⟩; rw [h] at e; cases e; exact p
  · intro p; exact ⟨x, h, p⟩
theorem xL {H : Hp} {b o : Nat} {A : Option Addr} {n c : Nat} (h : cel H b o = some (.slice A n c)) (P : Option Addr → Nat → Nat → Prop) : (∃ A' n' c', cel H b o = some (.slice A' n' c') ∧ P A' n' c') = P A n c := by
  apply propext; constructor
  · rintro ⟨A', n', c', e, p⟩; rw [h] at e; cases e; exact p
  · intro p; exact ⟨A, n, c, h, p⟩
/-- An address that is known. -/
theorem xA (b o : Nat) (P : Nat → Nat → Prop) : (∃ b' o', some (⟨b, o, none⟩ : Addr) = some ⟨b', o', none⟩ ∧ P b' o') = P b o := by
  apply propext; constructor
  · rintro ⟨b', o', e, p⟩; cases e; exact p
  · intro p; exact ⟨b, o, rfl, p⟩

/-! ### Rows of things -/
/-- The list that a slice shows. `E H b o x`: at that place of the heap lies x; `sz` cells each. -/
def rowR {α : Type} (E : Hp → Nat → Nat → α → Prop) (sz : Nat) (H : Hp) (A : Option Addr) (n : Nat) (xs : List α) : Prop :=
  xs.length = n ∧ ∀ (i : Nat) (x : α), xs[i]? = some x → ∃ b o, A = some ⟨b, o, none⟩ ∧ E H b (o + i * sz) x
def Mono {α : Type} (E : Hp → Nat → Nat → α → Prop) : Prop := ∀ H H' b o x, Keeps H H' → E H b o x → E H' b o x
theorem rowR.keeps {α : Type} {E : Hp → Nat → Nat → α → Prop} (hE : Mono E) {sz : Nat} {H H' : Hp} (k : Keeps H H') {A : Option Addr} {n : Nat} {xs : List α} (h : rowR E sz H A n xs) : rowR E sz H' A n xs :=
  ⟨h.1, fun i x hx => by obtain ⟨b, o, e, he⟩ := h.2 i x hx; exact ⟨b, o, e, hE _ _ _ _ _ k he⟩⟩
theorem rowR.at {α : Type} {E : Hp → Nat → Nat → α → Prop} {sz : Nat} {H : Hp} {A : Option Addr} {n : Nat} {xs : List α} (h : rowR E sz H A n xs) {i : Int} (h0 : 0 ≤ i) (h1 : i < (n : Int)) :
    ∃ x b o, xs[i.toNat]? = some x ∧ A = some ⟨b, o, none⟩ ∧ E H b (o + i.toNat * sz) x := by
  have : i.toNat < xs.length := by rw [h.1]; omega
  obtain ⟨b, o, e, he⟩ := h.2 i.toNat _ (List.getElem?_eq_getElem this)
  exact ⟨_, b, o, List.getElem?_eq_getElem this, e, he⟩
theorem rowR_nil {α : Type} (E : Hp → Nat → Nat → α → Prop) (sz : Nat) (H : Hp) (A : Option Addr) : rowR E sz H A 0 [] := ⟨rfl, fun i x h => by simp at h⟩
/-- Bytes. -/
def isU8 (H : Hp) (b o : Nat) (x : Int) : Prop := cel H b o = some (.int .u8 x) ∧ 0 ≤ x ∧ x < 256
theorem isU8.mono : Mono isU8 := fun _ _ _ _ _ k h => ⟨k.cel h.1, h.2⟩
abbrev bytesR := rowR isU8 1
def isI64 (H : Hp) (b o : Nat) (x : Int) : Prop := cel H b o = some (.int .i64 x) ∧ -9223372036854775808 ≤ x ∧ x ≤ 9223372036854775807
theorem isI64.mono : Mono isI64 := fun _ _ _ _ _ k h => ⟨k.cel h.1, h.2⟩
abbrev intsR := rowR isI64 1
end Go.Proofs.Ytkkjjjgcfnhabaa.Eng
namespace Go.Proofs.Ytkkjjjgcfnhabaa.Eng
open Go
/-! ### Lists that a function owns -/
def ownC (H : Hp) (base : Nat) (t : TypeId) (sz : Nat) (A : Option Addr) (n c : Nat) (vs : List Value) : Prop :=
  vs.length = n * sz ∧ n ≤ c ∧ ((A = none ∧ c = 0) ∨ ∃ b cs, base ≤ b ∧ A = some ⟨b, 0, none⟩ ∧ objAt H b cs t ∧ cs.size = c * sz ∧ cs.toList.take (n * sz) = vs)
theorem ownC_nil (H : Hp) (base : Nat) (t : TypeId) (sz : Nat) : ownC H base t sz none 0 0 [] := ⟨by simp, by omega, Or.inl ⟨rfl, rfl⟩⟩
/-- What a change leaves alone. -/
def offA (A : Option Addr) (H H' : Hp) : Prop := H.size ≤ H'.size ∧ ∀ k, k < H.size → A ≠ some ⟨k, 0, none⟩ → H'[k]? = H[k]?
theorem ownC.lt {H : Hp} {base : Nat} {t : TypeId} {sz : Nat} {A : Option Addr} {n c : Nat} {vs : List Value} (h : ownC H base t sz A n c vs) {b : Nat} (hb : A = some ⟨b, 0, none⟩) : base ≤ b ∧ b < H.size := by
  obtain ⟨_, _, h | ⟨b', cs, h1, h2, h3, _⟩⟩ := h
  · rw [h.1] at hb; cases hb
  · rw [h2] at hb; cases hb; exact ⟨h1, objAt_lt h3⟩
theorem ownC.frame {H H' : Hp} {base : Nat} {t : TypeId} {sz : Nat} {A : Option Addr} {n c : Nat} {vs : List Value} (h : ownC H base t sz A n c vs) (hf : ∀ b, A = some ⟨b, 0, none⟩ → H'[b]? = H[b]?) : ownC H' base t sz A n c vs := by
  obtain ⟨h1, h2, h | ⟨b, cs, h3, h4, h5, h6⟩⟩ := h
  · exact ⟨h1, h2, Or.inl h⟩
  · refine ⟨h1, h2, Or.inr ⟨b, cs, h3, h4, ?_, h6⟩⟩
    unfold objAt at h5 ⊢; rw [hf b h4]; exact h5
theorem ownC.keeps {H H' : Hp} {base : Nat} {t : TypeId} {sz : Nat} {A : Option Addr} {n c : Nat} {vs : List Value} (h : ownC H base t sz A n c vs) (k : Keeps H H') : ownC H' base t sz A n c vs :=
  h.frame fun b hb => k.old b (h.lt hb).2
/-- Lists of other elements lie elsewhere. -/
theorem ownC.off {H H' : Hp} {base base' : Nat} {t t' : TypeId} {sz sz' : Nat} {A A' : Option Addr} {n c n' c' : Nat} {vs vs' : List Value} (h : ownC H base t sz A n c vs)
    (h' : ownC H base' t' sz' A' n' c' vs') (ht : t ≠ t') (ho : offA A' H H') : ownC H' base t sz A n c vs := by
  refine h.frame fun b hb => ho.2 b (h.lt hb).2 fun e => ?_
  obtain ⟨_, _, q | ⟨b1, cs1, _, e1, o1, _⟩⟩ := h
  · rw [q.1] at hb; cases hb
  obtain ⟨_, _, q | ⟨b2, cs2, _, e2, o2, _⟩⟩ := h'
  · rw [q.1] at e; cases e
  rw [e1] at hb; cases hb
  rw [e2] at e; cases e
  unfold objAt at o1 o2
  rw [o1] at o2; cases o2; exact ht rfl
theorem ownC.rd {H : Hp} {base : Nat} {t : TypeId} {sz : Nat} {A : Option Addr} {n c : Nat} {vs : List Value} (h : ownC H base t sz A n c vs) : rdC H A (n * sz) vs := by
  obtain ⟨h1, h2, h | ⟨b, cs, h3, h4, h5, h6, h7⟩⟩ := h
  · refine ⟨h1, fun hp => ?_⟩
    have : n = 0 := by omega
    subst this; omega
  · refine ⟨h1, fun _ => ⟨b, 0, h4, fun j v hv => ?_⟩⟩
    rw [Nat.zero_add, objAt_cel h5]
    rw [← h7, List.getElem?_take] at hv
    split at hv
    · simpa using hv
    · cases hv
theorem offA.keeps {G H H' : Hp} {A : Option Addr} (k : Keeps G H) (h : offA A H H') (hb : ∀ b, A = some ⟨b, 0, none⟩ → G.size ≤ b) : Keeps G H' :=
  ⟨Nat.le_trans k.size h.1, fun i hi => by
    rw [h.2 i (Nat.lt_of_lt_of_le hi k.size) (fun e => by have := hb i e; omega)]; exact k.old i hi⟩
theorem spl_take {c : Array Value} {o : Nat} {vs : List Value} (h : o + vs.length ≤ c.size) : (spl c o vs).toList.take (o + vs.length) = c.toList.take o ++ vs := by
  simp only [spl]
  have : (List.take o c.toList).length = o := by simp; omega
  rw [List.take_append_of_le_length (by simp; omega)]
  rw [List.take_of_length_le (by simp; omega)]
theorem app_own {C : Ctx} {t tx : TypeId} {i : TI} {e : TypeId} {ie : TI} (hi : tget C.T t = some i) (hk : i.k = .slc e) (hie : tget C.T e = some ie)
    {x : Value} (hb : (srcB C tx x && Nat.blt 0 ie.size && Nat.blt 0 ie.bytes && Nat.beq ie.zero.length ie.size) = true) {H : Hp} {base : Nat} {A : Option Addr} {n c : Nat} {vs : List Value}
    (h : ownC H base e ie.size A n c vs) {m : Nat} {ys : List Value} (hs : srcC H ie.size x m ys) (hy : ys.length = m * ie.size) (hv : ∀ v ∈ ys, v.oneCell' = true) (hn : (n + m) * ie.bytes ≤ 140737488355328)
    (hbase : base ≤ H.size) {K : Value → Hp → Prop}
    (hK : ∀ A' c' H', ownC H' base e ie.size A' (n + m) c' (vs ++ ys) → offA A H H' → (A' = A ∨ A' = some ⟨H.size, 0, none⟩) → (m = 0 ∨ A' ≠ none) → K (.slice A' (n + m) c') H') :
    appW C t tx (.slice A n c) x H K := by
  obtain ⟨hl, hnc, ho⟩ := h
  have hsz : 0 < ie.size := by
    simp only [Bool.and_eq_true] at hb; exact Nat.le_of_ble_eq_true hb.1.1.2
  have hzl : ie.zero.length = ie.size := by
    simp only [Bool.and_eq_true] at hb; exact Nat.eq_of_beq_eq_true hb.2
  unfold appW
  simp only [hi, hk, hie]
  rw [hb]
  refine ⟨m, ys, hs, fun hc => ?_, fun hc => ⟨hn, vs, ?_, fun cap h1 h2 => ?_⟩⟩
  · rcases ho with ⟨rfl, rfl⟩ | ⟨b, cs, h3, rfl, h5, h6, h7⟩
    · have : m = 0 := by omega
      subst this
      have : ys = [] := List.eq_nil_of_length_eq_zero (by omega)
      subst this
      refine ⟨Or.inl rfl, ?_⟩
      have := hK none 0 H ⟨by simp [hl], by omega, Or.inl ⟨rfl, rfl⟩⟩ ⟨Nat.le_refl _, fun _ _ _ => rfl⟩ (Or.inl rfl) (Or.inl rfl)
      simpa [hputA] using this
    · have hle : n * ie.size + ys.length ≤ cs.size := by
        rw [hy, h6, ← Nat.add_mul]; exact Nat.mul_le_mul_right _ hc
      refine ⟨Or.inr ⟨b, 0, rfl, cs, e, 0, 0, h5, by simpa using hle, by omega, hv⟩, ?_⟩
      have ho' := objAt_hput h5 (0 + n * ie.size) ys
      rw [Nat.zero_add] at ho'
      refine hK _ _ _ ⟨by simp [hl, hy, Nat.add_mul], hc, Or.inr ⟨b, _, h3, rfl, ?_, by rw [size_spl _ _ _ hle]; exact h6, ?_⟩⟩ ⟨by simp [hputA, hput_size], fun k hk hne => ?_⟩ (Or.inl rfl) (Or.inr (by simp))
      · simpa [hputA] using ho'
      · rw [Nat.add_mul, ← hy, spl_take hle, h7]
      · simp only [hputA]
        exact hput_other (fun e => hne (by rw [e]))
  · have h : ownC H base e ie.size A n c vs := ⟨hl, hnc, ho⟩
    exact h.rd
  · refine hK _ _ _ ⟨by simp [hl, hy, Nat.add_mul], h1, Or.inr ⟨H.size, _, hbase, rfl, objAt_new _ _ _, ?_, ?_⟩⟩ ⟨by simp, fun k hk _ => ?_⟩ (Or.inr rfl) (Or.inr (by simp))
    · simp only [List.size_toArray, List.length_append, hl, hy, zrow_length, hzl]
      rw [← Nat.add_mul, ← Nat.add_mul]; congr 1; omega
    · simp only [List.toList_toArray]
      rw [List.take_append_of_le_length (by simp [hl, hy, Nat.add_mul])]
      rw [List.take_of_length_le (by simp [hl, hy, Nat.add_mul])]
    · rw [Array.getElem?_push, if_neg (by omega)]
end Go.Proofs.Ytkkjjjgcfnhabaa.Eng
namespace Go.Proofs.Ytkkjjjgcfnhabaa.Eng
open Go Go.Proofs
/-! ### 89 winnow/winnowref7.Check -/
def f89.an : An := .seq (.reg (.op false (.op false (.done)))) (.seq (.seq (.join [(11, false, [.bool])] (.reg (.op false (.op false (.op false (.op false (.split 6 (.op false (.op false (.op false (.op false (.op false (.done)))))) (.op false (.op false (.op false (.op false (.op false (.done))))))))))))) (.cond (.seq (.reg (.op false (.done))) (.nil)) (.nil))) (.seq (.seq (.join [(35, false, [.bool])] (.reg (.op false (.op false (.op false (.split 14 (.op false (.op false (.op false (.op false (.op false (.op false (.op false (.op false (.op false (.op false (.op false (.op false (.op false (.op false (.op false (.op false (.op false (.op false (.op false (.op false (.op false (.done)))))))))))))))))))))) (.op false (.op false (.op false (.op false (.op false (.split 19 (.op false (.op false (.op false (.op false (.op false (.op false (.op false (.op false (.op false (.op false (.op false (.op false (.op false (.op false (.op false (.op false (.done))))))))))))))))) (.op false (.op false (.op false (.op false (.op false (.split 24 (.op false (.op false (.op false (.op false (.op false (.op false (.op false (.op false (.op false (.op false (.op false (.done)))))))))))) (.op false (.op false (.op false (.op false (.op false (.op false (.split 30 (.op false (.op false (.op false (.op false (.op false (.done)))))) (.op false (.op false (.op false (.op false (.op false (.done))))))))))))))))))))))))))))))) (.cond (.seq (.reg (.op false (.done))) (.nil)) (.nil))) (.seq (.reg (.op false (.done))) (.nil))))
def f89.VC (φ : Fx) (f : Bool) (f2 : Int) (fA : Option Addr) (fn fc : Nat) (H : Hp) (R : Value → Hp → Prop) : Prop :=
  let H_ : Hp := Array.push H (.cells #[.bool f, .int .i64 f2, .slice fA fn fc] 144 (0, 0));
  (∃ M_ : Bool → Hp → Prop, (∃ (x : Int), cel H_ (Array.size H) (0 + 1) = some (.int .i64 x) ∧ (((decide (x = 0)) = true → (∃ (A : Option Addr) (n c : Nat), cel H_ (Array.size H) (0 + 2) = some (.slice A n c) ∧ (M_ (decide (((n : Nat) : Int) = 0)) H_))) ∧
        ((decide (x = 0)) = false → (M_ false H_)))) ∧
    (∀ (x2 : Bool) (j_ : Nat → Value) (H_2 : Hp), M_ x2 H_2 → ((x2 = true → (R (.int .i64 0) H_2)) ∧
        (x2 = false → (∃ M_2 : Bool → Hp → Prop, (∃ (x3 : Bool), cel H_2 (Array.size H) 0 = some (.bool x3) ∧ ((x3 = true → (M_2 true H_2)) ∧
                (x3 = false → (∃ (x4 : Int), cel H_2 (Array.size H) (0 + 1) = some (.int .i64 x4) ∧ (((decide (x4 < 1)) = true → (M_2 true H_2)) ∧
                      ((decide (x4 < 1)) = false → (∃ (x5 : Int), cel H_2 (Array.size H) (0 + 1) = some (.int .i64 x5) ∧ (((decide (8 < x5)) = true → (M_2 true H_2)) ∧
                            ((decide (8 < x5)) = false → (∃ (A2 : Option Addr) (n2 c2 : Nat), cel H_2 (Array.size H) (0 + 2) = some (.slice A2 n2 c2) ∧ (((decide (((n2 : Nat) : Int) < 1)) = true → (M_2 true H_2)) ∧
                                  ((decide (((n2 : Nat) : Int) < 1)) = false → (∃ (A3 : Option Addr) (n3 c3 : Nat), cel H_2 (Array.size H) (0 + 2) = some (.slice A3 n3 c3) ∧ (M_2 (decide (4096 < ((n3 : Nat) : Int))) H_2)))))))))))))) ∧
            (∀ (x6 : Bool) (j_2 : Nat → Value) (H_3 : Hp), M_2 x6 H_3 → ((x6 = true → (R (.int .i64 70) H_3)) ∧
                (x6 = false → (R (.int .i64 0) H_3)))))))))
theorem f89.vc (φ : Fx) (f : Bool) (f2 : Int) (fA : Option Addr) (fn fc : Nat) (H : Hp) (R : Value → Hp → Prop) : fnW cx φ Try.f89 f89.an [.agg #[.bool f, .int .i64 f2, .slice fA fn fc]] H R = f89.VC φ f f2 fA fn fc H R := by kernel_rfl
theorem f89.of {φ : Fx} {f : Bool} {f2 : Int} {fA : Option Addr} {fn fc : Nat} {H : Hp} {R : Value → Hp → Prop} (h : f89.VC φ f f2 fA fn fc H R) : HCalls cx.P φ 89 [.agg #[.bool f, .int .i64 f2, .slice fA fn fc]] H R :=
  fnW_calls cx_ok (show cx.P.funcs[89]? = some Try.f89 by kernel_rfl) (by rw [f89.vc]; exact h)

/-! ### 90 winnow/winnowref8.blockRight -/
def f90.an : An := .seq (.reg (.op false (.op false (.done)))) (.seq (.seq (.join [(28, false, [.bool])] (.reg (.op false (.op false (.op false (.op false (.split 6 (.op false (.op false (.op false (.op false (.op false (.op false (.op false (.op false (.op false (.op false (.op false (.op false (.op false (.op false (.op false (.op false (.op false (.op false (.op false (.op false (.op false (.op false (.done))))))))))))))))))))))) (.op false (.op false (.op false (.op false (.op false (.split 11 (.op false (.op false (.op false (.op false (.op false (.op false (.op false (.op false (.op false (.op false (.op false (.op false (.op false (.op false (.op false (.op false (.op false (.done)))))))))))))))))) (.op false (.op false (.op false (.op false (.op false (.split 16 (.op false (.op false (.op false (.op false (.op false (.op false (.op false (.op false (.op false (.op false (.op false (.op false (.done))))))))))))) (.op false (.op false (.op false (.op false (.op false (.split 21 (.op false (.op false (.op false (.op false (.op false (.op false (.op false (.done)))))))) (.op false (.op false (.op false (.op false (.op false (.op false (.op false (.done))))))))))))))))))))))))))))))))) (.cond (.seq (.reg (.op false (.done))) (.nil)) (.nil))) (.seq (.join [(2, false, [.bool])] (.reg (.op false (.op false (.op false (.op false (.split 32 (.op false (.op false (.op false (.op false (.op false (.op false (.op false (.split 39 (.op false (.op false (.op false (.op false (.op false (.op false (.done))))))) (.op false (.op false (.op false (.op false (.op false (.op false (.done))))))))))))))) (.op false (.op false (.op false (.op false (.op false (.op false (.op false (.op false (.op false (.op false (.op false (.op false (.op false (.done))))))))))))))))))))) (.nil)))
def f90.VC (φ : Fx) (b : Int) (b2 : Int) (b3 : Int) (b4 : ByteArray) (H : Hp) (R : Value → Hp → Prop) : Prop :=
  let H_ : Hp := Array.push H (.cells #[.int .i64 b, .int .i64 b2, .int .i64 b3, .string b4] 150 (0, 0));
  (∃ M_ : Bool → Hp → Prop, (∃ (x : Int), cel H_ (Array.size H) 0 = some (.int .i64 x) ∧ (((decide (x < 1)) = true → (M_ true H_)) ∧
        ((decide (x < 1)) = false → (∃ (x2 : Int), cel H_ (Array.size H) 0 = some (.int .i64 x2) ∧ (((decide (65536 < x2)) = true → (M_ true H_)) ∧
              ((decide (65536 < x2)) = false → (∃ (x3 : Int), cel H_ (Array.size H) (0 + 1) = some (.int .i64 x3) ∧ (((decide (x3 < 1)) = true → (M_ true H_)) ∧
                    ((decide (x3 < 1)) = false → (∃ (x4 : Int), cel H_ (Array.size H) (0 + 1) = some (.int .i64 x4) ∧ (((decide (65536 < x4)) = true → (M_ true H_)) ∧
                          ((decide (65536 < x4)) = false → (∃ (x5 : Int), cel H_ (Array.size H) (0 + 1) = some (.int .i64 x5) ∧ (∃ (x6 : Int), cel H_ (Array.size H) 0 = some (.int .i64 x6) ∧ (((-9223372036854775808) ≤ 64 * x6 ∧ 64 * x6 ≤ 9223372036854775807) ∧
                                  (M_ (decide ((64 * x6) < x5)) H_)))))))))))))))) ∧
    (∀ (x7 : Bool) (j_ : Nat → Value) (H_2 : Hp), M_ x7 H_2 → ((x7 = true → (R (.bool false) H_2)) ∧
        (x7 = false → (∃ M_2 : Bool → Hp → Prop, (∃ (x8 : Int), cel H_2 (Array.size H) (0 + 2) = some (.int .i64 x8) ∧ (((decide (1 ≤ x8)) = true → (∃ (x9 : Int), cel H_2 (Array.size H) (0 + 2) = some (.int .i64 x9) ∧ (∃ (x10 : Int), cel H_2 (Array.size H) (0 + 1) = some (.int .i64 x10) ∧ (((decide (x9 ≤ x10)) = true → (∃ (x11 : ByteArray), cel H_2 (Array.size H) (0 + 3) = some (.string x11) ∧ (M_2 (decide (((ByteArray.size x11 : Nat) : Int) ≤ 64)) H_2))) ∧
                        ((decide (x9 ≤ x10)) = false → (M_2 false H_2)))))) ∧
                ((decide (1 ≤ x8)) = false → (M_2 false H_2)))) ∧
            (∀ (x12 : Bool) (j_2 : Nat → Value) (H_3 : Hp), M_2 x12 H_3 → (R (.bool x12) H_3)))))))
theorem f90.vc (φ : Fx) (b : Int) (b2 : Int) (b3 : Int) (b4 : ByteArray) (H : Hp) (R : Value → Hp → Prop) : fnW cx φ Try.f90 f90.an [.agg #[.int .i64 b, .int .i64 b2, .int .i64 b3, .string b4]] H R = f90.VC φ b b2 b3 b4 H R := by kernel_rfl
theorem f90.of {φ : Fx} {b : Int} {b2 : Int} {b3 : Int} {b4 : ByteArray} {H : Hp} {R : Value → Hp → Prop} (h : f90.VC φ b b2 b3 b4 H R) : HCalls cx.P φ 90 [.agg #[.int .i64 b, .int .i64 b2, .int .i64 b3, .string b4]] H R :=
  fnW_calls cx_ok (show cx.P.funcs[90]? = some Try.f90 by kernel_rfl) (by rw [f90.vc]; exact h)

/-! ### 16 winnow/winnowref8.Check -/
def f16.an : An := .seq (.reg (.op false (.op false (.done)))) (.seq (.seq (.join [(16, false, [.bool])] (.reg (.op false (.op false (.op false (.op false (.split 12 (.op false (.op false (.op false (.op false (.done))))) (.op false (.op false (.op false (.op false (.done)))))))))))) (.cond (.seq (.reg (.op false (.done))) (.nil)) (.nil))) (.seq (.reg (.op false (.done))) (.seq (.reg (.op false (.done))) (.seq (.seq (.reg (.op false (.done))) (.blk (.loop [(3, false, [.int .i64]), (4, false, [.int .i64]), (5, false, [.int .i64])] (.seq (.seq (.reg (.op false (.op false (.op false (.op false (.op false (.done))))))) (.cond (.nil) (.nil))) (.seq (.blk (.seq (.reg (.op false (.op false (.op false (.op false (.op false (.op false (.op false (.done))))))))) (.seq (.seq (.join [(51, false, [.bool])] (.reg (.op false (.op false (.op false (.op false (.op false (.split 33 (.op false (.op false (.op false (.op false (.op false (.op false (.op false (.op false (.op false (.op false (.op false (.op false (.op false (.op false (.op false (.op false (.op false (.op false (.done))))))))))))))))))) (.op false (.op false (.op false (.op false (.op false (.op false (.op false (.split 40 (.op false (.op false (.op false (.op false (.op false (.op false (.op false (.op false (.op false (.op false (.op false (.done)))))))))))) (.op false (.op false (.op false (.op false (.op false (.op false (.split 46 (.op false (.op false (.op false (.op false (.op false (.done)))))) (.op false (.op false (.op false (.op false (.op false (.done))))))))))))))))))))))))))))) (.cond (.seq (.reg (.op false (.done))) (.nil)) (.nil))) (.seq (.reg (.op false (.op false (.op false (.done))))) (.seq (.reg (.op false (.op false (.op false (.op false (.op false (.op false (.done)))))))) (.seq (.reg (.op false (.done))) (.blk (.loop [(7, false, [.int .i64])] (.seq (.seq (.reg (.op false (.op false (.op false (.op false (.op false (.done))))))) (.cond (.nil) (.nil))) (.seq (.blk (.seq (.reg (.op false (.op false (.op false (.op false (.op false (.op false (.op false (.done))))))))) (.seq (.join [(93, false, [.bool])] (.draw [[], [0], [0, 1], [0, 1, 2], [0, 1, 2, 3], [0, 1, 2, 3, 4], [0, 1, 2, 3, 4, 5], [0, 1, 2, 3, 4, 5, 6], [0, 1, 2, 3, 4, 5], [0, 1, 2, 3, 4, 5, 6, 7, 8], [0, 1, 2, 3, 4, 5, 6, 7, 8, 9], [0, 1, 2, 3, 4, 5, 6, 7, 8, 9, 10], [0, 1, 2, 3, 4, 5], [0, 1, 2, 3, 4, 5, 12], [0, 1, 2, 3, 4, 5], [0, 1, 2, 3, 4, 5, 14], [0, 1, 2, 3, 4, 5, 12, 13, 14, 15], [0, 1, 2, 3, 4, 5, 12, 13, 14, 15, 16], [0, 1, 2, 3, 4, 5, 12, 13, 14, 15, 16, 17], [0, 1, 2, 3, 4, 5, 6, 7, 8, 9, 10, 11, 12, 13, 14, 15, 16, 17, 18], [0, 1, 2, 3, 4, 5, 6, 7, 8, 9, 10, 11, 12, 13, 14, 15, 16, 17, 18, 19], [0, 1, 2, 3, 4, 5, 6, 7, 8, 9, 10, 11, 12, 13, 14, 15, 16, 17, 18, 19, 20]] (.rd 0 false (.rd 1 false (.rd 2 false (.split 74 (.rd 3 false (.rd 4 false (.rd 5 false (.rd 6 false (.rd 7 false (.rd 8 false (.rd 9 false (.rd 10 false (.rd 11 false (.rd 12 false (.rd 13 false (.rd 14 false (.rd 15 false (.rd 16 false (.rd 17 false (.rd 18 false (.rd 19 false (.rd 20 false (.rd 21 false (.done)))))))))))))))))))) (.rd 3 false (.rd 4 false (.rd 5 false (.split 77 (.rd 6 false (.rd 7 false (.rd 8 false (.rd 9 false (.rd 10 false (.rd 11 false (.rd 12 false (.rd 13 false (.rd 14 false (.rd 15 false (.rd 16 false (.rd 17 false (.rd 18 false (.rd 19 false (.rd 20 false (.rd 21 false (.done))))))))))))))))) (.rd 6 false (.rd 7 false (.rd 8 false (.rd 9 false (.rd 10 false (.rd 11 false (.rd 12 false (.rd 13 false (.rd 14 false (.rd 15 false (.rd 16 false (.rd 17 false (.rd 18 false (.rd 19 false (.rd 20 false (.rd 21 false (.done))))))))))))))))))))))))))) (.cond (.seq (.reg (.op false (.done))) (.nil)) (.nil))))) (.reg (.op false (.op false (.op false (.done))))))))))))))) (.reg (.op false (.op false (.op false (.done)))))))))) (.seq (.seq (.reg (.op false (.op false (.done)))) (.cond (.seq (.reg (.op false (.done))) (.nil)) (.nil))) (.seq (.reg (.op false (.done))) (.nil)))))))
def f16.VC (φ : Fx) (f : Int) (fA : Option Addr) (fn fc : Nat) (H : Hp) (R : Value → Hp → Prop) : Prop :=
  let H_ : Hp := Array.push H (.cells #[.int .i64 f, .slice fA fn fc] 24 (0, 0));
  (∃ M_ : Bool → Hp → Prop, (∃ (x : Int), cel H_ (Array.size H) 0 = some (.int .i64 x) ∧ (((decide (x < 1)) = true → (M_ true H_)) ∧
        ((decide (x < 1)) = false → (∃ (x2 : Int), cel H_ (Array.size H) 0 = some (.int .i64 x2) ∧ (M_ (decide (65535 < x2)) H_))))) ∧
    (∀ (x3 : Bool) (j_ : Nat → Value) (H_2 : Hp), M_ x3 H_2 → ((x3 = true → (R (.int .i64 80) H_2)) ∧
        (x3 = false → (∃ (I_ : Int → Int → Int → Hp → Prop) (m_ : Int → Int → Int → Hp → Nat), I_ 0 (-1) 0 H_2 ∧
            (∀ (blocks : Int) (last : Int) (i : Int) (j_2 : Nat → Value) (H_3 : Hp), I_ blocks last i H_3 → (∃ (A : Option Addr) (n c : Nat), cel H_3 (Array.size H) (0 + 1) = some (.slice A n c) ∧ (((decide (i < ((n : Nat) : Int))) = true → (∃ (A2 : Option Addr) (n2 c2 : Nat), cel H_3 (Array.size H) (0 + 1) = some (.slice A2 n2 c2) ∧ (∃ (b o : Nat), A2 = some ⟨b, o, none⟩ ∧ (0 ≤ i ∧ i < ((n2 : Nat) : Int)) ∧
                        (∃ (Part : Int), cel H_3 b (o + Int.toNat i * 5) = some (.int .i64 Part) ∧
                          ∃ (BlocksA : Option Addr) (Blocksn Blocksc : Nat), cel H_3 b (o + Int.toNat i * 5 + 1) = some (.slice BlocksA Blocksn Blocksc) ∧
                          ∃ (Filter_All : Bool), cel H_3 b (o + Int.toNat i * 5 + 2) = some (.bool Filter_All) ∧
                          ∃ (Filter_Hashes : Int), cel H_3 b (o + Int.toNat i * 5 + 3) = some (.int .i64 Filter_Hashes) ∧
                          ∃ (Filter_DataA : Option Addr) (Filter_Datan Filter_Datac : Nat), cel H_3 b (o + Int.toNat i * 5 + 4) = some (.slice Filter_DataA Filter_Datan Filter_Datac) ∧ (let H_4 : Hp := Array.push H_3 (.cells #[.int .i64 0, .slice none 0 0, .bool false, .int .i64 0, .slice none 0 0] 146 (0, 0));
                            (canPut H_4 (Array.size H_3) 0 [.int .i64 Part, .slice BlocksA Blocksn Blocksc, .bool Filter_All, .int .i64 Filter_Hashes, .slice Filter_DataA Filter_Datan Filter_Datac] ∧
                              (let H_5 : Hp := hput H_4 (Array.size H_3) 0 [.int .i64 Part, .slice BlocksA Blocksn Blocksc, .bool Filter_All, .int .i64 Filter_Hashes, .slice Filter_DataA Filter_Datan Filter_Datac];
                                (∃ M_2 : Bool → Hp → Prop, (∃ (x4 : Int), cel H_5 (Array.size H_3) 0 = some (.int .i64 x4) ∧ (((decide (x4 ≤ last)) = true → (M_2 true H_5)) ∧
                                      ((decide (x4 ≤ last)) = false → (∃ (x5 : Int), cel H_5 (Array.size H_3) 0 = some (.int .i64 x5) ∧ (∃ (x6 : Int), cel H_5 (Array.size H) 0 = some (.int .i64 x6) ∧ (((decide (x6 ≤ x5)) = true → (M_2 true H_5)) ∧
                                              ((decide (x6 ≤ x5)) = false → (∃ (A3 : Option Addr) (n3 c3 : Nat), cel H_5 (Array.size H_3) (0 + 1) = some (.slice A3 n3 c3) ∧ (((decide (((n3 : Nat) : Int) = 0)) = true → (M_2 true H_5)) ∧
                                                    ((decide (((n3 : Nat) : Int) = 0)) = false → (∃ (All : Bool), cel H_5 (Array.size H_3) (0 + 2) = some (.bool All) ∧
                                                        ∃ (Hashes : Int), cel H_5 (Array.size H_3) (0 + 2 + 1) = some (.int .i64 Hashes) ∧
                                                        ∃ (DataA : Option Addr) (Datan Datac : Nat), cel H_5 (Array.size H_3) (0 + 2 + 2) = some (.slice DataA Datan Datac) ∧ (HCalls cx.P φ 89 [.agg #[.bool All, .int .i64 Hashes, .slice DataA Datan Datac]] H_5 (fun v H_6 => ∃ (x7 : Int), v = .int .i64 x7 ∧ (M_2 (!decide (x7 = 0)) H_6)))))))))))))) ∧
                                  (∀ (x8 : Bool) (j_3 : Nat → Value) (H_7 : Hp), M_2 x8 H_7 → ((x8 = true → (R (.int .i64 80) H_7)) ∧
                                      (x8 = false → (∃ (x9 : Int), cel H_7 (Array.size H_3) 0 = some (.int .i64 x9) ∧ (∃ (A4 : Option Addr) (n4 c4 : Nat), cel H_7 (Array.size H_3) (0 + 1) = some (.slice A4 n4 c4) ∧ (((-9223372036854775808) ≤ blocks + ((n4 : Nat) : Int) ∧ blocks + ((n4 : Nat) : Int) ≤ 9223372036854775807) ∧
                                              (∃ (I_2 : Int → Hp → Prop) (m_2 : Int → Hp → Nat), I_2 0 H_7 ∧
                                                (∀ (k : Int) (j_4 : Nat → Value) (H_8 : Hp), I_2 k H_8 → (∃ (A5 : Option Addr) (n5 c5 : Nat), cel H_8 (Array.size H_3) (0 + 1) = some (.slice A5 n5 c5) ∧ (((decide (k < ((n5 : Nat) : Int))) = true → (∃ (A6 : Option Addr) (n6 c6 : Nat), cel H_8 (Array.size H_3) (0 + 1) = some (.slice A6 n6 c6) ∧ (∃ (b2 o2 : Nat), A6 = some ⟨b2, o2, none⟩ ∧ (0 ≤ k ∧ k < ((n6 : Nat) : Int)) ∧
                                                            (∃ (Stored : Int), cel H_8 b2 (o2 + Int.toNat k * 4) = some (.int .i64 Stored) ∧
                                                              ∃ (Raw : Int), cel H_8 b2 (o2 + Int.toNat k * 4 + 1) = some (.int .i64 Raw) ∧
                                                              ∃ (Count : Int), cel H_8 b2 (o2 + Int.toNat k * 4 + 2) = some (.int .i64 Count) ∧
                                                              ∃ (Cut : ByteArray), cel H_8 b2 (o2 + Int.toNat k * 4 + 3) = some (.string Cut) ∧ (HCalls cx.P φ 90 [.agg #[.int .i64 Stored, .int .i64 Raw, .int .i64 Count, .string Cut]] H_8 (fun v2 H_9 => ∃ (x10 : Bool), v2 = .bool x10 ∧ (∃ M_3 : Bool → Hp → Prop, (((!x10) = true → (M_3 true H_9)) ∧
                                                                      ((!x10) = false → (((decide (0 < k)) = true → (∃ (A7 : Option Addr) (n7 c7 : Nat), cel H_9 (Array.size H_3) (0 + 1) = some (.slice A7 n7 c7) ∧ (∃ (b3 o3 : Nat), A7 = some ⟨b3, o3, none⟩ ∧ (0 ≤ k ∧ k < ((n7 : Nat) : Int)) ∧
                                                                                (∃ (x11 : ByteArray), cel H_9 b3 (o3 + Int.toNat k * 4 + 3) = some (.string x11) ∧ (∃ (A8 : Option Addr) (n8 c8 : Nat), cel H_9 (Array.size H_3) (0 + 1) = some (.slice A8 n8 c8) ∧ (((-9223372036854775808) ≤ k - 1 ∧ k - 1 ≤ 9223372036854775807) ∧
                                                                                (∃ (b4 o4 : Nat), A8 = some ⟨b4, o4, none⟩ ∧ (0 ≤ (k - 1) ∧ (k - 1) < ((n8 : Nat) : Int)) ∧
                                                                                (∃ (x12 : ByteArray), cel H_9 b4 (o4 + Int.toNat (k - 1) * 4 + 3) = some (.string x12) ∧ (M_3 (Op.bytesLess (ByteArray.toList x11) (ByteArray.toList x12)) H_9))))))))) ∧
                                                                          ((decide (0 < k)) = false → (M_3 false H_9))))) ∧
                                                                    (∀ (x13 : Bool) (j_5 : Nat → Value) (H_10 : Hp), M_3 x13 H_10 → ((x13 = true → (R (.int .i64 80) H_10)) ∧
                                                                        (x13 = false → (((-9223372036854775808) ≤ k + 1 ∧ k + 1 ≤ 9223372036854775807) ∧
                                                                            (I_2 (k + 1) H_10 ∧ m_2 (k + 1) H_10 < m_2 k H_8)))))))))))) ∧
                                                      ((decide (k < ((n5 : Nat) : Int))) = false → (((-9223372036854775808) ≤ i + 1 ∧ i + 1 ≤ 9223372036854775807) ∧
                                                          (I_ (blocks + ((n4 : Nat) : Int)) x9 (i + 1) H_8 ∧ m_ (blocks + ((n4 : Nat) : Int)) x9 (i + 1) H_8 < m_ blocks last i H_3))))))))))))))))))))) ∧
                  ((decide (i < ((n : Nat) : Int))) = false → (((decide (262144 < blocks)) = true → (R (.int .i64 80) H_3)) ∧
                      ((decide (262144 < blocks)) = false → (R (.int .i64 0) H_3))))))))))))
theorem f16.vc (φ : Fx) (f : Int) (fA : Option Addr) (fn fc : Nat) (H : Hp) (R : Value → Hp → Prop) : fnW cx φ Try.f16 f16.an [.agg #[.int .i64 f, .slice fA fn fc]] H R = f16.VC φ f fA fn fc H R := by kernel_rfl
theorem f16.of {φ : Fx} {f : Int} {fA : Option Addr} {fn fc : Nat} {H : Hp} {R : Value → Hp → Prop} (h : f16.VC φ f fA fn fc H R) : HCalls cx.P φ 16 [.agg #[.int .i64 f, .slice fA fn fc]] H R :=
  fnW_calls cx_ok (show cx.P.funcs[16]? = some Try.f16 by kernel_rfl) (by rw [f16.vc]; exact h)

/-! ### 148 winnow/filter.kind -/
def f148.an : An := .seq (.reg (.op false (.op false (.done)))) (.seq (.blk (.seq (.join [(3, false, [.bool])] (.reg (.op false (.op false (.op false (.split 6 (.op false (.op false (.op false (.op false (.op false (.split 11 (.op false (.op false (.op false (.op false (.op false (.op false (.done))))))) (.op false (.op false (.op false (.op false (.op false (.op false (.done))))))))))))) (.op false (.op false (.op false (.op false (.op false (.op false (.op false (.op false (.op false (.op false (.op false (.done)))))))))))))))))) (.cond (.seq (.reg (.op false (.done))) (.nil)) (.seq (.join [(17, false, [.bool])] (.reg (.op false (.op false (.op false (.op false (.split 21 (.op false (.op false (.op false (.op false (.op false (.split 26 (.op false (.op false (.op false (.op false (.op false (.op false (.done))))))) (.op false (.op false (.op false (.op false (.op false (.op false (.done))))))))))))) (.op false (.op false (.op false (.op false (.op false (.op false (.op false (.op false (.op false (.op false (.op false (.done))))))))))))))))))) (.cond (.seq (.reg (.op false (.done))) (.nil)) (.seq (.join [(32, false, [.bool])] (.reg (.op false (.op false (.op false (.op false (.split 36 (.op false (.op false (.op false (.op false (.op false (.split 41 (.op false (.op false (.op false (.op false (.op false (.split 46 (.op false (.op false (.op false (.op false (.op false (.op false (.split 52 (.op false (.op false (.op false (.op false (.op false (.op false (.done))))))) (.op false (.op false (.op false (.op false (.op false (.op false (.done)))))))))))))) (.op false (.op false (.op false (.op false (.op false (.op false (.op false (.op false (.op false (.op false (.op false (.op false (.done))))))))))))))))))) (.op false (.op false (.op false (.op false (.op false (.op false (.op false (.op false (.op false (.op false (.op false (.op false (.op false (.op false (.op false (.op false (.op false (.done)))))))))))))))))))))))) (.op false (.op false (.op false (.op false (.op false (.op false (.op false (.op false (.op false (.op false (.op false (.op false (.op false (.op false (.op false (.op false (.op false (.op false (.op false (.op false (.op false (.op false (.done)))))))))))))))))))))))))))))) (.cond (.seq (.reg (.op false (.done))) (.nil)) (.nil)))))))) (.seq (.reg (.op false (.done))) (.nil)))
def f148.VC (φ : Fx) (f : Bool) (f2 : Int) (fA : Option Addr) (fn fc : Nat) (H : Hp) (R : Value → Hp → Prop) : Prop :=
  let H_ : Hp := Array.push H (.cells #[.bool f, .int .i64 f2, .slice fA fn fc] 144 (0, 0));
  (∃ M_ : Bool → Hp → Prop, (∃ (x : Bool), cel H_ (Array.size H) 0 = some (.bool x) ∧ ((x = true → (∃ (x2 : Int), cel H_ (Array.size H) (0 + 1) = some (.int .i64 x2) ∧ (((decide (x2 = 0)) = true → (∃ (A : Option Addr) (n c : Nat), cel H_ (Array.size H) (0 + 2) = some (.slice A n c) ∧ (M_ (decide (((n : Nat) : Int) = 0)) H_))) ∧
              ((decide (x2 = 0)) = false → (M_ false H_))))) ∧
        (x = false → (M_ false H_)))) ∧
    (∀ (x3 : Bool) (j_ : Nat → Value) (H_2 : Hp), M_ x3 H_2 → ((x3 = true → (R (.int .i64 1) H_2)) ∧
        (x3 = false → (∃ M_2 : Bool → Hp → Prop, (∃ (x4 : Bool), cel H_2 (Array.size H) 0 = some (.bool x4) ∧ (((!x4) = true → (∃ (x5 : Int), cel H_2 (Array.size H) (0 + 1) = some (.int .i64 x5) ∧ (((decide (x5 = 0)) = true → (∃ (A2 : Option Addr) (n2 c2 : Nat), cel H_2 (Array.size H) (0 + 2) = some (.slice A2 n2 c2) ∧ (M_2 (decide (((n2 : Nat) : Int) = 0)) H_2))) ∧
                      ((decide (x5 = 0)) = false → (M_2 false H_2))))) ∧
                ((!x4) = false → (M_2 false H_2)))) ∧
            (∀ (x6 : Bool) (j_2 : Nat → Value) (H_3 : Hp), M_2 x6 H_3 → ((x6 = true → (R (.int .i64 2) H_3)) ∧
                (x6 = false → (∃ M_3 : Bool → Hp → Prop, (∃ (x7 : Bool), cel H_3 (Array.size H) 0 = some (.bool x7) ∧ (((!x7) = true → (∃ (x8 : Int), cel H_3 (Array.size H) (0 + 1) = some (.int .i64 x8) ∧ (((decide (1 ≤ x8)) = true → (∃ (x9 : Int), cel H_3 (Array.size H) (0 + 1) = some (.int .i64 x9) ∧ (((decide (x9 ≤ 8)) = true → (∃ (A3 : Option Addr) (n3 c3 : Nat), cel H_3 (Array.size H) (0 + 2) = some (.slice A3 n3 c3) ∧ (((decide (1 ≤ ((n3 : Nat) : Int))) = true → (∃ (A4 : Option Addr) (n4 c4 : Nat), cel H_3 (Array.size H) (0 + 2) = some (.slice A4 n4 c4) ∧ (M_3 (decide (((n4 : Nat) : Int) ≤ 4096)) H_3))) ∧
                                          ((decide (1 ≤ ((n3 : Nat) : Int))) = false → (M_3 false H_3))))) ∧
                                    ((decide (x9 ≤ 8)) = false → (M_3 false H_3))))) ∧
                              ((decide (1 ≤ x8)) = false → (M_3 false H_3))))) ∧
                        ((!x7) = false → (M_3 false H_3)))) ∧
                    (∀ (x10 : Bool) (j_3 : Nat → Value) (H_4 : Hp), M_3 x10 H_4 → ((x10 = true → (R (.int .i64 3) H_4)) ∧
                        (x10 = false → (R (.int .i64 0) H_4)))))))))))))
theorem f148.vc (φ : Fx) (f : Bool) (f2 : Int) (fA : Option Addr) (fn fc : Nat) (H : Hp) (R : Value → Hp → Prop) : fnW cx φ Try.f148 f148.an [.agg #[.bool f, .int .i64 f2, .slice fA fn fc]] H R = f148.VC φ f f2 fA fn fc H R := by kernel_rfl
theorem f148.of {φ : Fx} {f : Bool} {f2 : Int} {fA : Option Addr} {fn fc : Nat} {H : Hp} {R : Value → Hp → Prop} (h : f148.VC φ f f2 fA fn fc H R) : HCalls cx.P φ 148 [.agg #[.bool f, .int .i64 f2, .slice fA fn fc]] H R :=
  fnW_calls cx_ok (show cx.P.funcs[148]? = some Try.f148 by kernel_rfl) (by rw [f148.vc]; exact h)

/-! ### 91 winnow/filter.Check -/
def f91.an : An := .seq (.reg (.op false (.op false (.done)))) (.seq (.seq (.reg (.op false (.op false (.op false (.done))))) (.cond (.seq (.reg (.op false (.done))) (.nil)) (.nil))) (.seq (.reg (.op false (.done))) (.nil)))
def f91.VC (φ : Fx) (f : Bool) (f2 : Int) (fA : Option Addr) (fn fc : Nat) (H : Hp) (R : Value → Hp → Prop) : Prop :=
  let H_ : Hp := Array.push H (.cells #[.bool f, .int .i64 f2, .slice fA fn fc] 144 (0, 0));
  (∃ (All : Bool), cel H_ (Array.size H) 0 = some (.bool All) ∧
    ∃ (Hashes : Int), cel H_ (Array.size H) (0 + 1) = some (.int .i64 Hashes) ∧
    ∃ (DataA : Option Addr) (Datan Datac : Nat), cel H_ (Array.size H) (0 + 2) = some (.slice DataA Datan Datac) ∧ (HCalls cx.P φ 148 [.agg #[.bool All, .int .i64 Hashes, .slice DataA Datan Datac]] H_ (fun v H_2 => ∃ (x : Int), v = .int .i64 x ∧ (((decide (x = 0)) = true → (R (.int .i64 70) H_2)) ∧
          ((decide (x = 0)) = false → (R (.int .i64 0) H_2))))))
theorem f91.vc (φ : Fx) (f : Bool) (f2 : Int) (fA : Option Addr) (fn fc : Nat) (H : Hp) (R : Value → Hp → Prop) : fnW cx φ Try.f91 f91.an [.agg #[.bool f, .int .i64 f2, .slice fA fn fc]] H R = f91.VC φ f f2 fA fn fc H R := by kernel_rfl
theorem f91.of {φ : Fx} {f : Bool} {f2 : Int} {fA : Option Addr} {fn fc : Nat} {H : Hp} {R : Value → Hp → Prop} (h : f91.VC φ f f2 fA fn fc H R) : HCalls cx.P φ 91 [.agg #[.bool f, .int .i64 f2, .slice fA fn fc]] H R :=
  fnW_calls cx_ok (show cx.P.funcs[91]? = some Try.f91 by kernel_rfl) (by rw [f91.vc]; exact h)

/-! ### 93 winnow/nums.Compare -/
def f93.an : An := .seq (.reg (.op false (.done))) (.seq (.seq (.reg (.op false (.op false (.op false (.op false (.op false (.op false (.done)))))))) (.blk (.loop [(11, false, [.int .i64])] (.seq (.reg (.op false (.done))) (.seq (.cond (.nil) (.nil)) (.seq (.blk (.seq (.reg (.op false (.op false (.done)))) (.blk (.seq (.draw [[], [], [0, 1], [], [], [3, 4], [0, 1, 2, 3, 4, 5], [0, 1, 2, 3, 4, 5, 6]] (.rd 0 false (.rd 1 false (.rd 2 false (.rd 3 false (.rd 4 false (.rd 5 false (.rd 6 true (.rd 7 false (.done)))))))))) (.cond (.seq (.reg (.op false (.done))) (.nil)) (.seq (.draw [[], [], [0, 1], [], [], [3, 4], [0, 1, 2, 3, 4, 5], [0, 1, 2, 3, 4, 5, 6]] (.rd 0 false (.rd 1 false (.rd 2 false (.rd 3 false (.rd 4 false (.rd 5 false (.rd 6 true (.rd 7 false (.done)))))))))) (.cond (.seq (.reg (.op false (.done))) (.nil)) (.nil)))))))) (.reg (.op false (.op false (.done)))))))))) (.seq (.blk (.seq (.reg (.op false (.op false (.op false (.op false (.op false (.op false (.done)))))))) (.cond (.seq (.reg (.op false (.done))) (.nil)) (.seq (.reg (.op false (.op false (.op false (.op false (.op false (.op false (.done)))))))) (.cond (.seq (.reg (.op false (.done))) (.nil)) (.nil)))))) (.seq (.reg (.op false (.done))) (.nil))))
def f93.VC (φ : Fx) (a : ByteArray) (b : ByteArray) (H : Hp) (R : Value → Hp → Prop) : Prop :=
  ∃ (I_ : Int → Hp → Prop) (m_ : Int → Hp → Nat), I_ 0 H ∧
  (∀ (x : Int) (j_ : Nat → Value) (H_ : Hp), I_ x H_ → (((decide (x < (min ((ByteArray.size a : Nat) : Int) ((ByteArray.size b : Nat) : Int)))) = true → ((0 ≤ x ∧ x < ((ByteArray.size a : Nat) : Int)) ∧
          ((0 ≤ x ∧ x < ((ByteArray.size b : Nat) : Int)) ∧
            (((decide ((bt a x) < (bt b x))) = true → (R (.int .i64 (-1)) H_)) ∧
              ((decide ((bt a x) < (bt b x))) = false → ((0 ≤ x ∧ x < ((ByteArray.size a : Nat) : Int)) ∧
                  ((0 ≤ x ∧ x < ((ByteArray.size b : Nat) : Int)) ∧
                    (((decide ((bt b x) < (bt a x))) = true → (R (.int .i64 1) H_)) ∧
                      ((decide ((bt b x) < (bt a x))) = false → (((-9223372036854775808) ≤ x + 1 ∧ x + 1 ≤ 9223372036854775807) ∧
                          (I_ (x + 1) H_ ∧ m_ (x + 1) H_ < m_ x H_))))))))))) ∧
      ((decide (x < (min ((ByteArray.size a : Nat) : Int) ((ByteArray.size b : Nat) : Int)))) = false → (((decide (((ByteArray.size a : Nat) : Int) < ((ByteArray.size b : Nat) : Int))) = true → (R (.int .i64 (-1)) H_)) ∧
          ((decide (((ByteArray.size a : Nat) : Int) < ((ByteArray.size b : Nat) : Int))) = false → (((decide (((ByteArray.size b : Nat) : Int) < ((ByteArray.size a : Nat) : Int))) = true → (R (.int .i64 1) H_)) ∧
              ((decide (((ByteArray.size b : Nat) : Int) < ((ByteArray.size a : Nat) : Int))) = false → (R (.int .i64 0) H_))))))))
theorem f93.vc (φ : Fx) (a : ByteArray) (b : ByteArray) (H : Hp) (R : Value → Hp → Prop) : fnW cx φ Try.f93 f93.an [.string a, .string b] H R = f93.VC φ a b H R := by kernel_rfl
theorem f93.of {φ : Fx} {a : ByteArray} {b : ByteArray} {H : Hp} {R : Value → Hp → Prop} (h : f93.VC φ a b H R) : HCalls cx.P φ 93 [.string a, .string b] H R :=
  fnW_calls cx_ok (show cx.P.funcs[93]? = some Try.f93 by kernel_rfl) (by rw [f93.vc]; exact h)

/-! ### 92 winnow/foot.rightBlock -/
def f92.an : An := .seq (.reg (.op false (.op false (.done)))) (.seq (.join [(4, false, [.bool])] (.reg (.op false (.op false (.op false (.op false (.split 8 (.op false (.op false (.op false (.op false (.op false (.split 13 (.op false (.op false (.op false (.op false (.op false (.split 18 (.op false (.op false (.op false (.op false (.op false (.split 23 (.op false (.op false (.op false (.op false (.op false (.op false (.op false (.op false (.split 31 (.op false (.op false (.op false (.op false (.op false (.split 36 (.op false (.op false (.op false (.op false (.op false (.op false (.op false (.split 43 (.op false (.op false (.op false (.op false (.op false (.op false (.split 49 (.op false (.op false (.op false (.op false (.op false (.op false (.op false (.done)))))))) (.op false (.op false (.op false (.op false (.op false (.op false (.op false (.done))))))))))))))) (.op false (.op false (.op false (.op false (.op false (.op false (.op false (.op false (.op false (.op false (.op false (.op false (.op false (.done)))))))))))))))))))))) (.op false (.op false (.op false (.op false (.op false (.op false (.op false (.op false (.op false (.op false (.op false (.op false (.op false (.op false (.op false (.op false (.op false (.op false (.op false (.op false (.done))))))))))))))))))))))))))) (.op false (.op false (.op false (.op false (.op false (.op false (.op false (.op false (.op false (.op false (.op false (.op false (.op false (.op false (.op false (.op false (.op false (.op false (.op false (.op false (.op false (.op false (.op false (.op false (.op false (.done))))))))))))))))))))))))))))))))))) (.op false (.op false (.op false (.op false (.op false (.op false (.op false (.op false (.op false (.op false (.op false (.op false (.op false (.op false (.op false (.op false (.op false (.op false (.op false (.op false (.op false (.op false (.op false (.op false (.op false (.op false (.op false (.op false (.op false (.op false (.op false (.op false (.op false (.done)))))))))))))))))))))))))))))))))))))))) (.op false (.op false (.op false (.op false (.op false (.op false (.op false (.op false (.op false (.op false (.op false (.op false (.op false (.op false (.op false (.op false (.op false (.op false (.op false (.op false (.op false (.op false (.op false (.op false (.op false (.op false (.op false (.op false (.op false (.op false (.op false (.op false (.op false (.op false (.op false (.op false (.op false (.op false (.done))))))))))))))))))))))))))))))))))))))))))))) (.op false (.op false (.op false (.op false (.op false (.op false (.op false (.op false (.op false (.op false (.op false (.op false (.op false (.op false (.op false (.op false (.op false (.op false (.op false (.op false (.op false (.op false (.op false (.op false (.op false (.op false (.op false (.op false (.op false (.op false (.op false (.op false (.op false (.op false (.op false (.op false (.op false (.op false (.op false (.op false (.op false (.op false (.op false (.done)))))))))))))))))))))))))))))))))))))))))))))))))) (.op false (.op false (.op false (.op false (.op false (.op false (.op false (.op false (.op false (.op false (.op false (.op false (.op false (.op false (.op false (.op false (.op false (.op false (.op false (.op false (.op false (.op false (.op false (.op false (.op false (.op false (.op false (.op false (.op false (.op false (.op false (.op false (.op false (.op false (.op false (.op false (.op false (.op false (.op false (.op false (.op false (.op false (.op false (.op false (.op false (.op false (.op false (.op false (.done)))))))))))))))))))))))))))))))))))))))))))))))))))))))) (.nil))
def f92.VC (φ : Fx) (b : Int) (b2 : Int) (b3 : Int) (b4 : ByteArray) (last : ByteArray) (H : Hp) (R : Value → Hp → Prop) : Prop :=
  let H_ : Hp := Array.push H (.cells #[.int .i64 b, .int .i64 b2, .int .i64 b3, .string b4] 150 (0, 0));
  (∃ M_ : Bool → Hp → Prop, (∃ (x : Int), cel H_ (Array.size H) 0 = some (.int .i64 x) ∧ (((decide (1 ≤ x)) = true → (∃ (x2 : Int), cel H_ (Array.size H) 0 = some (.int .i64 x2) ∧ (((decide (x2 ≤ 65536)) = true → (∃ (x3 : Int), cel H_ (Array.size H) (0 + 1) = some (.int .i64 x3) ∧ (((decide (1 ≤ x3)) = true → (∃ (x4 : Int), cel H_ (Array.size H) (0 + 1) = some (.int .i64 x4) ∧ (((decide (x4 ≤ 65536)) = true → (∃ (x5 : Int), cel H_ (Array.size H) (0 + 1) = some (.int .i64 x5) ∧ (∃ (x6 : Int), cel H_ (Array.size H) 0 = some (.int .i64 x6) ∧ (((-9223372036854775808) ≤ 64 * x6 ∧ 64 * x6 ≤ 9223372036854775807) ∧
                                  (((decide (x5 ≤ (64 * x6))) = true → (∃ (x7 : Int), cel H_ (Array.size H) (0 + 2) = some (.int .i64 x7) ∧ (((decide (1 ≤ x7)) = true → (∃ (x8 : Int), cel H_ (Array.size H) (0 + 2) = some (.int .i64 x8) ∧ (∃ (x9 : Int), cel H_ (Array.size H) (0 + 1) = some (.int .i64 x9) ∧ (((decide (x8 ≤ x9)) = true → (∃ (x10 : ByteArray), cel H_ (Array.size H) (0 + 3) = some (.string x10) ∧ (((decide (((ByteArray.size x10 : Nat) : Int) ≤ 64)) = true → (∃ (x11 : ByteArray), cel H_ (Array.size H) (0 + 3) = some (.string x11) ∧ (HCalls cx.P φ 93 [.string x11, .string last] H_ (fun v H_2 => ∃ (x12 : Int), v = .int .i64 x12 ∧ (M_ (decide (0 ≤ x12)) H_2))))) ∧
                                                        ((decide (((ByteArray.size x10 : Nat) : Int) ≤ 64)) = false → (M_ false H_))))) ∧
                                                  ((decide (x8 ≤ x9)) = false → (M_ false H_)))))) ∧
                                          ((decide (1 ≤ x7)) = false → (M_ false H_))))) ∧
                                    ((decide (x5 ≤ (64 * x6))) = false → (M_ false H_))))))) ∧
                          ((decide (x4 ≤ 65536)) = false → (M_ false H_))))) ∧
                    ((decide (1 ≤ x3)) = false → (M_ false H_))))) ∧
              ((decide (x2 ≤ 65536)) = false → (M_ false H_))))) ∧
        ((decide (1 ≤ x)) = false → (M_ false H_)))) ∧
    (∀ (x13 : Bool) (j_ : Nat → Value) (H_3 : Hp), M_ x13 H_3 → (R (.bool x13) H_3)))
theorem f92.vc (φ : Fx) (b : Int) (b2 : Int) (b3 : Int) (b4 : ByteArray) (last : ByteArray) (H : Hp) (R : Value → Hp → Prop) : fnW cx φ Try.f92 f92.an [.agg #[.int .i64 b, .int .i64 b2, .int .i64 b3, .string b4], .string last] H R = f92.VC φ b b2 b3 b4 last H R := by kernel_rfl
theorem f92.of {φ : Fx} {b : Int} {b2 : Int} {b3 : Int} {b4 : ByteArray} {last : ByteArray} {H : Hp} {R : Value → Hp → Prop} (h : f92.VC φ b b2 b3 b4 last H R) : HCalls cx.P φ 92 [.agg #[.int .i64 b, .int .i64 b2, .int .i64 b3, .string b4], .string last] H R :=
  fnW_calls cx_ok (show cx.P.funcs[92]? = some Try.f92 by kernel_rfl) (by rw [f92.vc]; exact h)

/-! ### 17 winnow/foot.Check -/
def f17.an : An := .seq (.reg (.op false (.op false (.done)))) (.seq (.seq (.join [(17, false, [.bool])] (.reg (.op false (.op false (.op false (.op false (.split 13 (.op false (.op false (.op false (.op false (.done))))) (.op false (.op false (.op false (.op false (.done)))))))))))) (.cond (.seq (.reg (.op false (.done))) (.nil)) (.nil))) (.seq (.reg (.op false (.op false (.done)))) (.seq (.seq (.reg (.op false (.op false (.op false (.op false (.done)))))) (.blk (.loop [(3, false, [.int .i64]), (4, false, [.int .i64]), (21, false, [.int .i64])] (.seq (.reg (.op false (.done))) (.seq (.cond (.nil) (.nil)) (.seq (.blk (.seq (.reg (.op false (.op false (.op false (.op false (.done)))))) (.seq (.reg (.op false (.op false (.op false (.op false (.op false (.op false (.done)))))))) (.seq (.seq (.join [(56, false, [.bool])] (.reg (.op false (.op false (.op false (.op false (.op false (.split 34 (.op false (.op false (.op false (.op false (.op false (.op false (.op false (.op false (.op false (.op false (.op false (.op false (.op false (.op false (.op false (.op false (.op false (.op false (.op false (.op false (.op false (.op false (.done))))))))))))))))))))))) (.op false (.op false (.op false (.op false (.op false (.op false (.op false (.split 41 (.op false (.op false (.op false (.op false (.op false (.op false (.op false (.op false (.op false (.op false (.op false (.op false (.op false (.op false (.op false (.done)))))))))))))))) (.op false (.op false (.op false (.op false (.op false (.op false (.split 47 (.op false (.op false (.op false (.op false (.op false (.op false (.op false (.op false (.op false (.done)))))))))) (.op false (.op false (.op false (.op false (.split 51 (.op false (.op false (.op false (.op false (.op false (.done)))))) (.op false (.op false (.op false (.op false (.op false (.done)))))))))))))))))))))))))))))))))) (.cond (.seq (.reg (.op false (.done))) (.nil)) (.nil))) (.seq (.reg (.op false (.op false (.op false (.done))))) (.seq (.reg (.op false (.done))) (.seq (.reg (.op false (.op false (.op false (.op false (.done)))))) (.blk (.loop [(7, false, [.str]), (62, false, [.int .i64])] (.seq (.reg (.op false (.done))) (.seq (.cond (.nil) (.nil)) (.seq (.blk (.seq (.reg (.op false (.op false (.op false (.op false (.done)))))) (.seq (.seq (.reg (.op false (.op false (.op false (.op false (.done)))))) (.cond (.seq (.reg (.op false (.done))) (.nil)) (.nil))) (.reg (.op false (.op false (.op false (.done)))))))) (.reg (.op false (.op false (.done)))))))))))))))) (.reg (.op false (.op false (.done)))))))))) (.seq (.reg (.op false (.done))) (.nil)))))
def f17.VC (φ : Fx) (f : Int) (fA : Option Addr) (fn fc : Nat) (H : Hp) (R : Value → Hp → Prop) : Prop :=
  let H_ : Hp := Array.push H (.cells #[.int .i64 f, .slice fA fn fc] 24 (0, 0));
  (∃ M_ : Bool → Hp → Prop, (∃ (x : Int), cel H_ (Array.size H) 0 = some (.int .i64 x) ∧ (((decide (x < 1)) = true → (M_ true H_)) ∧
        ((decide (x < 1)) = false → (∃ (x2 : Int), cel H_ (Array.size H) 0 = some (.int .i64 x2) ∧ (M_ (decide (65535 < x2)) H_))))) ∧
    (∀ (x3 : Bool) (j_ : Nat → Value) (H_2 : Hp), M_ x3 H_2 → ((x3 = true → (R (.int .i64 80) H_2)) ∧
        (x3 = false → (∃ (A : Option Addr) (n c : Nat), cel H_2 (Array.size H) (0 + 1) = some (.slice A n c) ∧ (∃ (I_ : Int → Int → Int → Hp → Prop) (m_ : Int → Int → Int → Hp → Nat), I_ (-1) 0 0 H_2 ∧
              (∀ (last : Int) (blocks : Int) (x4 : Int) (j_2 : Nat → Value) (H_3 : Hp), I_ last blocks x4 H_3 → (((decide (x4 < ((n : Nat) : Int))) = true → (∃ (b o : Nat), A = some ⟨b, o, none⟩ ∧ (0 ≤ x4 ∧ x4 < ((n : Nat) : Int)) ∧
                      (∃ (Part : Int), cel H_3 b (o + Int.toNat x4 * 5) = some (.int .i64 Part) ∧
                        ∃ (BlocksA : Option Addr) (Blocksn Blocksc : Nat), cel H_3 b (o + Int.toNat x4 * 5 + 1) = some (.slice BlocksA Blocksn Blocksc) ∧
                        ∃ (Filter_All : Bool), cel H_3 b (o + Int.toNat x4 * 5 + 2) = some (.bool Filter_All) ∧
                        ∃ (Filter_Hashes : Int), cel H_3 b (o + Int.toNat x4 * 5 + 3) = some (.int .i64 Filter_Hashes) ∧
                        ∃ (Filter_DataA : Option Addr) (Filter_Datan Filter_Datac : Nat), cel H_3 b (o + Int.toNat x4 * 5 + 4) = some (.slice Filter_DataA Filter_Datan Filter_Datac) ∧ (let H_4 : Hp := Array.push H_3 (.cells #[.int .i64 0, .slice none 0 0, .bool false, .int .i64 0, .slice none 0 0] 146 (0, 0));
                          (canPut H_4 (Array.size H_3) 0 [.int .i64 Part, .slice BlocksA Blocksn Blocksc, .bool Filter_All, .int .i64 Filter_Hashes, .slice Filter_DataA Filter_Datan Filter_Datac] ∧
                            (let H_5 : Hp := hput H_4 (Array.size H_3) 0 [.int .i64 Part, .slice BlocksA Blocksn Blocksc, .bool Filter_All, .int .i64 Filter_Hashes, .slice Filter_DataA Filter_Datan Filter_Datac];
                              (∃ (A2 : Option Addr) (n2 c2 : Nat), cel H_5 (Array.size H_3) (0 + 1) = some (.slice A2 n2 c2) ∧ (((-9223372036854775808) ≤ blocks + ((n2 : Nat) : Int) ∧ blocks + ((n2 : Nat) : Int) ≤ 9223372036854775807) ∧
                                  (∃ M_2 : Bool → Hp → Prop, (∃ (x5 : Int), cel H_5 (Array.size H_3) 0 = some (.int .i64 x5) ∧ (((decide (x5 ≤ last)) = true → (M_2 true H_5)) ∧
                                        ((decide (x5 ≤ last)) = false → (∃ (x6 : Int), cel H_5 (Array.size H_3) 0 = some (.int .i64 x6) ∧ (∃ (x7 : Int), cel H_5 (Array.size H) 0 = some (.int .i64 x7) ∧ (((decide (x7 ≤ x6)) = true → (M_2 true H_5)) ∧
                                                ((decide (x7 ≤ x6)) = false → (∃ (A3 : Option Addr) (n3 c3 : Nat), cel H_5 (Array.size H_3) (0 + 1) = some (.slice A3 n3 c3) ∧ (((decide (((n3 : Nat) : Int) = 0)) = true → (M_2 true H_5)) ∧
                                                      ((decide (((n3 : Nat) : Int) = 0)) = false → (((decide (262144 < (blocks + ((n2 : Nat) : Int)))) = true → (M_2 true H_5)) ∧
                                                          ((decide (262144 < (blocks + ((n2 : Nat) : Int)))) = false → (∃ (All : Bool), cel H_5 (Array.size H_3) (0 + 2) = some (.bool All) ∧
                                                              ∃ (Hashes : Int), cel H_5 (Array.size H_3) (0 + 2 + 1) = some (.int .i64 Hashes) ∧
                                                              ∃ (DataA : Option Addr) (Datan Datac : Nat), cel H_5 (Array.size H_3) (0 + 2 + 2) = some (.slice DataA Datan Datac) ∧ (HCalls cx.P φ 91 [.agg #[.bool All, .int .i64 Hashes, .slice DataA Datan Datac]] H_5 (fun v H_6 => ∃ (x8 : Int), v = .int .i64 x8 ∧ (M_2 (!decide (x8 = 0)) H_6)))))))))))))))) ∧
                                    (∀ (x9 : Bool) (j_3 : Nat → Value) (H_7 : Hp), M_2 x9 H_7 → ((x9 = true → (R (.int .i64 80) H_7)) ∧
                                        (x9 = false → (∃ (x10 : Int), cel H_7 (Array.size H_3) 0 = some (.int .i64 x10) ∧ (∃ (A4 : Option Addr) (n4 c4 : Nat), cel H_7 (Array.size H_3) (0 + 1) = some (.slice A4 n4 c4) ∧ (∃ (I_2 : ByteArray → Int → Hp → Prop) (m_2 : ByteArray → Int → Hp → Nat), I_2 ⟨#[]⟩ 0 H_7 ∧
                                                (∀ (key : ByteArray) (x11 : Int) (j_4 : Nat → Value) (H_8 : Hp), I_2 key x11 H_8 → (((decide (x11 < ((n4 : Nat) : Int))) = true → (∃ (b2 o2 : Nat), A4 = some ⟨b2, o2, none⟩ ∧ (0 ≤ x11 ∧ x11 < ((n4 : Nat) : Int)) ∧
                                                        (∃ (Stored : Int), cel H_8 b2 (o2 + Int.toNat x11 * 4) = some (.int .i64 Stored) ∧
                                                          ∃ (Raw : Int), cel H_8 b2 (o2 + Int.toNat x11 * 4 + 1) = some (.int .i64 Raw) ∧
                                                          ∃ (Count : Int), cel H_8 b2 (o2 + Int.toNat x11 * 4 + 2) = some (.int .i64 Count) ∧
                                                          ∃ (Cut : ByteArray), cel H_8 b2 (o2 + Int.toNat x11 * 4 + 3) = some (.string Cut) ∧ (let H_9 : Hp := Array.push H_8 (.cells #[.int .i64 0, .int .i64 0, .int .i64 0, .string ⟨#[]⟩] 150 (0, 0));
                                                            (canPut H_9 (Array.size H_8) 0 [.int .i64 Stored, .int .i64 Raw, .int .i64 Count, .string Cut] ∧
                                                              (let H_10 : Hp := hput H_9 (Array.size H_8) 0 [.int .i64 Stored, .int .i64 Raw, .int .i64 Count, .string Cut];
                                                                (∃ (Stored2 : Int), cel H_10 (Array.size H_8) 0 = some (.int .i64 Stored2) ∧
                                                                  ∃ (Raw2 : Int), cel H_10 (Array.size H_8) (0 + 1) = some (.int .i64 Raw2) ∧
                                                                  ∃ (Count2 : Int), cel H_10 (Array.size H_8) (0 + 2) = some (.int .i64 Count2) ∧
                                                                  ∃ (Cut2 : ByteArray), cel H_10 (Array.size H_8) (0 + 3) = some (.string Cut2) ∧ (HCalls cx.P φ 92 [.agg #[.int .i64 Stored2, .int .i64 Raw2, .int .i64 Count2, .string Cut2], .string key] H_10 (fun v2 H_11 => ∃ (x12 : Bool), v2 = .bool x12 ∧ (((!x12) = true → (R (.int .i64 80) H_11)) ∧
                                                                        ((!x12) = false → (∃ (x13 : ByteArray), cel H_11 (Array.size H_8) (0 + 3) = some (.string x13) ∧ (((-9223372036854775808) ≤ x11 + 1 ∧ x11 + 1 ≤ 9223372036854775807) ∧
                                                                              (I_2 x13 (x11 + 1) H_11 ∧ m_2 x13 (x11 + 1) H_11 < m_2 key x11 H_8)))))))))))))) ∧
                                                    ((decide (x11 < ((n4 : Nat) : Int))) = false → (((-9223372036854775808) ≤ x4 + 1 ∧ x4 + 1 ≤ 9223372036854775807) ∧
                                                        (I_ x10 (blocks + ((n2 : Nat) : Int)) (x4 + 1) H_8 ∧ m_ x10 (blocks + ((n2 : Nat) : Int)) (x4 + 1) H_8 < m_ last blocks x4 H_3)))))))))))))))))))) ∧
                  ((decide (x4 < ((n : Nat) : Int))) = false → (R (.int .i64 0) H_3))))))))))
theorem f17.vc (φ : Fx) (f : Int) (fA : Option Addr) (fn fc : Nat) (H : Hp) (R : Value → Hp → Prop) : fnW cx φ Try.f17 f17.an [.agg #[.int .i64 f, .slice fA fn fc]] H R = f17.VC φ f fA fn fc H R := by kernel_rfl
theorem f17.of {φ : Fx} {f : Int} {fA : Option Addr} {fn fc : Nat} {H : Hp} {R : Value → Hp → Prop} (h : f17.VC φ f fA fn fc H R) : HCalls cx.P φ 17 [.agg #[.int .i64 f, .slice fA fn fc]] H R :=
  fnW_calls cx_ok (show cx.P.funcs[17]? = some Try.f17 by kernel_rfl) (by rw [f17.vc]; exact h)

/-! ### 18 winnow/winnowlaw8.twin -/
def f18.an : An := .seq (.reg (.op false (.op false (.done)))) (.seq (.reg (.op false (.done))) (.seq (.seq (.reg (.op false (.done))) (.blk (.loop [(3, false, [.slc]), (4, false, [.int .i64])] (.seq (.seq (.reg (.op false (.op false (.op false (.op false (.op false (.done))))))) (.cond (.nil) (.nil))) (.seq (.blk (.seq (.reg (.op false (.op false (.op false (.op false (.op false (.op false (.op false (.done))))))))) (.seq (.reg (.op false (.done))) (.seq (.reg (.op false (.op false (.op false (.op false (.op false (.op false (.done)))))))) (.seq (.reg (.op false (.op false (.op false (.op false (.done)))))) (.seq (.reg (.op false (.op false (.op false (.op false (.op false (.op false (.op false (.op false (.op false (.op false (.op false (.op false (.op false (.done))))))))))))))) (.seq (.reg (.op false (.done))) (.seq (.reg (.op false (.op false (.op false (.op false (.op false (.done))))))) (.seq (.reg (.op false (.op false (.op false (.op false (.op false (.done))))))) (.seq (.reg (.op false (.op false (.op false (.op false (.op false (.op false (.op false (.op false (.op false (.op false (.op false (.done))))))))))))) (.reg (.op false (.op false (.op false (.op false (.op false (.done))))))))))))))))) (.reg (.op false (.op false (.op false (.done)))))))))) (.seq (.reg (.op false (.op false (.op false (.op false (.op false (.done))))))) (.seq (.reg (.op false (.op false (.op false (.op false (.op false (.op false (.op false (.done))))))))) (.seq (.reg (.op false (.op false (.done)))) (.nil))))))
def f18.VC (φ : Fx) (f : Int) (fA : Option Addr) (fn fc : Nat) (H : Hp) (R : Value → Hp → Prop) : Prop :=
  let H_ : Hp := Array.push H (.cells #[.int .i64 f, .slice fA fn fc] 24 (0, 0));
  (let H_2 : Hp := Array.push H_ (.cells #[.int .i64 0, .slice none 0 0] 24 (0, 0));
    (∃ (I_ : Option Addr → Nat → Nat → Int → Hp → Prop) (m_ : Option Addr → Nat → Nat → Int → Hp → Nat), I_ none 0 0 0 H_2 ∧
      (∀ (lA : Option Addr) (ln lc : Nat) (i : Int) (j_ : Nat → Value) (H_3 : Hp), I_ lA ln lc i H_3 → (∃ (A : Option Addr) (n c : Nat), cel H_3 (Array.size H) (0 + 1) = some (.slice A n c) ∧ (((decide (i < ((n : Nat) : Int))) = true → (∃ (A2 : Option Addr) (n2 c2 : Nat), cel H_3 (Array.size H) (0 + 1) = some (.slice A2 n2 c2) ∧ (∃ (b o : Nat), A2 = some ⟨b, o, none⟩ ∧ (0 ≤ i ∧ i < ((n2 : Nat) : Int)) ∧
                  (∃ (Part : Int), cel H_3 b (o + Int.toNat i * 5) = some (.int .i64 Part) ∧
                    ∃ (BlocksA : Option Addr) (Blocksn Blocksc : Nat), cel H_3 b (o + Int.toNat i * 5 + 1) = some (.slice BlocksA Blocksn Blocksc) ∧
                    ∃ (Filter_All : Bool), cel H_3 b (o + Int.toNat i * 5 + 2) = some (.bool Filter_All) ∧
                    ∃ (Filter_Hashes : Int), cel H_3 b (o + Int.toNat i * 5 + 3) = some (.int .i64 Filter_Hashes) ∧
                    ∃ (Filter_DataA : Option Addr) (Filter_Datan Filter_Datac : Nat), cel H_3 b (o + Int.toNat i * 5 + 4) = some (.slice Filter_DataA Filter_Datan Filter_Datac) ∧ (let H_4 : Hp := Array.push H_3 (.cells #[.int .i64 0, .slice none 0 0, .bool false, .int .i64 0, .slice none 0 0] 146 (0, 0));
                      (canPut H_4 (Array.size H_3) 0 [.int .i64 Part, .slice BlocksA Blocksn Blocksc, .bool Filter_All, .int .i64 Filter_Hashes, .slice Filter_DataA Filter_Datan Filter_Datac] ∧
                        (let H_5 : Hp := hput H_4 (Array.size H_3) 0 [.int .i64 Part, .slice BlocksA Blocksn Blocksc, .bool Filter_All, .int .i64 Filter_Hashes, .slice Filter_DataA Filter_Datan Filter_Datac];
                          (∃ (A3 : Option Addr) (n3 c3 : Nat), cel H_5 (Array.size H_3) (0 + 2 + 2) = some (.slice A3 n3 c3) ∧ (appW cx 59 59 (Value.slice none 0 0) (Value.slice A3 n3 c3) H_5 (fun v H_6 => ∃ (A4 : Option Addr) (n4 c4 : Nat), v = .slice A4 n4 c4 ∧ (let H_7 : Hp := Array.push H_6 (.cells #[.int .u8 209, .int .u8 210] 5 (0, 0));
                                  (appW cx 59 59 (Value.slice A4 n4 c4) (Value.slice (some ⟨Array.size H_6, 0, none⟩) 2 2) H_7 (fun v2 H_8 => ∃ (A5 : Option Addr) (n5 c5 : Nat), v2 = .slice A5 n5 c5 ∧ (∃ (A6 : Option Addr) (n6 c6 : Nat), cel H_8 (Array.size H) (0 + 1) = some (.slice A6 n6 c6) ∧ (∃ (b2 o2 : Nat), A6 = some ⟨b2, o2, none⟩ ∧ (0 ≤ i ∧ i < ((n6 : Nat) : Int)) ∧
                                          (∃ (A7 : Option Addr) (n7 c7 : Nat), cel H_8 b2 (o2 + Int.toNat i * 5 + 2 + 2) = some (.slice A7 n7 c7) ∧ ((0 ≤ ((n7 : Nat) : Int) ∧ ((n7 : Nat) : Int) ≤ ((c5 : Nat) : Int)) ∧
                                              (canPut H_8 (Array.size H_3) (0 + 2 + 2) [.slice A5 (Int.toNat ((n7 : Nat) : Int)) c5] ∧
                                                (let H_9 : Hp := hput H_8 (Array.size H_3) (0 + 2 + 2) [.slice A5 (Int.toNat ((n7 : Nat) : Int)) c5];
                                                  (∃ (A8 : Option Addr) (n8 c8 : Nat), cel H_9 (Array.size H_3) (0 + 1) = some (.slice A8 n8 c8) ∧ (appW cx 142 142 (Value.slice none 0 0) (Value.slice A8 n8 c8) H_9 (fun v3 H_10 => ∃ (A9 : Option Addr) (n9 c9 : Nat), v3 = .slice A9 n9 c9 ∧ (let H_11 : Hp := Array.push H_10 (.cells #[.int .i64 (-9), .int .i64 0, .int .i64 0, .string ⟨#[]⟩] 150 (0, 0));
                                                          (appW cx 142 142 (Value.slice A9 n9 c9) (Value.slice (some ⟨Array.size H_10, 0, none⟩) 1 1) H_11 (fun v4 H_12 => ∃ (A10 : Option Addr) (n10 c10 : Nat), v4 = .slice A10 n10 c10 ∧ (∃ (A11 : Option Addr) (n11 c11 : Nat), cel H_12 (Array.size H) (0 + 1) = some (.slice A11 n11 c11) ∧ (∃ (b3 o3 : Nat), A11 = some ⟨b3, o3, none⟩ ∧ (0 ≤ i ∧ i < ((n11 : Nat) : Int)) ∧
                                                                  (∃ (A12 : Option Addr) (n12 c12 : Nat), cel H_12 b3 (o3 + Int.toNat i * 5 + 1) = some (.slice A12 n12 c12) ∧ ((0 ≤ ((n12 : Nat) : Int) ∧ ((n12 : Nat) : Int) ≤ ((c10 : Nat) : Int)) ∧
                                                                      (canPut H_12 (Array.size H_3) (0 + 1) [.slice A10 (Int.toNat ((n12 : Nat) : Int)) c10] ∧
                                                                        (let H_13 : Hp := hput H_12 (Array.size H_3) (0 + 1) [.slice A10 (Int.toNat ((n12 : Nat) : Int)) c10];
                                                                          (∃ (Part2 : Int), cel H_13 (Array.size H_3) 0 = some (.int .i64 Part2) ∧
                                                                            ∃ (BlocksA2 : Option Addr) (Blocksn2 Blocksc2 : Nat), cel H_13 (Array.size H_3) (0 + 1) = some (.slice BlocksA2 Blocksn2 Blocksc2) ∧
                                                                            ∃ (Filter_All2 : Bool), cel H_13 (Array.size H_3) (0 + 2) = some (.bool Filter_All2) ∧
                                                                            ∃ (Filter_Hashes2 : Int), cel H_13 (Array.size H_3) (0 + 3) = some (.int .i64 Filter_Hashes2) ∧
                                                                            ∃ (Filter_DataA2 : Option Addr) (Filter_Datan2 Filter_Datac2 : Nat), cel H_13 (Array.size H_3) (0 + 4) = some (.slice Filter_DataA2 Filter_Datan2 Filter_Datac2) ∧ (let H_14 : Hp := Array.push H_13 (.cells #[.int .i64 Part2, .slice BlocksA2 Blocksn2 Blocksc2, .bool Filter_All2, .int .i64 Filter_Hashes2, .slice Filter_DataA2 Filter_Datan2 Filter_Datac2] 146 (0, 0));
                                                                              (appW cx 22 22 (Value.slice lA ln lc) (Value.slice (some ⟨Array.size H_13, 0, none⟩) 1 1) H_14 (fun v5 H_15 => ∃ (A13 : Option Addr) (n13 c13 : Nat), v5 = .slice A13 n13 c13 ∧ (((-9223372036854775808) ≤ i + 1 ∧ i + 1 ≤ 9223372036854775807) ∧
                                                                                (I_ A13 n13 c13 (i + 1) H_15 ∧ m_ A13 n13 c13 (i + 1) H_15 < m_ lA ln lc i H_3))))))))))))))))))))))))))))))))))))) ∧
            ((decide (i < ((n : Nat) : Int))) = false → (let H_16 : Hp := Array.push H_3 (.cells #[.int .i64 (-9), .slice none 0 0, .bool false, .int .i64 0, .slice none 0 0] 146 (0, 0));
                (appW cx 22 22 (Value.slice lA ln lc) (Value.slice (some ⟨Array.size H_3, 0, none⟩) 1 1) H_16 (fun v6 H_17 => ∃ (A14 : Option Addr) (n14 c14 : Nat), v6 = .slice A14 n14 c14 ∧ (((-9223372036854775808) ≤ ((n14 : Nat) : Int) - 1 ∧ ((n14 : Nat) : Int) - 1 ≤ 9223372036854775807) ∧
                      ((0 ≤ (((n14 : Nat) : Int) - 1) ∧ (((n14 : Nat) : Int) - 1) ≤ ((c14 : Nat) : Int)) ∧
                        (canPut H_17 (Array.size H) (0 + 1) [.slice A14 (Int.toNat (((n14 : Nat) : Int) - 1)) c14] ∧
                          (let H_18 : Hp := hput H_17 (Array.size H) (0 + 1) [.slice A14 (Int.toNat (((n14 : Nat) : Int) - 1)) c14];
                            (∃ (Parts : Int), cel H_18 (Array.size H) 0 = some (.int .i64 Parts) ∧
                              ∃ (InfosA : Option Addr) (Infosn Infosc : Nat), cel H_18 (Array.size H) (0 + 1) = some (.slice InfosA Infosn Infosc) ∧ (canPut H_18 (Array.size H_) 0 [.int .i64 Parts, .slice InfosA Infosn Infosc] ∧
                                (let H_19 : Hp := hput H_18 (Array.size H_) 0 [.int .i64 Parts, .slice InfosA Infosn Infosc];
                                  (∃ (r_Parts : Int), cel H_19 (Array.size H_) 0 = some (.int .i64 r_Parts) ∧
                                    ∃ (r_InfosA : Option Addr) (r_Infosn r_Infosc : Nat), cel H_19 (Array.size H_) (0 + 1) = some (.slice r_InfosA r_Infosn r_Infosc) ∧ (R (.agg #[.int .i64 r_Parts, .slice r_InfosA r_Infosn r_Infosc]) H_19))))))))))))))))))
theorem f18.vc (φ : Fx) (f : Int) (fA : Option Addr) (fn fc : Nat) (H : Hp) (R : Value → Hp → Prop) : fnW cx φ Try.f18 f18.an [.agg #[.int .i64 f, .slice fA fn fc]] H R = f18.VC φ f fA fn fc H R := by kernel_rfl
theorem f18.of {φ : Fx} {f : Int} {fA : Option Addr} {fn fc : Nat} {H : Hp} {R : Value → Hp → Prop} (h : f18.VC φ f fA fn fc H R) : HCalls cx.P φ 18 [.agg #[.int .i64 f, .slice fA fn fc]] H R :=
  fnW_calls cx_ok (show cx.P.funcs[18]? = some Try.f18 by kernel_rfl) (by rw [f18.vc]; exact h)

/-! ### 19 winnow/foot.Find -/
def f19.an : An := .seq (.reg (.op false (.op false (.op false (.done))))) (.seq (.reg (.op false (.op false (.op false (.op false (.op false (.op false (.done)))))))) (.seq (.seq (.reg (.op false (.op false (.op false (.op false (.done)))))) (.blk (.loop [(22, false, [.int .i64])] (.seq (.reg (.op false (.done))) (.seq (.cond (.nil) (.nil)) (.seq (.blk (.seq (.reg (.op false (.op false (.op false (.op false (.op false (.op false (.done)))))))) (.seq (.seq (.reg (.op false (.op false (.op false (.op false (.done)))))) (.cond (.nil) (.nil))) (.seq (.draw [[], [0], [0, 1], [], [0, 1, 2, 3]] (.rd 0 false (.rd 1 false (.rd 2 false (.rd 3 false (.rd 4 false (.done))))))) (.seq (.blk (.loop [(11, false, [.int .i64]), (12, false, [.int .i64])] (.seq (.seq (.reg (.op false (.op false (.op false (.done))))) (.cond (.nil) (.nil))) (.blk (.seq (.reg (.op false (.op false (.op false (.op false (.op false (.done))))))) (.seq (.reg (.op false (.op false (.op false (.op false (.op false (.op false (.op false (.op false (.op false (.done))))))))))) (.join [(11, false, [.int .i64]), (12, false, [.int .i64])] (.cond (.reg (.op false (.op false (.op false (.done))))) (.reg (.op false (.op false (.done)))))))))))) (.seq (.reg (.op false (.op false (.op false (.op false (.op false (.op false (.done)))))))) (.nil))))))) (.reg (.op false (.op false (.done)))))))))) (.seq (.reg (.op false (.op false (.done)))) (.nil))))
def f19.VC (φ : Fx) (f : Int) (fA : Option Addr) (fn fc : Nat) (part : Int) (key : ByteArray) (H : Hp) (R : Value → Hp → Prop) : Prop :=
  let H_ : Hp := Array.push H (.cells #[.int .i64 f, .slice fA fn fc] 24 (0, 0));
  ((0 ≤ (min ((ByteArray.size key : Nat) : Int) 64) ∧ (min ((ByteArray.size key : Nat) : Int) 64) ≤ ((ByteArray.size key : Nat) : Int)) ∧
    (∃ (A : Option Addr) (n c : Nat), cel H_ (Array.size H) (0 + 1) = some (.slice A n c) ∧ (∃ (I_ : Int → Hp → Prop) (m_ : Int → Hp → Nat), I_ 0 H_ ∧
        (∀ (x : Int) (j_ : Nat → Value) (H_2 : Hp), I_ x H_2 → (((decide (x < ((n : Nat) : Int))) = true → (∃ (b o : Nat), A = some ⟨b, o, none⟩ ∧ (0 ≤ x ∧ x < ((n : Nat) : Int)) ∧
                (∃ (Part : Int), cel H_2 b (o + Int.toNat x * 5) = some (.int .i64 Part) ∧
                  ∃ (BlocksA : Option Addr) (Blocksn Blocksc : Nat), cel H_2 b (o + Int.toNat x * 5 + 1) = some (.slice BlocksA Blocksn Blocksc) ∧
                  ∃ (Filter_All : Bool), cel H_2 b (o + Int.toNat x * 5 + 2) = some (.bool Filter_All) ∧
                  ∃ (Filter_Hashes : Int), cel H_2 b (o + Int.toNat x * 5 + 3) = some (.int .i64 Filter_Hashes) ∧
                  ∃ (Filter_DataA : Option Addr) (Filter_Datan Filter_Datac : Nat), cel H_2 b (o + Int.toNat x * 5 + 4) = some (.slice Filter_DataA Filter_Datan Filter_Datac) ∧ (let H_3 : Hp := Array.push H_2 (.cells #[.int .i64 0, .slice none 0 0, .bool false, .int .i64 0, .slice none 0 0] 146 (0, 0));
                    (canPut H_3 (Array.size H_2) 0 [.int .i64 Part, .slice BlocksA Blocksn Blocksc, .bool Filter_All, .int .i64 Filter_Hashes, .slice Filter_DataA Filter_Datan Filter_Datac] ∧
                      (let H_4 : Hp := hput H_3 (Array.size H_2) 0 [.int .i64 Part, .slice BlocksA Blocksn Blocksc, .bool Filter_All, .int .i64 Filter_Hashes, .slice Filter_DataA Filter_Datan Filter_Datac];
                        (∃ (x2 : Int), cel H_4 (Array.size H_2) 0 = some (.int .i64 x2) ∧ (((!decide (x2 = part)) = true → (((-9223372036854775808) ≤ x + 1 ∧ x + 1 ≤ 9223372036854775807) ∧
                                (I_ (x + 1) H_4 ∧ m_ (x + 1) H_4 < m_ x H_2))) ∧
                            ((!decide (x2 = part)) = false → (∃ (A2 : Option Addr) (n2 c2 : Nat), cel H_4 (Array.size H_2) (0 + 1) = some (.slice A2 n2 c2) ∧ (∃ (I_2 : Int → Int → Hp → Prop) (m_2 : Int → Int → Hp → Nat), I_2 0 ((n2 : Nat) : Int) H_4 ∧
                                  (∀ (lo : Int) (hi : Int) (j_2 : Nat → Value) (H_5 : Hp), I_2 lo hi H_5 → (((decide (lo < hi)) = true → (((-9223372036854775808) ≤ lo + hi ∧ lo + hi ≤ 9223372036854775807) ∧
                                          ((0 ≤ (lo + hi) ∧ (lo + hi) ≤ 9223372036854775807 ∧ (0 : Int) < 2) ∧
                                            (∃ (A3 : Option Addr) (n3 c3 : Nat), cel H_5 (Array.size H_2) (0 + 1) = some (.slice A3 n3 c3) ∧ (∃ (b2 o2 : Nat), A3 = some ⟨b2, o2, none⟩ ∧ (0 ≤ ((lo + hi) / 2) ∧ ((lo + hi) / 2) < ((n3 : Nat) : Int)) ∧
                                                (∃ (x3 : ByteArray), cel H_5 b2 (o2 + Int.toNat ((lo + hi) / 2) * 4 + 3) = some (.string x3) ∧ (HCalls cx.P φ 93 [.string x3, .string (ByteArray.extract key 0 (Int.toNat (min ((ByteArray.size key : Nat) : Int) 64)))] H_5 (fun v H_6 => ∃ (x4 : Int), v = .int .i64 x4 ∧ (∃ M_ : Int → Int → Hp → Prop, (((decide (x4 < 0)) = true → (((-9223372036854775808) ≤ ((lo + hi) / 2) + 1 ∧ ((lo + hi) / 2) + 1 ≤ 9223372036854775807) ∧
                                                              (M_ (((lo + hi) / 2) + 1) hi H_6))) ∧
                                                          ((decide (x4 < 0)) = false → (M_ lo ((lo + hi) / 2) H_6))) ∧
                                                        (∀ (lo2 : Int) (hi2 : Int) (j_3 : Nat → Value) (H_7 : Hp), M_ lo2 hi2 H_7 → (I_2 lo2 hi2 H_7 ∧ m_2 lo2 hi2 H_7 < m_2 lo hi H_5))))))))))) ∧
                                      ((decide (lo < hi)) = false → (((-9223372036854775808) ≤ lo - 1 ∧ lo - 1 ≤ 9223372036854775807) ∧
                                          (R (.tuple #[.int .i64 x, .int .i64 (max (lo - 1) 0)]) H_5)))))))))))))))) ∧
            ((decide (x < ((n : Nat) : Int))) = false → (R (.tuple #[.int .i64 (-1), .int .i64 0]) H_2)))))))
theorem f19.vc (φ : Fx) (f : Int) (fA : Option Addr) (fn fc : Nat) (part : Int) (key : ByteArray) (H : Hp) (R : Value → Hp → Prop) : fnW cx φ Try.f19 f19.an [.agg #[.int .i64 f, .slice fA fn fc], .int .i64 part, .string key] H R = f19.VC φ f fA fn fc part key H R := by kernel_rfl
theorem f19.of {φ : Fx} {f : Int} {fA : Option Addr} {fn fc : Nat} {part : Int} {key : ByteArray} {H : Hp} {R : Value → Hp → Prop} (h : f19.VC φ f fA fn fc part key H R) : HCalls cx.P φ 19 [.agg #[.int .i64 f, .slice fA fn fc], .int .i64 part, .string key] H R :=
  fnW_calls cx_ok (show cx.P.funcs[19]? = some Try.f19 by kernel_rfl) (by rw [f19.vc]; exact h)

/-! ### 20 winnow/winnowref8.Find -/
def f20.an : An := .seq (.reg (.op false (.op false (.op false (.done))))) (.seq (.seq (.reg (.op false (.op false (.op false (.done))))) (.join [(2, false, [.str])] (.cond (.reg (.op false (.op false (.op false (.done))))) (.nil)))) (.seq (.seq (.reg (.op false (.done))) (.blk (.loop [(8, false, [.int .i64])] (.seq (.seq (.reg (.op false (.op false (.op false (.op false (.op false (.done))))))) (.cond (.nil) (.nil))) (.seq (.blk (.seq (.seq (.reg (.op false (.op false (.op false (.op false (.op false (.op false (.op false (.op false (.done)))))))))) (.cond (.nil) (.nil))) (.seq (.reg (.op false (.done))) (.seq (.seq (.reg (.op false (.done))) (.blk (.loop [(9, false, [.int .i64]), (10, false, [.int .i64])] (.seq (.seq (.reg (.op false (.op false (.op false (.op false (.op false (.op false (.op false (.op false (.op false (.done))))))))))) (.cond (.nil) (.nil))) (.seq (.blk (.seq (.reg (.op false (.op false (.op false (.op false (.op false (.op false (.op false (.op false (.op false (.op false (.op false (.op false (.done)))))))))))))) (.join [(9, false, [.int .i64])] (.cond (.reg (.op false (.op false (.done)))) (.nil))))) (.reg (.op false (.op false (.op false (.done)))))))))) (.seq (.reg (.op false (.op false (.op false (.op false (.done)))))) (.nil)))))) (.reg (.op false (.op false (.op false (.done)))))))))) (.seq (.reg (.op false (.op false (.done)))) (.nil))))
def f20.VC (φ : Fx) (f : Int) (fA : Option Addr) (fn fc : Nat) (part : Int) (key : ByteArray) (H : Hp) (R : Value → Hp → Prop) : Prop :=
  let H_ : Hp := Array.push H (.cells #[.int .i64 f, .slice fA fn fc] 24 (0, 0));
  (∃ M_ : ByteArray → Hp → Prop, (((decide (64 < ((ByteArray.size key : Nat) : Int))) = true → (((0 : Int) ≤ 64 ∧ 64 ≤ ((ByteArray.size key : Nat) : Int)) ∧
          (M_ (ByteArray.extract key 0 (Int.toNat 64)) H_))) ∧
      ((decide (64 < ((ByteArray.size key : Nat) : Int))) = false → (M_ key H_))) ∧
    (∀ (key2 : ByteArray) (j_ : Nat → Value) (H_2 : Hp), M_ key2 H_2 → (∃ (I_ : Int → Hp → Prop) (m_ : Int → Hp → Nat), I_ 0 H_2 ∧
        (∀ (i : Int) (j_2 : Nat → Value) (H_3 : Hp), I_ i H_3 → (∃ (A : Option Addr) (n c : Nat), cel H_3 (Array.size H) (0 + 1) = some (.slice A n c) ∧ (((decide (i < ((n : Nat) : Int))) = true → (∃ (A2 : Option Addr) (n2 c2 : Nat), cel H_3 (Array.size H) (0 + 1) = some (.slice A2 n2 c2) ∧ (∃ (b o : Nat), A2 = some ⟨b, o, none⟩ ∧ (0 ≤ i ∧ i < ((n2 : Nat) : Int)) ∧
                    (∃ (x : Int), cel H_3 b (o + Int.toNat i * 5) = some (.int .i64 x) ∧ (((!decide (x = part)) = true → (((-9223372036854775808) ≤ i + 1 ∧ i + 1 ≤ 9223372036854775807) ∧
                            (I_ (i + 1) H_3 ∧ m_ (i + 1) H_3 < m_ i H_3))) ∧
                        ((!decide (x = part)) = false → (∃ (I_2 : Int → Int → Hp → Prop) (m_2 : Int → Int → Hp → Nat), I_2 0 0 H_3 ∧
                            (∀ (at_ : Int) (k : Int) (j_3 : Nat → Value) (H_4 : Hp), I_2 at_ k H_4 → (∃ (A3 : Option Addr) (n3 c3 : Nat), cel H_4 (Array.size H) (0 + 1) = some (.slice A3 n3 c3) ∧ (∃ (b2 o2 : Nat), A3 = some ⟨b2, o2, none⟩ ∧ (0 ≤ i ∧ i < ((n3 : Nat) : Int)) ∧
                                  (∃ (A4 : Option Addr) (n4 c4 : Nat), cel H_4 b2 (o2 + Int.toNat i * 5 + 1) = some (.slice A4 n4 c4) ∧ (((decide (k < ((n4 : Nat) : Int))) = true → (∃ (A5 : Option Addr) (n5 c5 : Nat), cel H_4 (Array.size H) (0 + 1) = some (.slice A5 n5 c5) ∧ (∃ (b3 o3 : Nat), A5 = some ⟨b3, o3, none⟩ ∧ (0 ≤ i ∧ i < ((n5 : Nat) : Int)) ∧
                                            (∃ (A6 : Option Addr) (n6 c6 : Nat), cel H_4 b3 (o3 + Int.toNat i * 5 + 1) = some (.slice A6 n6 c6) ∧ (∃ (b4 o4 : Nat), A6 = some ⟨b4, o4, none⟩ ∧ (0 ≤ k ∧ k < ((n6 : Nat) : Int)) ∧
                                                (∃ (x2 : ByteArray), cel H_4 b4 (o4 + Int.toNat k * 4 + 3) = some (.string x2) ∧ (∃ M_2 : Int → Hp → Prop, (((Op.bytesLess (ByteArray.toList x2) (ByteArray.toList key2)) = true → (M_2 k H_4)) ∧
                                                      ((Op.bytesLess (ByteArray.toList x2) (ByteArray.toList key2)) = false → (M_2 at_ H_4))) ∧
                                                    (∀ (at_2 : Int) (j_4 : Nat → Value) (H_5 : Hp), M_2 at_2 H_5 → (((-9223372036854775808) ≤ k + 1 ∧ k + 1 ≤ 9223372036854775807) ∧
                                                        (I_2 at_2 (k + 1) H_5 ∧ m_2 at_2 (k + 1) H_5 < m_2 at_ k H_4)))))))))) ∧
                                      ((decide (k < ((n4 : Nat) : Int))) = false → (R (.tuple #[.int .i64 i, .int .i64 at_]) H_4)))))))))))))) ∧
              ((decide (i < ((n : Nat) : Int))) = false → (R (.tuple #[.int .i64 (-1), .int .i64 0]) H_3))))))))
theorem f20.vc (φ : Fx) (f : Int) (fA : Option Addr) (fn fc : Nat) (part : Int) (key : ByteArray) (H : Hp) (R : Value → Hp → Prop) : fnW cx φ Try.f20 f20.an [.agg #[.int .i64 f, .slice fA fn fc], .int .i64 part, .string key] H R = f20.VC φ f fA fn fc part key H R := by kernel_rfl
theorem f20.of {φ : Fx} {f : Int} {fA : Option Addr} {fn fc : Nat} {part : Int} {key : ByteArray} {H : Hp} {R : Value → Hp → Prop} (h : f20.VC φ f fA fn fc part key H R) : HCalls cx.P φ 20 [.agg #[.int .i64 f, .slice fA fn fc], .int .i64 part, .string key] H R :=
  fnW_calls cx_ok (show cx.P.funcs[20]? = some Try.f20 by kernel_rfl) (by rw [f20.vc]; exact h)

/-! ### 49 winnow/winnowlaw8.same -/
def f49.an : An := .seq (.reg (.op false (.done))) (.seq (.seq (.reg (.op false (.op false (.op false (.op false (.op false (.done))))))) (.cond (.seq (.reg (.op false (.done))) (.nil)) (.nil))) (.seq (.seq (.reg (.op false (.done))) (.blk (.loop [(5, false, [.int .i64])] (.seq (.seq (.reg (.op false (.op false (.op false (.op false (.done)))))) (.cond (.nil) (.nil))) (.seq (.blk (.seq (.draw [[], [], [0, 1], [0, 1, 2], [], [], [4, 5], [4, 5, 6], [0, 1, 2, 3, 4, 5, 6, 7]] (.rd 0 false (.rd 1 false (.rd 2 false (.rd 3 false (.rd 4 false (.rd 5 false (.rd 6 false (.rd 7 false (.rd 8 true (.done))))))))))) (.cond (.seq (.reg (.op false (.done))) (.nil)) (.nil)))) (.reg (.op false (.op false (.op false (.done)))))))))) (.seq (.reg (.op false (.done))) (.nil))))
def f49.VC (φ : Fx) (aA : Option Addr) (an ac : Nat) (bA : Option Addr) (bn bc : Nat) (H : Hp) (R : Value → Hp → Prop) : Prop :=
  ((!decide (((an : Nat) : Int) = ((bn : Nat) : Int))) = true → (R (.bool false) H)) ∧
  ((!decide (((an : Nat) : Int) = ((bn : Nat) : Int))) = false → (∃ (I_ : Int → Hp → Prop) (m_ : Int → Hp → Nat), I_ 0 H ∧
      (∀ (i : Int) (j_ : Nat → Value) (H_ : Hp), I_ i H_ → (((decide (i < ((an : Nat) : Int))) = true → (∃ (b o : Nat), aA = some ⟨b, o, none⟩ ∧ (0 ≤ i ∧ i < ((an : Nat) : Int)) ∧
              (∃ (x : Int), cel H_ b (o + Int.toNat i * 1) = some (.int .u8 x) ∧ (∃ (b2 o2 : Nat), bA = some ⟨b2, o2, none⟩ ∧ (0 ≤ i ∧ i < ((bn : Nat) : Int)) ∧
                  (∃ (x2 : Int), cel H_ b2 (o2 + Int.toNat i * 1) = some (.int .u8 x2) ∧ (((!decide (x = x2)) = true → (R (.bool false) H_)) ∧
                      ((!decide (x = x2)) = false → (((-9223372036854775808) ≤ i + 1 ∧ i + 1 ≤ 9223372036854775807) ∧
                          (I_ (i + 1) H_ ∧ m_ (i + 1) H_ < m_ i H_))))))))) ∧
          ((decide (i < ((an : Nat) : Int))) = false → (R (.bool true) H_))))))
theorem f49.vc (φ : Fx) (aA : Option Addr) (an ac : Nat) (bA : Option Addr) (bn bc : Nat) (H : Hp) (R : Value → Hp → Prop) : fnW cx φ Try.f49 f49.an [.slice aA an ac, .slice bA bn bc] H R = f49.VC φ aA an ac bA bn bc H R := by kernel_rfl
theorem f49.of {φ : Fx} {aA : Option Addr} {an ac : Nat} {bA : Option Addr} {bn bc : Nat} {H : Hp} {R : Value → Hp → Prop} (h : f49.VC φ aA an ac bA bn bc H R) : HCalls cx.P φ 49 [.slice aA an ac, .slice bA bn bc] H R :=
  fnW_calls cx_ok (show cx.P.funcs[49]? = some Try.f49 by kernel_rfl) (by rw [f49.vc]; exact h)

/-! ### 142 winnow/winnowlaw8.sameFilter -/
def f142.an : An := .seq (.reg (.op false (.op false (.op false (.done))))) (.seq (.join [(4, false, [.bool])] (.reg (.op false (.op false (.op false (.op false (.op false (.op false (.split 10 (.op false (.op false (.op false (.op false (.op false (.op false (.op false (.split 17 (.op false (.op false (.op false (.op false (.op false (.op false (.op false (.done)))))))) (.op false (.op false (.op false (.op false (.op false (.op false (.op false (.done)))))))))))))))) (.op false (.op false (.op false (.op false (.op false (.op false (.op false (.op false (.op false (.op false (.op false (.op false (.op false (.op false (.done)))))))))))))))))))))))) (.nil))
def f142.VC (φ : Fx) (a : Bool) (a2 : Int) (aA : Option Addr) (an ac : Nat) (b : Bool) (b2 : Int) (bA : Option Addr) (bn bc : Nat) (H : Hp) (R : Value → Hp → Prop) : Prop :=
  let H_ : Hp := Array.push H (.cells #[.bool a, .int .i64 a2, .slice aA an ac] 144 (0, 0));
  (let H_2 : Hp := Array.push H_ (.cells #[.bool b, .int .i64 b2, .slice bA bn bc] 144 (0, 0));
    (∃ M_ : Bool → Hp → Prop, (∃ (x : Bool), cel H_2 (Array.size H) 0 = some (.bool x) ∧ (∃ (x2 : Bool), cel H_2 (Array.size H_) 0 = some (.bool x2) ∧ (((x == x2) = true → (∃ (x3 : Int), cel H_2 (Array.size H) (0 + 1) = some (.int .i64 x3) ∧ (∃ (x4 : Int), cel H_2 (Array.size H_) (0 + 1) = some (.int .i64 x4) ∧ (((decide (x3 = x4)) = true → (∃ (A : Option Addr) (n c : Nat), cel H_2 (Array.size H) (0 + 2) = some (.slice A n c) ∧ (∃ (A2 : Option Addr) (n2 c2 : Nat), cel H_2 (Array.size H_) (0 + 2) = some (.slice A2 n2 c2) ∧ (HCalls cx.P φ 49 [.slice A n c, .slice A2 n2 c2] H_2 (fun v H_3 => ∃ (x5 : Bool), v = .bool x5 ∧ (M_ x5 H_3)))))) ∧
                    ((decide (x3 = x4)) = false → (M_ false H_2)))))) ∧
            ((x == x2) = false → (M_ false H_2))))) ∧
      (∀ (x6 : Bool) (j_ : Nat → Value) (H_4 : Hp), M_ x6 H_4 → (R (.bool x6) H_4))))
theorem f142.vc (φ : Fx) (a : Bool) (a2 : Int) (aA : Option Addr) (an ac : Nat) (b : Bool) (b2 : Int) (bA : Option Addr) (bn bc : Nat) (H : Hp) (R : Value → Hp → Prop) : fnW cx φ Try.f142 f142.an [.agg #[.bool a, .int .i64 a2, .slice aA an ac], .agg #[.bool b, .int .i64 b2, .slice bA bn bc]] H R = f142.VC φ a a2 aA an ac b b2 bA bn bc H R := by kernel_rfl
theorem f142.of {φ : Fx} {a : Bool} {a2 : Int} {aA : Option Addr} {an ac : Nat} {b : Bool} {b2 : Int} {bA : Option Addr} {bn bc : Nat} {H : Hp} {R : Value → Hp → Prop} (h : f142.VC φ a a2 aA an ac b b2 bA bn bc H R) : HCalls cx.P φ 142 [.agg #[.bool a, .int .i64 a2, .slice aA an ac], .agg #[.bool b, .int .i64 b2, .slice bA bn bc]] H R :=
  fnW_calls cx_ok (show cx.P.funcs[142]? = some Try.f142 by kernel_rfl) (by rw [f142.vc]; exact h)

/-! ### 143 winnow/winnowlaw8.sameBlocks -/
def f143.an : An := .seq (.reg (.op false (.done))) (.seq (.seq (.reg (.op false (.op false (.op false (.op false (.op false (.done))))))) (.cond (.seq (.reg (.op false (.done))) (.nil)) (.nil))) (.seq (.seq (.reg (.op false (.done))) (.blk (.loop [(5, false, [.int .i64])] (.seq (.seq (.reg (.op false (.op false (.op false (.op false (.done)))))) (.cond (.nil) (.nil))) (.seq (.blk (.seq (.draw [[], [], [0, 1], [0, 1, 2], [], [], [4, 5], [4, 5, 6], [0, 1, 2, 3, 4, 5, 6, 7]] (.rd 0 false (.rd 1 false (.rd 2 false (.rd 3 false (.rd 4 false (.rd 5 false (.rd 6 false (.rd 7 false (.rd 8 false (.done))))))))))) (.cond (.seq (.reg (.op false (.done))) (.nil)) (.nil)))) (.reg (.op false (.op false (.op false (.done)))))))))) (.seq (.reg (.op false (.done))) (.nil))))
def f143.VC (φ : Fx) (aA : Option Addr) (an ac : Nat) (bA : Option Addr) (bn bc : Nat) (H : Hp) (R : Value → Hp → Prop) : Prop :=
  ((!decide (((an : Nat) : Int) = ((bn : Nat) : Int))) = true → (R (.bool false) H)) ∧
  ((!decide (((an : Nat) : Int) = ((bn : Nat) : Int))) = false → (∃ (I_ : Int → Hp → Prop) (m_ : Int → Hp → Nat), I_ 0 H ∧
      (∀ (i : Int) (j_ : Nat → Value) (H_ : Hp), I_ i H_ → (((decide (i < ((an : Nat) : Int))) = true → (∃ (b o : Nat), aA = some ⟨b, o, none⟩ ∧ (0 ≤ i ∧ i < ((an : Nat) : Int)) ∧
              (∃ (Stored : Int), cel H_ b (o + Int.toNat i * 4) = some (.int .i64 Stored) ∧
                ∃ (Raw : Int), cel H_ b (o + Int.toNat i * 4 + 1) = some (.int .i64 Raw) ∧
                ∃ (Count : Int), cel H_ b (o + Int.toNat i * 4 + 2) = some (.int .i64 Count) ∧
                ∃ (Cut : ByteArray), cel H_ b (o + Int.toNat i * 4 + 3) = some (.string Cut) ∧ (∃ (b2 o2 : Nat), bA = some ⟨b2, o2, none⟩ ∧ (0 ≤ i ∧ i < ((bn : Nat) : Int)) ∧
                  (∃ (Stored2 : Int), cel H_ b2 (o2 + Int.toNat i * 4) = some (.int .i64 Stored2) ∧
                    ∃ (Raw2 : Int), cel H_ b2 (o2 + Int.toNat i * 4 + 1) = some (.int .i64 Raw2) ∧
                    ∃ (Count2 : Int), cel H_ b2 (o2 + Int.toNat i * 4 + 2) = some (.int .i64 Count2) ∧
                    ∃ (Cut2 : ByteArray), cel H_ b2 (o2 + Int.toNat i * 4 + 3) = some (.string Cut2) ∧ (fitW cx 150 [.int .i64 Stored, .int .i64 Raw, .int .i64 Count, .string Cut] [.int .i64 Stored2, .int .i64 Raw2, .int .i64 Count2, .string Cut2] ∧ (((!((decide (Stored = Stored2) && (decide (Raw = Raw2) && (decide (Count = Count2) && (decide (Cut = Cut2) && true)))))) = true → (R (.bool false) H_)) ∧
                        ((!((decide (Stored = Stored2) && (decide (Raw = Raw2) && (decide (Count = Count2) && (decide (Cut = Cut2) && true)))))) = false → (((-9223372036854775808) ≤ i + 1 ∧ i + 1 ≤ 9223372036854775807) ∧
                            (I_ (i + 1) H_ ∧ m_ (i + 1) H_ < m_ i H_)))))))))) ∧
          ((decide (i < ((an : Nat) : Int))) = false → (R (.bool true) H_))))))
theorem f143.vc (φ : Fx) (aA : Option Addr) (an ac : Nat) (bA : Option Addr) (bn bc : Nat) (H : Hp) (R : Value → Hp → Prop) : fnW cx φ Try.f143 f143.an [.slice aA an ac, .slice bA bn bc] H R = f143.VC φ aA an ac bA bn bc H R := by kernel_rfl
theorem f143.of {φ : Fx} {aA : Option Addr} {an ac : Nat} {bA : Option Addr} {bn bc : Nat} {H : Hp} {R : Value → Hp → Prop} (h : f143.VC φ aA an ac bA bn bc H R) : HCalls cx.P φ 143 [.slice aA an ac, .slice bA bn bc] H R :=
  fnW_calls cx_ok (show cx.P.funcs[143]? = some Try.f143 by kernel_rfl) (by rw [f143.vc]; exact h)

/-! ### 78 winnow/winnowlaw8.sameFoot -/
def f78.an : An := .seq (.reg (.op false (.op false (.op false (.done))))) (.seq (.seq (.join [(19, false, [.bool])] (.reg (.op false (.op false (.op false (.op false (.op false (.op false (.split 11 (.op false (.op false (.op false (.op false (.op false (.op false (.op false (.op false (.done))))))))) (.op false (.op false (.op false (.op false (.op false (.op false (.op false (.op false (.done)))))))))))))))))) (.cond (.seq (.reg (.op false (.done))) (.nil)) (.nil))) (.seq (.seq (.reg (.op false (.done))) (.blk (.loop [(5, false, [.int .i64])] (.seq (.seq (.reg (.op false (.op false (.op false (.op false (.op false (.done))))))) (.cond (.nil) (.nil))) (.seq (.blk (.seq (.join [(71, false, [.bool])] (.draw [[], [0], [], [0, 1, 2], [0, 1, 2, 3], [0, 1, 2, 3, 4], [], [6], [], [6, 7, 8], [6, 7, 8, 9], [6, 7, 8, 9, 10], [0, 1, 2, 3, 4, 5, 6, 7, 8, 9, 10, 11], [0, 1, 2, 3, 4, 5, 6, 7, 8, 9, 10, 11, 12], [0, 1, 2, 3, 4, 5, 6, 7, 8, 9, 10, 11, 12, 13], [0, 1, 2, 3, 4, 5, 6, 7, 8, 9, 10, 11, 12, 13, 14], [0, 1, 2, 3, 4, 5, 6, 7, 8, 9, 10, 11, 12, 13], [0, 1, 2, 3, 4, 5, 6, 7, 8, 9, 10, 11, 12, 13, 14, 15, 16], [0, 1, 2, 3, 4, 5, 6, 7, 8, 9, 10, 11, 12, 13, 14, 15, 16, 17], [0, 1, 2, 3, 4, 5, 6, 7, 8, 9, 10, 11, 12, 13, 14, 15, 16, 17, 18], [0, 1, 2, 3, 4, 5, 6, 7, 8, 9, 10, 11, 12, 13], [0, 1, 2, 3, 4, 5, 6, 7, 8, 9, 10, 11, 12, 13, 20], [0, 1, 2, 3, 4, 5, 6, 7, 8, 9, 10, 11, 12, 13], [0, 1, 2, 3, 4, 5, 6, 7, 8, 9, 10, 11, 12, 13, 20, 21, 22], [0, 1, 2, 3, 4, 5, 6, 7, 8, 9, 10, 11, 12, 13, 20, 21, 22, 23], [0, 1, 2, 3, 4, 5, 6, 7, 8, 9, 10, 11, 12, 13, 20, 21, 22, 23, 24], [0, 1, 2, 3, 4, 5, 6, 7, 8, 9, 10, 11, 12, 13, 14, 15, 16, 17, 18, 19, 20, 21, 22, 23, 24, 25], [0, 1, 2, 3, 4, 5, 6, 7, 8, 9, 10, 11, 12, 13, 14, 15, 16, 17, 18, 19, 20, 21, 22, 23, 24, 25, 26], [0, 1, 2, 3, 4, 5, 6, 7, 8, 9, 10, 11, 12, 13, 14, 15, 16, 17, 18, 19, 20, 21, 22, 23, 24, 25, 26, 27], [0, 1, 2, 3, 4, 5, 6, 7, 8, 9, 10, 11, 12, 13, 14, 15, 16, 17, 18, 19, 20, 21, 22, 23, 24, 25, 26, 27, 28], [0, 1, 2, 3, 4, 5, 6, 7, 8, 9, 10, 11, 12, 13, 14, 15, 16, 17, 18, 19, 20, 21, 22, 23, 24, 25, 26, 27, 28, 29], [0, 1, 2, 3, 4, 5, 6, 7, 8, 9, 10, 11, 12, 13, 14, 15, 16, 17, 18, 19, 20, 21, 22, 23, 24, 25, 26, 27, 28, 29, 30], [0, 1, 2, 3, 4, 5, 6, 7, 8, 9, 10, 11, 12, 13, 14, 15, 16, 17, 18, 19, 20, 21, 22, 23, 24, 25, 26, 27, 28, 29], [0, 1, 2, 3, 4, 5, 6, 7, 8, 9, 10, 11, 12, 13, 14, 15, 16, 17, 18, 19, 20, 21, 22, 23, 24, 25, 26, 27, 28, 29, 30, 31, 32], [0, 1, 2, 3, 4, 5, 6, 7, 8, 9, 10, 11, 12, 13, 14, 15, 16, 17, 18, 19, 20, 21, 22, 23, 24, 25, 26, 27, 28, 29, 30, 31, 32, 33], [0, 1, 2, 3, 4, 5, 6, 7, 8, 9, 10, 11, 12, 13, 14, 15, 16, 17, 18, 19, 20, 21, 22, 23, 24, 25, 26, 27, 28, 29, 30, 31, 32, 33, 34], [0, 1, 2, 3, 4, 5, 6, 7, 8, 9, 10, 11, 12, 13, 14, 15, 16, 17, 18, 19, 20, 21, 22, 23, 24, 25, 26, 27, 28, 29], [0, 1, 2, 3, 4, 5, 6, 7, 8, 9, 10, 11, 12, 13, 14, 15, 16, 17, 18, 19, 20, 21, 22, 23, 24, 25, 26, 27, 28, 29, 36], [0, 1, 2, 3, 4, 5, 6, 7, 8, 9, 10, 11, 12, 13, 14, 15, 16, 17, 18, 19, 20, 21, 22, 23, 24, 25, 26, 27, 28, 29], [0, 1, 2, 3, 4, 5, 6, 7, 8, 9, 10, 11, 12, 13, 14, 15, 16, 17, 18, 19, 20, 21, 22, 23, 24, 25, 26, 27, 28, 29, 36, 37, 38], [0, 1, 2, 3, 4, 5, 6, 7, 8, 9, 10, 11, 12, 13, 14, 15, 16, 17, 18, 19, 20, 21, 22, 23, 24, 25, 26, 27, 28, 29, 36, 37, 38, 39], [0, 1, 2, 3, 4, 5, 6, 7, 8, 9, 10, 11, 12, 13, 14, 15, 16, 17, 18, 19, 20, 21, 22, 23, 24, 25, 26, 27, 28, 29, 36, 37, 38, 39, 40], [0, 1, 2, 3, 4, 5, 6, 7, 8, 9, 10, 11, 12, 13, 14, 15, 16, 17, 18, 19, 20, 21, 22, 23, 24, 25, 26, 27, 28, 29, 30, 31, 32, 33, 34, 35, 36, 37, 38, 39, 40, 41], [0, 1, 2, 3, 4, 5, 6, 7, 8, 9, 10, 11, 12, 13, 14, 15, 16, 17, 18, 19, 20, 21, 22, 23, 24, 25, 26, 27, 28, 29, 30, 31, 32, 33, 34, 35, 36, 37, 38, 39, 40, 41, 42], [0, 1, 2, 3, 4, 5, 6, 7, 8, 9, 10, 11, 12, 13, 14, 15, 16, 17, 18, 19, 20, 21, 22, 23, 24, 25, 26, 27, 28, 29, 30, 31, 32, 33, 34, 35, 36, 37, 38, 39, 40, 41, 42, 43]] (.rd 0 false (.rd 1 false (.rd 2 false (.rd 3 false (.rd 4 false (.rd 5 false (.rd 6 false (.rd 7 false (.rd 8 false (.rd 9 false (.rd 10 false (.rd 11 false (.rd 12 false (.rd 13 false (.split 40 (.rd 14 false (.rd 15 false (.rd 16 false (.rd 17 false (.rd 18 false (.rd 19 false (.rd 20 false (.rd 21 false (.rd 22 false (.rd 23 false (.rd 24 false (.rd 25 false (.rd 26 false (.rd 27 false (.rd 28 false (.rd 29 false (.rd 30 false (.rd 31 false (.rd 32 false (.rd 33 false (.rd 34 false (.rd 35 false (.rd 36 false (.rd 37 false (.rd 38 false (.rd 39 false (.rd 40 false (.rd 41 false (.rd 42 false (.rd 43 false (.rd 44 false (.done)))))))))))))))))))))))))))))))) (.rd 14 false (.rd 15 false (.rd 16 false (.rd 17 false (.rd 18 false (.rd 19 false (.rd 20 false (.rd 21 false (.rd 22 false (.rd 23 false (.rd 24 false (.rd 25 false (.eff 26 false (.rd 27 false (.rd 28 false (.rd 29 false (.split 56 (.rd 30 false (.rd 31 false (.rd 32 false (.rd 33 false (.rd 34 false (.rd 35 false (.rd 36 false (.rd 37 false (.rd 38 false (.rd 39 false (.rd 40 false (.rd 41 false (.rd 42 false (.rd 43 false (.rd 44 false (.done)))))))))))))))) (.rd 30 false (.rd 31 false (.rd 32 false (.rd 33 false (.rd 34 false (.rd 35 false (.rd 36 false (.rd 37 false (.rd 38 false (.rd 39 false (.rd 40 false (.rd 41 false (.eff 42 false (.rd 43 false (.rd 44 false (.done)))))))))))))))))))))))))))))))))))))))))))))))))) (.cond (.seq (.reg (.op false (.done))) (.nil)) (.nil)))) (.reg (.op false (.op false (.op false (.done)))))))))) (.seq (.reg (.op false (.done))) (.nil))))
def f78.VC (φ : Fx) (a : Int) (aA : Option Addr) (an ac : Nat) (b : Int) (bA : Option Addr) (bn bc : Nat) (H : Hp) (R : Value → Hp → Prop) : Prop :=
  let H_ : Hp := Array.push H (.cells #[.int .i64 a, .slice aA an ac] 24 (0, 0));
  (let H_2 : Hp := Array.push H_ (.cells #[.int .i64 b, .slice bA bn bc] 24 (0, 0));
    (∃ M_ : Bool → Hp → Prop, (∃ (x : Int), cel H_2 (Array.size H) 0 = some (.int .i64 x) ∧ (∃ (x2 : Int), cel H_2 (Array.size H_) 0 = some (.int .i64 x2) ∧ (((!decide (x = x2)) = true → (M_ true H_2)) ∧
            ((!decide (x = x2)) = false → (∃ (A : Option Addr) (n c : Nat), cel H_2 (Array.size H) (0 + 1) = some (.slice A n c) ∧ (∃ (A2 : Option Addr) (n2 c2 : Nat), cel H_2 (Array.size H_) (0 + 1) = some (.slice A2 n2 c2) ∧ (M_ (!decide (((n : Nat) : Int) = ((n2 : Nat) : Int))) H_2))))))) ∧
      (∀ (x3 : Bool) (j_ : Nat → Value) (H_3 : Hp), M_ x3 H_3 → ((x3 = true → (R (.bool false) H_3)) ∧
          (x3 = false → (∃ (I_ : Int → Hp → Prop) (m_ : Int → Hp → Nat), I_ 0 H_3 ∧
              (∀ (i : Int) (j_2 : Nat → Value) (H_4 : Hp), I_ i H_4 → (∃ (A3 : Option Addr) (n3 c3 : Nat), cel H_4 (Array.size H) (0 + 1) = some (.slice A3 n3 c3) ∧ (((decide (i < ((n3 : Nat) : Int))) = true → (∃ M_2 : Bool → Hp → Prop, (∃ (A4 : Option Addr) (n4 c4 : Nat), cel H_4 (Array.size H) (0 + 1) = some (.slice A4 n4 c4) ∧ (∃ (b2 o : Nat), A4 = some ⟨b2, o, none⟩ ∧ (0 ≤ i ∧ i < ((n4 : Nat) : Int)) ∧
                            (∃ (x4 : Int), cel H_4 b2 (o + Int.toNat i * 5) = some (.int .i64 x4) ∧ (∃ (A5 : Option Addr) (n5 c5 : Nat), cel H_4 (Array.size H_) (0 + 1) = some (.slice A5 n5 c5) ∧ (∃ (b3 o2 : Nat), A5 = some ⟨b3, o2, none⟩ ∧ (0 ≤ i ∧ i < ((n5 : Nat) : Int)) ∧
                                  (∃ (x5 : Int), cel H_4 b3 (o2 + Int.toNat i * 5) = some (.int .i64 x5) ∧ (((!decide (x4 = x5)) = true → (M_2 true H_4)) ∧
                                      ((!decide (x4 = x5)) = false → (∃ (A6 : Option Addr) (n6 c6 : Nat), cel H_4 (Array.size H) (0 + 1) = some (.slice A6 n6 c6) ∧ (∃ (b4 o3 : Nat), A6 = some ⟨b4, o3, none⟩ ∧ (0 ≤ i ∧ i < ((n6 : Nat) : Int)) ∧
                                            (∃ (All : Bool), cel H_4 b4 (o3 + Int.toNat i * 5 + 2) = some (.bool All) ∧
                                              ∃ (Hashes : Int), cel H_4 b4 (o3 + Int.toNat i * 5 + 2 + 1) = some (.int .i64 Hashes) ∧
                                              ∃ (DataA : Option Addr) (Datan Datac : Nat), cel H_4 b4 (o3 + Int.toNat i * 5 + 2 + 2) = some (.slice DataA Datan Datac) ∧ (∃ (A7 : Option Addr) (n7 c7 : Nat), cel H_4 (Array.size H_) (0 + 1) = some (.slice A7 n7 c7) ∧ (∃ (b5 o4 : Nat), A7 = some ⟨b5, o4, none⟩ ∧ (0 ≤ i ∧ i < ((n7 : Nat) : Int)) ∧
                                                  (∃ (All2 : Bool), cel H_4 b5 (o4 + Int.toNat i * 5 + 2) = some (.bool All2) ∧
                                                    ∃ (Hashes2 : Int), cel H_4 b5 (o4 + Int.toNat i * 5 + 2 + 1) = some (.int .i64 Hashes2) ∧
                                                    ∃ (DataA2 : Option Addr) (Datan2 Datac2 : Nat), cel H_4 b5 (o4 + Int.toNat i * 5 + 2 + 2) = some (.slice DataA2 Datan2 Datac2) ∧ (HCalls cx.P φ 142 [.agg #[.bool All, .int .i64 Hashes, .slice DataA Datan Datac], .agg #[.bool All2, .int .i64 Hashes2, .slice DataA2 Datan2 Datac2]] H_4 (fun v H_5 => ∃ (x6 : Bool), v = .bool x6 ∧ (((!x6) = true → (M_2 true H_5)) ∧
                                                          ((!x6) = false → (∃ (A8 : Option Addr) (n8 c8 : Nat), cel H_5 (Array.size H) (0 + 1) = some (.slice A8 n8 c8) ∧ (∃ (b6 o5 : Nat), A8 = some ⟨b6, o5, none⟩ ∧ (0 ≤ i ∧ i < ((n8 : Nat) : Int)) ∧
                                                                (∃ (A9 : Option Addr) (n9 c9 : Nat), cel H_5 b6 (o5 + Int.toNat i * 5 + 1) = some (.slice A9 n9 c9) ∧ (∃ (A10 : Option Addr) (n10 c10 : Nat), cel H_5 (Array.size H_) (0 + 1) = some (.slice A10 n10 c10) ∧ (∃ (b7 o6 : Nat), A10 = some ⟨b7, o6, none⟩ ∧ (0 ≤ i ∧ i < ((n10 : Nat) : Int)) ∧
                                                                      (∃ (A11 : Option Addr) (n11 c11 : Nat), cel H_5 b7 (o6 + Int.toNat i * 5 + 1) = some (.slice A11 n11 c11) ∧ (HCalls cx.P φ 143 [.slice A9 n9 c9, .slice A11 n11 c11] H_5 (fun v2 H_6 => ∃ (x7 : Bool), v2 = .bool x7 ∧ (M_2 (!x7) H_6))))))))))))))))))))))))))) ∧
                        (∀ (x8 : Bool) (j_3 : Nat → Value) (H_7 : Hp), M_2 x8 H_7 → ((x8 = true → (R (.bool false) H_7)) ∧
                            (x8 = false → (((-9223372036854775808) ≤ i + 1 ∧ i + 1 ≤ 9223372036854775807) ∧
                                (I_ (i + 1) H_7 ∧ m_ (i + 1) H_7 < m_ i H_4))))))) ∧
                    ((decide (i < ((n3 : Nat) : Int))) = false → (R (.bool true) H_4)))))))))))
theorem f78.vc (φ : Fx) (a : Int) (aA : Option Addr) (an ac : Nat) (b : Int) (bA : Option Addr) (bn bc : Nat) (H : Hp) (R : Value → Hp → Prop) : fnW cx φ Try.f78 f78.an [.agg #[.int .i64 a, .slice aA an ac], .agg #[.int .i64 b, .slice bA bn bc]] H R = f78.VC φ a aA an ac b bA bn bc H R := by kernel_rfl
theorem f78.of {φ : Fx} {a : Int} {aA : Option Addr} {an ac : Nat} {b : Int} {bA : Option Addr} {bn bc : Nat} {H : Hp} {R : Value → Hp → Prop} (h : f78.VC φ a aA an ac b bA bn bc H R) : HCalls cx.P φ 78 [.agg #[.int .i64 a, .slice aA an ac], .agg #[.int .i64 b, .slice bA bn bc]] H R :=
  fnW_calls cx_ok (show cx.P.funcs[78]? = some Try.f78 by kernel_rfl) (by rw [f78.vc]; exact h)

/-! ### 21 winnow/winnowlaw8.still -/
def f21.an : An := .seq (.reg (.op false (.op false (.op false (.done))))) (.seq (.seq (.reg (.op false (.op false (.op false (.op false (.done)))))) (.cond (.seq (.reg (.op false (.done))) (.nil)) (.nil))) (.seq (.reg (.op false (.op false (.op false (.op false (.op false (.op false (.op false (.op false (.done)))))))))) (.seq (.seq (.reg (.op false (.op false (.op false (.op false (.op false (.op false (.op false (.op false (.done)))))))))) (.cond (.seq (.reg (.op false (.done))) (.nil)) (.nil))) (.seq (.seq (.reg (.op false (.done))) (.blk (.loop [(6, false, [.int .i64])] (.seq (.seq (.reg (.op false (.op false (.op false (.op false (.op false (.done))))))) (.cond (.nil) (.nil))) (.seq (.blk (.seq (.reg (.op false (.op false (.op false (.op false (.op false (.op false (.op false (.op false (.op false (.done))))))))))) (.seq (.reg (.op false (.op false (.op false (.op false (.op false (.op false (.op false (.op false (.op false (.op false (.op false (.done))))))))))))) (.seq (.reg (.op false (.op false (.op false (.op false (.op false (.op false (.op false (.op false (.done)))))))))) (.seq (.reg (.op false (.op false (.op false (.op false (.op false (.op false (.op false (.op false (.op false (.op false (.done)))))))))))) (.seq (.join [(91, false, [.bool])] (.reg (.op false (.op false (.op false (.op false (.op true (.op false (.split 76 (.op false (.op false (.op false (.op false (.op false (.op true (.op false (.op false (.op false (.op false (.op false (.op false (.op false (.op false (.op false (.done)))))))))))))))) (.op false (.op false (.op false (.op false (.op false (.op true (.op false (.op false (.split 84 (.op false (.op false (.op false (.op false (.op false (.op false (.op false (.done)))))))) (.op false (.op false (.op false (.op false (.op false (.op false (.op false (.done)))))))))))))))))))))))))) (.cond (.seq (.reg (.op false (.done))) (.nil)) (.nil)))))))) (.reg (.op false (.op false (.op false (.done)))))))))) (.seq (.reg (.op false (.done))) (.nil))))))
def f21.VC (φ : Fx) (t : Int) (tA : Option Addr) (tn tc : Nat) (f : Int) (fA : Option Addr) (fn fc : Nat) (H : Hp) (R : Value → Hp → Prop) : Prop :=
  let H_ : Hp := Array.push H (.cells #[.int .i64 t, .slice tA tn tc] 24 (0, 0));
  (let H_2 : Hp := Array.push H_ (.cells #[.int .i64 f, .slice fA fn fc] 24 (0, 0));
    (∃ (Parts : Int), cel H_2 (Array.size H) 0 = some (.int .i64 Parts) ∧
      ∃ (InfosA : Option Addr) (Infosn Infosc : Nat), cel H_2 (Array.size H) (0 + 1) = some (.slice InfosA Infosn Infosc) ∧ (∃ (Parts2 : Int), cel H_2 (Array.size H_) 0 = some (.int .i64 Parts2) ∧
        ∃ (InfosA2 : Option Addr) (Infosn2 Infosc2 : Nat), cel H_2 (Array.size H_) (0 + 1) = some (.slice InfosA2 Infosn2 Infosc2) ∧ (HCalls cx.P φ 78 [.agg #[.int .i64 Parts, .slice InfosA Infosn Infosc], .agg #[.int .i64 Parts2, .slice InfosA2 Infosn2 Infosc2]] H_2 (fun v H_3 => ∃ (x : Bool), v = .bool x ∧ (((!x) = true → (R (.bool false) H_3)) ∧
              ((!x) = false → (∃ (A : Option Addr) (n c : Nat), cel H_3 (Array.size H) (0 + 1) = some (.slice A n c) ∧ (∃ (A2 : Option Addr) (n2 c2 : Nat), cel H_3 (Array.size H_) (0 + 1) = some (.slice A2 n2 c2) ∧ (((-9223372036854775808) ≤ ((n2 : Nat) : Int) + 1 ∧ ((n2 : Nat) : Int) + 1 ≤ 9223372036854775807) ∧
                      ((0 ≤ (((n2 : Nat) : Int) + 1) ∧ (((n2 : Nat) : Int) + 1) ≤ ((c : Nat) : Int)) ∧
                        (∃ (A3 : Option Addr) (n3 c3 : Nat), cel H_3 (Array.size H_) (0 + 1) = some (.slice A3 n3 c3) ∧ (∃ (b o : Nat), A = some ⟨b, o, none⟩ ∧ (0 ≤ ((n3 : Nat) : Int) ∧ ((n3 : Nat) : Int) < ((Int.toNat (((n2 : Nat) : Int) + 1) : Nat) : Int)) ∧
                            (∃ (x2 : Int), cel H_3 b (o + Int.toNat ((n3 : Nat) : Int) * 5) = some (.int .i64 x2) ∧ (((!decide (x2 = (-9))) = true → (R (.bool false) H_3)) ∧
                                ((!decide (x2 = (-9))) = false → (∃ (I_ : Int → Hp → Prop) (m_ : Int → Hp → Nat), I_ 0 H_3 ∧
                                    (∀ (i : Int) (j_ : Nat → Value) (H_4 : Hp), I_ i H_4 → (∃ (A4 : Option Addr) (n4 c4 : Nat), cel H_4 (Array.size H_) (0 + 1) = some (.slice A4 n4 c4) ∧ (((decide (i < ((n4 : Nat) : Int))) = true → (∃ (A5 : Option Addr) (n5 c5 : Nat), cel H_4 (Array.size H_) (0 + 1) = some (.slice A5 n5 c5) ∧ (∃ (b2 o2 : Nat), A5 = some ⟨b2, o2, none⟩ ∧ (0 ≤ i ∧ i < ((n5 : Nat) : Int)) ∧
                                                (∃ (A6 : Option Addr) (n6 c6 : Nat), cel H_4 b2 (o2 + Int.toNat i * 5 + 2 + 2) = some (.slice A6 n6 c6) ∧ (∃ (A7 : Option Addr) (n7 c7 : Nat), cel H_4 (Array.size H) (0 + 1) = some (.slice A7 n7 c7) ∧ (∃ (b3 o3 : Nat), A7 = some ⟨b3, o3, none⟩ ∧ (0 ≤ i ∧ i < ((n7 : Nat) : Int)) ∧
                                                      (∃ (A8 : Option Addr) (n8 c8 : Nat), cel H_4 b3 (o3 + Int.toNat i * 5 + 2 + 2) = some (.slice A8 n8 c8) ∧ (((-9223372036854775808) ≤ ((n6 : Nat) : Int) + 2 ∧ ((n6 : Nat) : Int) + 2 ≤ 9223372036854775807) ∧
                                                          ((0 ≤ (((n6 : Nat) : Int) + 2) ∧ (((n6 : Nat) : Int) + 2) ≤ ((c8 : Nat) : Int)) ∧
                                                            (∃ (A9 : Option Addr) (n9 c9 : Nat), cel H_4 (Array.size H_) (0 + 1) = some (.slice A9 n9 c9) ∧ (∃ (b4 o4 : Nat), A9 = some ⟨b4, o4, none⟩ ∧ (0 ≤ i ∧ i < ((n9 : Nat) : Int)) ∧
                                                                (∃ (A10 : Option Addr) (n10 c10 : Nat), cel H_4 b4 (o4 + Int.toNat i * 5 + 1) = some (.slice A10 n10 c10) ∧ (∃ (A11 : Option Addr) (n11 c11 : Nat), cel H_4 (Array.size H) (0 + 1) = some (.slice A11 n11 c11) ∧ (∃ (b5 o5 : Nat), A11 = some ⟨b5, o5, none⟩ ∧ (0 ≤ i ∧ i < ((n11 : Nat) : Int)) ∧
                                                                      (∃ (A12 : Option Addr) (n12 c12 : Nat), cel H_4 b5 (o5 + Int.toNat i * 5 + 1) = some (.slice A12 n12 c12) ∧ (((-9223372036854775808) ≤ ((n10 : Nat) : Int) + 1 ∧ ((n10 : Nat) : Int) + 1 ≤ 9223372036854775807) ∧
                                                                          ((0 ≤ (((n10 : Nat) : Int) + 1) ∧ (((n10 : Nat) : Int) + 1) ≤ ((c12 : Nat) : Int)) ∧
                                                                            (∃ M_ : Bool → Hp → Prop, (∃ (b6 o6 : Nat), A8 = some ⟨b6, o6, none⟩ ∧ (0 ≤ ((n6 : Nat) : Int) ∧ ((n6 : Nat) : Int) < ((Int.toNat (((n6 : Nat) : Int) + 2) : Nat) : Int)) ∧
                                                                                (∃ (x3 : Int), cel H_4 b6 (o6 + Int.toNat ((n6 : Nat) : Int) * 1) = some (.int .u8 x3) ∧ (((!decide (x3 = 209)) = true → (M_ true H_4)) ∧
                                                                                ((!decide (x3 = 209)) = false → (((-9223372036854775808) ≤ ((n6 : Nat) : Int) + 1 ∧ ((n6 : Nat) : Int) + 1 ≤ 9223372036854775807) ∧
                                                                                (∃ (b7 o7 : Nat), A8 = some ⟨b7, o7, none⟩ ∧ (0 ≤ (((n6 : Nat) : Int) + 1) ∧ (((n6 : Nat) : Int) + 1) < ((Int.toNat (((n6 : Nat) : Int) + 2) : Nat) : Int)) ∧
                                                                                (∃ (x4 : Int), cel H_4 b7 (o7 + Int.toNat (((n6 : Nat) : Int) + 1) * 1) = some (.int .u8 x4) ∧ (((!decide (x4 = 210)) = true → (M_ true H_4)) ∧
                                                                                ((!decide (x4 = 210)) = false → (∃ (b8 o8 : Nat), A12 = some ⟨b8, o8, none⟩ ∧ (0 ≤ ((n10 : Nat) : Int) ∧ ((n10 : Nat) : Int) < ((Int.toNat (((n10 : Nat) : Int) + 1) : Nat) : Int)) ∧
                                                                                (∃ (x5 : Int), cel H_4 b8 (o8 + Int.toNat ((n10 : Nat) : Int) * 4) = some (.int .i64 x5) ∧ (M_ (!decide (x5 = (-9))) H_4)))))))))))) ∧
                                                                              (∀ (x6 : Bool) (j_2 : Nat → Value) (H_5 : Hp), M_ x6 H_5 → ((x6 = true → (R (.bool false) H_5)) ∧
                                                                                (x6 = false → (((-9223372036854775808) ≤ i + 1 ∧ i + 1 ≤ 9223372036854775807) ∧
                                                                                (I_ (i + 1) H_5 ∧ m_ (i + 1) H_5 < m_ i H_4))))))))))))))))))))))) ∧
                                          ((decide (i < ((n4 : Nat) : Int))) = false → (R (.bool true) H_4))))))))))))))))))))))
theorem f21.vc (φ : Fx) (t : Int) (tA : Option Addr) (tn tc : Nat) (f : Int) (fA : Option Addr) (fn fc : Nat) (H : Hp) (R : Value → Hp → Prop) : fnW cx φ Try.f21 f21.an [.agg #[.int .i64 t, .slice tA tn tc], .agg #[.int .i64 f, .slice fA fn fc]] H R = f21.VC φ t tA tn tc f fA fn fc H R := by kernel_rfl
theorem f21.of {φ : Fx} {t : Int} {tA : Option Addr} {tn tc : Nat} {f : Int} {fA : Option Addr} {fn fc : Nat} {H : Hp} {R : Value → Hp → Prop} (h : f21.VC φ t tA tn tc f fA fn fc H R) : HCalls cx.P φ 21 [.agg #[.int .i64 t, .slice tA tn tc], .agg #[.int .i64 f, .slice fA fn fc]] H R :=
  fnW_calls cx_ok (show cx.P.funcs[21]? = some Try.f21 by kernel_rfl) (by rw [f21.vc]; exact h)

/-! ### 22 winnow/winnowlaw8.foundAnew -/
def f22.an : An := .seq (.reg (.op false (.op false (.done)))) (.seq (.seq (.reg (.op false (.done))) (.blk (.loop [(9, false, [.int .i64])] (.seq (.seq (.reg (.op false (.op false (.op false (.op false (.op false (.done))))))) (.cond (.nil) (.nil))) (.seq (.blk (.seq (.reg (.op false (.done))) (.blk (.loop [(10, false, [.int .i64])] (.seq (.seq (.reg (.op false (.op false (.op false (.op false (.op false (.op false (.op false (.op false (.op false (.done))))))))))) (.cond (.nil) (.nil))) (.seq (.blk (.reg (.op false (.op false (.op false (.op false (.op false (.op false (.op false (.op false (.op false (.op false (.op false (.done)))))))))))))) (.reg (.op false (.op false (.op false (.done))))))))))) (.reg (.op false (.op false (.op false (.done)))))))))) (.seq (.reg (.op false (.op false (.op false (.op false (.done)))))) (.seq (.reg (.op false (.op false (.op false (.op false (.op false (.op false (.op false (.op false (.op false (.done))))))))))) (.seq (.reg (.op false (.op false (.op false (.op false (.op false (.op false (.op false (.op false (.op false (.done))))))))))) (.seq (.join [(8, false, [.bool])] (.reg (.op false (.op false (.op false (.op false (.split 63 (.op false (.op false (.op false (.op false (.op false (.split 68 (.op false (.op false (.op false (.op false (.op false (.done)))))) (.op false (.op false (.op false (.op false (.op false (.done)))))))))))) (.op false (.op false (.op false (.op false (.op false (.op false (.op false (.op false (.op false (.op false (.done)))))))))))))))))) (.nil))))))
def f22.VC (φ : Fx) (t : Int) (tA : Option Addr) (tn tc : Nat) (part : Int) (key : ByteArray) (cut : ByteArray) (H : Hp) (R : Value → Hp → Prop) : Prop :=
  let H_ : Hp := Array.push H (.cells #[.int .i64 t, .slice tA tn tc] 24 (0, 0));
  (∃ (I_ : Int → Hp → Prop) (m_ : Int → Hp → Nat), I_ 0 H_ ∧
    (∀ (i : Int) (j_ : Nat → Value) (H_2 : Hp), I_ i H_2 → (∃ (A : Option Addr) (n c : Nat), cel H_2 (Array.size H) (0 + 1) = some (.slice A n c) ∧ (((decide (i < ((n : Nat) : Int))) = true → (∃ (I_2 : Int → Hp → Prop) (m_2 : Int → Hp → Nat), I_2 0 H_2 ∧
              (∀ (k : Int) (j_2 : Nat → Value) (H_3 : Hp), I_2 k H_3 → (∃ (A2 : Option Addr) (n2 c2 : Nat), cel H_3 (Array.size H) (0 + 1) = some (.slice A2 n2 c2) ∧ (∃ (b o : Nat), A2 = some ⟨b, o, none⟩ ∧ (0 ≤ i ∧ i < ((n2 : Nat) : Int)) ∧
                    (∃ (A3 : Option Addr) (n3 c3 : Nat), cel H_3 b (o + Int.toNat i * 5 + 1) = some (.slice A3 n3 c3) ∧ (((decide (k < ((n3 : Nat) : Int))) = true → (∃ (A4 : Option Addr) (n4 c4 : Nat), cel H_3 (Array.size H) (0 + 1) = some (.slice A4 n4 c4) ∧ (∃ (b2 o2 : Nat), A4 = some ⟨b2, o2, none⟩ ∧ (0 ≤ i ∧ i < ((n4 : Nat) : Int)) ∧
                              (∃ (A5 : Option Addr) (n5 c5 : Nat), cel H_3 b2 (o2 + Int.toNat i * 5 + 1) = some (.slice A5 n5 c5) ∧ (∃ (b3 o3 : Nat), A5 = some ⟨b3, o3, none⟩ ∧ (0 ≤ k ∧ k < ((n5 : Nat) : Int)) ∧
                                  (canPut H_3 b3 (o3 + Int.toNat k * 4 + 3) [.string cut] ∧
                                    (let H_4 : Hp := hput H_3 b3 (o3 + Int.toNat k * 4 + 3) [.string cut];
                                      (((-9223372036854775808) ≤ k + 1 ∧ k + 1 ≤ 9223372036854775807) ∧
                                        (I_2 (k + 1) H_4 ∧ m_2 (k + 1) H_4 < m_2 k H_3))))))))) ∧
                        ((decide (k < ((n3 : Nat) : Int))) = false → (((-9223372036854775808) ≤ i + 1 ∧ i + 1 ≤ 9223372036854775807) ∧
                            (I_ (i + 1) H_3 ∧ m_ (i + 1) H_3 < m_ i H_2)))))))))) ∧
          ((decide (i < ((n : Nat) : Int))) = false → (∃ (Parts : Int), cel H_2 (Array.size H) 0 = some (.int .i64 Parts) ∧
              ∃ (InfosA : Option Addr) (Infosn Infosc : Nat), cel H_2 (Array.size H) (0 + 1) = some (.slice InfosA Infosn Infosc) ∧ (HCalls cx.P φ 18 [.agg #[.int .i64 Parts, .slice InfosA Infosn Infosc]] H_2 (fun v H_5 => ∃ (x : Int) (A6 : Option Addr) (n6 c6 : Nat), v = .agg #[.int .i64 x, .slice A6 n6 c6] ∧ (let H_6 : Hp := Array.push H_5 (.cells #[.int .i64 0, .slice none 0 0] 24 (0, 0));
                    (canPut H_6 (Array.size H_5) 0 [.int .i64 x, .slice A6 n6 c6] ∧
                      (let H_7 : Hp := hput H_6 (Array.size H_5) 0 [.int .i64 x, .slice A6 n6 c6];
                        (∃ (Parts2 : Int), cel H_7 (Array.size H) 0 = some (.int .i64 Parts2) ∧
                          ∃ (InfosA2 : Option Addr) (Infosn2 Infosc2 : Nat), cel H_7 (Array.size H) (0 + 1) = some (.slice InfosA2 Infosn2 Infosc2) ∧ (HCalls cx.P φ 19 [.agg #[.int .i64 Parts2, .slice InfosA2 Infosn2 Infosc2], .int .i64 part, .string key] H_7 (fun v2 H_8 => ∃ (x2 : Int) (x3 : Int), v2 = .tuple #[.int .i64 x2, .int .i64 x3] ∧ (∃ (Parts3 : Int), cel H_8 (Array.size H_5) 0 = some (.int .i64 Parts3) ∧
                                ∃ (InfosA3 : Option Addr) (Infosn3 Infosc3 : Nat), cel H_8 (Array.size H_5) (0 + 1) = some (.slice InfosA3 Infosn3 Infosc3) ∧ (HCalls cx.P φ 20 [.agg #[.int .i64 Parts3, .slice InfosA3 Infosn3 Infosc3], .int .i64 part, .string key] H_8 (fun v3 H_9 => ∃ (x4 : Int) (x5 : Int), v3 = .tuple #[.int .i64 x4, .int .i64 x5] ∧ (∃ M_ : Bool → Hp → Prop, (((decide (x2 = x4)) = true → (((decide (x3 = x5)) = true → (∃ (Parts4 : Int), cel H_9 (Array.size H) 0 = some (.int .i64 Parts4) ∧
                                                ∃ (InfosA4 : Option Addr) (Infosn4 Infosc4 : Nat), cel H_9 (Array.size H) (0 + 1) = some (.slice InfosA4 Infosn4 Infosc4) ∧ (∃ (Parts5 : Int), cel H_9 (Array.size H_5) 0 = some (.int .i64 Parts5) ∧
                                                  ∃ (InfosA5 : Option Addr) (Infosn5 Infosc5 : Nat), cel H_9 (Array.size H_5) (0 + 1) = some (.slice InfosA5 Infosn5 Infosc5) ∧ (HCalls cx.P φ 78 [.agg #[.int .i64 Parts4, .slice InfosA4 Infosn4 Infosc4], .agg #[.int .i64 Parts5, .slice InfosA5 Infosn5 Infosc5]] H_9 (fun v4 H_10 => ∃ (x6 : Bool), v4 = .bool x6 ∧ (M_ x6 H_10)))))) ∧
                                            ((decide (x3 = x5)) = false → (M_ false H_9)))) ∧
                                        ((decide (x2 = x4)) = false → (M_ false H_9))) ∧
                                      (∀ (x7 : Bool) (j_3 : Nat → Value) (H_11 : Hp), M_ x7 H_11 → (R (.bool x7) H_11))))))))))))))))))))
theorem f22.vc (φ : Fx) (t : Int) (tA : Option Addr) (tn tc : Nat) (part : Int) (key : ByteArray) (cut : ByteArray) (H : Hp) (R : Value → Hp → Prop) : fnW cx φ Try.f22 f22.an [.agg #[.int .i64 t, .slice tA tn tc], .int .i64 part, .string key, .string cut] H R = f22.VC φ t tA tn tc part key cut H R := by kernel_rfl
theorem f22.of {φ : Fx} {t : Int} {tA : Option Addr} {tn tc : Nat} {part : Int} {key : ByteArray} {cut : ByteArray} {H : Hp} {R : Value → Hp → Prop} (h : f22.VC φ t tA tn tc part key cut H R) : HCalls cx.P φ 22 [.agg #[.int .i64 t, .slice tA tn tc], .int .i64 part, .string key, .string cut] H R :=
  fnW_calls cx_ok (show cx.P.funcs[22]? = some Try.f22 by kernel_rfl) (by rw [f22.vc]; exact h)

/-! ### 23 winnow/winnowlaw8.high -/
def f23.an : An := .seq (.reg (.op false (.done))) (.seq (.reg (.op false (.done))) (.seq (.seq (.reg (.op false (.done))) (.blk (.loop [(1, false, [.slc]), (2, false, [.int .i64])] (.seq (.seq (.reg (.op false (.op false (.done)))) (.cond (.nil) (.nil))) (.seq (.blk (.reg (.op false (.op false (.op false (.op false (.done))))))) (.reg (.op false (.op false (.op false (.done)))))))))) (.seq (.reg (.op false (.op false (.op false (.done))))) (.nil))))
def f23.VC (φ : Fx)  (H : Hp) (R : Value → Hp → Prop) : Prop :=
  ∃ (I_ : Option Addr → Nat → Nat → Int → Hp → Prop) (m_ : Option Addr → Nat → Nat → Int → Hp → Nat), I_ none 0 0 0 H ∧
  (∀ (bA : Option Addr) (bn bc : Nat) (i : Int) (j_ : Nat → Value) (H_ : Hp), I_ bA bn bc i H_ → (((decide (i < 64)) = true → (let H_2 : Hp := Array.push H_ (.cells #[.int .u8 255] 5 (0, 0));
          (appW cx 59 59 (Value.slice bA bn bc) (Value.slice (some ⟨Array.size H_, 0, none⟩) 1 1) H_2 (fun v H_3 => ∃ (A : Option Addr) (n c : Nat), v = .slice A n c ∧ (((-9223372036854775808) ≤ i + 1 ∧ i + 1 ≤ 9223372036854775807) ∧
                (I_ A n c (i + 1) H_3 ∧ m_ A n c (i + 1) H_3 < m_ bA bn bc i H_)))))) ∧
      ((decide (i < 64)) = false → (∃ ys : List Int, rdC H_ bA bn (List.map (Value.int .u8) ys) ∧ (R (.string (bytesOf ys)) H_)))))
theorem f23.vc (φ : Fx)  (H : Hp) (R : Value → Hp → Prop) : fnW cx φ Try.f23 f23.an [] H R = f23.VC φ  H R := by kernel_rfl
theorem f23.of {φ : Fx} {H : Hp} {R : Value → Hp → Prop} (h : f23.VC φ  H R) : HCalls cx.P φ 23 [] H R :=
  fnW_calls cx_ok (show cx.P.funcs[23]? = some Try.f23 by kernel_rfl) (by rw [f23.vc]; exact h)

/-! ### 3 winnow/winnowlaw8.FootFind -/
def f3.an : An := .seq (.reg (.op false (.op false (.done)))) (.seq (.seq (.reg (.op false (.op false (.op false (.done))))) (.cond (.seq (.reg (.op false (.op false (.op false (.op false (.done)))))) (.nil)) (.nil))) (.seq (.reg (.op false (.op false (.op false (.op false (.done)))))) (.seq (.reg (.op false (.op false (.op false (.op false (.op false (.op false (.op false (.op false (.op false (.done))))))))))) (.seq (.reg (.op false (.op false (.op false (.op false (.op false (.op false (.op false (.op false (.op false (.done))))))))))) (.seq (.seq (.join [(47, false, [.bool])] (.reg (.op false (.op false (.op false (.op false (.split 37 (.op false (.op false (.op false (.op false (.op false (.op false (.op false (.op false (.op false (.op false (.done))))))))))) (.op false (.op false (.op false (.op false (.op false (.split 42 (.op false (.op false (.op false (.op false (.op false (.done)))))) (.op false (.op false (.op false (.op false (.op false (.done))))))))))))))))))) (.cond (.seq (.reg (.op false (.done))) (.nil)) (.nil))) (.seq (.seq (.reg (.op false (.op false (.op false (.op false (.done)))))) (.cond (.seq (.reg (.op false (.done))) (.nil)) (.nil))) (.seq (.join [(6, false, [.bool])] (.draw [[], [], [], [0, 1, 2], [0, 1, 2, 3], [0, 1, 2, 3, 4], [0, 1, 2, 3, 4], [0, 1, 2, 3, 4], [0, 1, 2, 3, 4], [0, 1, 2, 3, 4, 5, 6, 7, 8], [0, 1, 2, 3, 4, 5, 6, 7, 8, 9], [0, 1, 2, 3, 4, 5, 6, 7, 8, 9, 10]] (.rd 0 false (.rd 1 false (.rd 2 false (.eff 3 false (.rd 4 false (.split 56 (.rd 5 false (.rd 6 false (.rd 7 false (.eff 8 false (.eff 9 false (.rd 10 false (.rd 11 false (.done)))))))) (.rd 5 false (.rd 6 false (.rd 7 false (.rd 8 false (.rd 9 false (.rd 10 false (.rd 11 false (.done)))))))))))))))) (.nil))))))))
def f3.VC (φ : Fx) (f : Int) (fA : Option Addr) (fn fc : Nat) (part : Int) (key : ByteArray) (H : Hp) (R : Value → Hp → Prop) : Prop :=
  let H_ : Hp := Array.push H (.cells #[.int .i64 f, .slice fA fn fc] 24 (0, 0));
  (∃ (Parts : Int), cel H_ (Array.size H) 0 = some (.int .i64 Parts) ∧
    ∃ (InfosA : Option Addr) (Infosn Infosc : Nat), cel H_ (Array.size H) (0 + 1) = some (.slice InfosA Infosn Infosc) ∧ (HCalls cx.P φ 16 [.agg #[.int .i64 Parts, .slice InfosA Infosn Infosc]] H_ (fun v H_2 => ∃ (x : Int), v = .int .i64 x ∧ (((!decide (x = 0)) = true → (∃ (Parts2 : Int), cel H_2 (Array.size H) 0 = some (.int .i64 Parts2) ∧
              ∃ (InfosA2 : Option Addr) (Infosn2 Infosc2 : Nat), cel H_2 (Array.size H) (0 + 1) = some (.slice InfosA2 Infosn2 Infosc2) ∧ (HCalls cx.P φ 17 [.agg #[.int .i64 Parts2, .slice InfosA2 Infosn2 Infosc2]] H_2 (fun v2 H_3 => ∃ (x2 : Int), v2 = .int .i64 x2 ∧ (R (.bool (decide (x2 = 80))) H_3))))) ∧
          ((!decide (x = 0)) = false → (∃ (Parts3 : Int), cel H_2 (Array.size H) 0 = some (.int .i64 Parts3) ∧
              ∃ (InfosA3 : Option Addr) (Infosn3 Infosc3 : Nat), cel H_2 (Array.size H) (0 + 1) = some (.slice InfosA3 Infosn3 Infosc3) ∧ (HCalls cx.P φ 18 [.agg #[.int .i64 Parts3, .slice InfosA3 Infosn3 Infosc3]] H_2 (fun v3 H_4 => ∃ (x3 : Int) (A : Option Addr) (n c : Nat), v3 = .agg #[.int .i64 x3, .slice A n c] ∧ (let H_5 : Hp := Array.push H_4 (.cells #[.int .i64 0, .slice none 0 0] 24 (0, 0));
                    (canPut H_5 (Array.size H_4) 0 [.int .i64 x3, .slice A n c] ∧
                      (let H_6 : Hp := hput H_5 (Array.size H_4) 0 [.int .i64 x3, .slice A n c];
                        (∃ (Parts4 : Int), cel H_6 (Array.size H_4) 0 = some (.int .i64 Parts4) ∧
                          ∃ (InfosA4 : Option Addr) (Infosn4 Infosc4 : Nat), cel H_6 (Array.size H_4) (0 + 1) = some (.slice InfosA4 Infosn4 Infosc4) ∧ (HCalls cx.P φ 19 [.agg #[.int .i64 Parts4, .slice InfosA4 Infosn4 Infosc4], .int .i64 part, .string key] H_6 (fun v4 H_7 => ∃ (x4 : Int) (x5 : Int), v4 = .tuple #[.int .i64 x4, .int .i64 x5] ∧ (∃ (Parts5 : Int), cel H_7 (Array.size H) 0 = some (.int .i64 Parts5) ∧
                                ∃ (InfosA5 : Option Addr) (Infosn5 Infosc5 : Nat), cel H_7 (Array.size H) (0 + 1) = some (.slice InfosA5 Infosn5 Infosc5) ∧ (HCalls cx.P φ 20 [.agg #[.int .i64 Parts5, .slice InfosA5 Infosn5 Infosc5], .int .i64 part, .string key] H_7 (fun v5 H_8 => ∃ (x6 : Int) (x7 : Int), v5 = .tuple #[.int .i64 x6, .int .i64 x7] ∧ (∃ M_ : Bool → Hp → Prop, (((!decide (x4 = x6)) = true → (M_ true H_8)) ∧
                                        ((!decide (x4 = x6)) = false → (((!decide (x5 = x7)) = true → (M_ true H_8)) ∧
                                            ((!decide (x5 = x7)) = false → (∃ (Parts6 : Int), cel H_8 (Array.size H_4) 0 = some (.int .i64 Parts6) ∧
                                                ∃ (InfosA6 : Option Addr) (Infosn6 Infosc6 : Nat), cel H_8 (Array.size H_4) (0 + 1) = some (.slice InfosA6 Infosn6 Infosc6) ∧ (∃ (Parts7 : Int), cel H_8 (Array.size H) 0 = some (.int .i64 Parts7) ∧
                                                  ∃ (InfosA7 : Option Addr) (Infosn7 Infosc7 : Nat), cel H_8 (Array.size H) (0 + 1) = some (.slice InfosA7 Infosn7 Infosc7) ∧ (HCalls cx.P φ 21 [.agg #[.int .i64 Parts6, .slice InfosA6 Infosn6 Infosc6], .agg #[.int .i64 Parts7, .slice InfosA7 Infosn7 Infosc7]] H_8 (fun v6 H_9 => ∃ (x8 : Bool), v6 = .bool x8 ∧ (M_ (!x8) H_9))))))))) ∧
                                      (∀ (x9 : Bool) (j_ : Nat → Value) (H_10 : Hp), M_ x9 H_10 → ((x9 = true → (R (.bool false) H_10)) ∧
                                          (x9 = false → (∃ (A2 : Option Addr) (n2 c2 : Nat), cel H_10 (Array.size H_4) (0 + 1) = some (.slice A2 n2 c2) ∧ (((decide (((n2 : Nat) : Int) = 0)) = true → (R (.bool true) H_10)) ∧
                                                ((decide (((n2 : Nat) : Int) = 0)) = false → (∃ M_2 : Bool → Hp → Prop, (∃ (Parts8 : Int), cel H_10 (Array.size H_4) 0 = some (.int .i64 Parts8) ∧
                                                      ∃ (InfosA8 : Option Addr) (Infosn8 Infosc8 : Nat), cel H_10 (Array.size H_4) (0 + 1) = some (.slice InfosA8 Infosn8 Infosc8) ∧ (HCalls cx.P φ 22 [.agg #[.int .i64 Parts8, .slice InfosA8 Infosn8 Infosc8], .int .i64 part, .string key, .string ⟨#[]⟩] H_10 (fun v7 H_11 => ∃ (x10 : Bool), v7 = .bool x10 ∧ ((x10 = true → (∃ (Parts9 : Int), cel H_11 (Array.size H_4) 0 = some (.int .i64 Parts9) ∧
                                                                ∃ (InfosA9 : Option Addr) (Infosn9 Infosc9 : Nat), cel H_11 (Array.size H_4) (0 + 1) = some (.slice InfosA9 Infosn9 Infosc9) ∧ (HCalls cx.P φ 23 [] H_11 (fun v8 H_12 => ∃ (x11 : ByteArray), v8 = .string x11 ∧ (held H_12 (Array.size H_4) 0 [.int .i64 Parts9, .slice InfosA9 Infosn9 Infosc9] ∧ (HCalls cx.P φ 22 [.agg #[.int .i64 Parts9, .slice InfosA9 Infosn9 Infosc9], .int .i64 part, .string key, .string x11] H_12 (fun v9 H_13 => ∃ (x12 : Bool), v9 = .bool x12 ∧ (M_2 x12 H_13)))))))) ∧
                                                            (x10 = false → (M_2 false H_11)))))) ∧
                                                    (∀ (x13 : Bool) (j_2 : Nat → Value) (H_14 : Hp), M_2 x13 H_14 → (R (.bool x13) H_14)))))))))))))))))))))))))))
theorem f3.vc (φ : Fx) (f : Int) (fA : Option Addr) (fn fc : Nat) (part : Int) (key : ByteArray) (H : Hp) (R : Value → Hp → Prop) : fnW cx φ Try.f3 f3.an [.agg #[.int .i64 f, .slice fA fn fc], .int .i64 part, .string key] H R = f3.VC φ f fA fn fc part key H R := by kernel_rfl
theorem f3.of {φ : Fx} {f : Int} {fA : Option Addr} {fn fc : Nat} {part : Int} {key : ByteArray} {H : Hp} {R : Value → Hp → Prop} (h : f3.VC φ f fA fn fc part key H R) : HCalls cx.P φ 3 [.agg #[.int .i64 f, .slice fA fn fc], .int .i64 part, .string key] H R :=
  fnW_calls cx_ok (show cx.P.funcs[3]? = some Try.f3 by kernel_rfl) (by rw [f3.vc]; exact h)
end Go.Proofs.Ytkkjjjgcfnhabaa.Eng
