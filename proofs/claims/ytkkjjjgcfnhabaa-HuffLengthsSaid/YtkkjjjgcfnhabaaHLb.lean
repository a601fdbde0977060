/- Part HLb of the proof of the claim in this folder: a way to walk code, and the contracts of the functions that the law reaches. Conditions: none. -/
import Derived.Test.YtkkjjjgcfnhabaaHLa
import Derived.Test.YtkkjjjgcfnhabaaEngB
import Derived.Test.YtkkjjjgcfnhabaaHLv3
set_option linter.unusedVariables false
set_option linter.unusedSimpArgs false
set_option maxRecDepth 100000
namespace Go.Proofs.Ytkkjjjgcfnhabaa.Eng
open Go

/-! ### Cells of a heap -/
theorem cel_lt {H : Hp} {b o : Nat} {v : Value} (h : cel H b o = some v) : b < H.size := by
  rcases Nat.lt_or_ge b H.size with hb | hb
  · exact hb
  · simp [cel, Array.getElem?_eq_none hb] at h
theorem cel_new (H : Hp) (cs : Array Value) (t : TypeId) (fr : Nat × Nat) (k : Nat) : cel (H.push (.cells cs t fr)) H.size k = cs[k]? := by
  simp [cel]
theorem cel_push {H : Hp} {o : Obj} {b k : Nat} {v : Value} (h : cel H b k = some v) : cel (H.push o) b k = some v := (Keeps.push H o).cel h
theorem hput_new (H : Hp) (cs : Array Value) (t : TypeId) (fr : Nat × Nat) (vs : List Value) (h : vs.length = cs.size) :
    hput (H.push (.cells cs t fr)) H.size 0 vs = H.push (.cells vs.toArray t fr) := by
  have : spl cs 0 vs = vs.toArray := by
    simp [spl, h]
  apply Array.ext_getElem?
  intro i
  simp only [hput, Array.getElem?_modify]
  by_cases hi : H.size = i
  · subst hi; simp [objPut, this]
  · rw [if_neg hi, Array.getElem?_push, Array.getElem?_push]
    simp only [show ¬ i = H.size from fun e => hi e.symm, if_false]
theorem canPut_new (H : Hp) (cs : Array Value) (t : TypeId) (o : Nat) (vs : List Value) (h : o + vs.length ≤ cs.size) (hv : ∀ v ∈ vs, v.oneCell' = true) :
    canPut (H.push (.cells cs t (0, 0))) H.size o vs :=
  ⟨cs, t, 0, 0, by simp, h, by omega, hv⟩
/-- What is at a place of a heap that may be written: an object with nothing frozen. -/
def objAt (H : Hp) (b : Nat) (cs : Array Value) (t : TypeId) : Prop := H[b]? = some (.cells cs t (0, 0))
theorem objAt_new (H : Hp) (cs : Array Value) (t : TypeId) : objAt (H.push (.cells cs t (0, 0))) H.size cs t := by simp [objAt]
theorem objAt_lt {H : Hp} {b : Nat} {cs : Array Value} {t : TypeId} (h : objAt H b cs t) : b < H.size := by
  rcases Nat.lt_or_ge b H.size with hb | hb
  · exact hb
  · simp [objAt, Array.getElem?_eq_none hb] at h
theorem objAt_cel {H : Hp} {b : Nat} {cs : Array Value} {t : TypeId} (h : objAt H b cs t) (k : Nat) : cel H b k = cs[k]? := by
  unfold objAt at h; simp [cel, h]
theorem Keeps.obj {H H' : Hp} (k : Keeps H H') {b : Nat} {cs : Array Value} {t : TypeId} (h : objAt H b cs t) : objAt H' b cs t := by
  unfold objAt at h ⊢; rw [k.old b (objAt_lt h)]; exact h
theorem objAt_canPut {H : Hp} {b : Nat} {cs : Array Value} {t : TypeId} (h : objAt H b cs t) {o : Nat} {vs : List Value} (hl : o + vs.length ≤ cs.size) (hv : ∀ v ∈ vs, v.oneCell' = true) : canPut H b o vs :=
  ⟨cs, t, 0, 0, h, hl, by omega, hv⟩
theorem objAt_hput {H : Hp} {b : Nat} {cs : Array Value} {t : TypeId} (h : objAt H b cs t) (o : Nat) (vs : List Value) : objAt (hput H b o vs) b (spl cs o vs) t := by
  have := objAt_lt h
  unfold objAt at h ⊢
  simp [hput, Array.getElem?_modify, h, objPut]
theorem hput_other {H : Hp} {b b' o : Nat} {vs : List Value} (h : b ≠ b') : (hput H b o vs)[b']? = H[b']? := by
  simp [hput, Array.getElem?_modify, h]
theorem hput_size (H : Hp) (b o : Nat) (vs : List Value) : (hput H b o vs).size = H.size := by simp [hput]
/-- A store into what came behind H. -/
theorem Keeps.hput {H H' : Hp} (k : Keeps H H') {b o : Nat} {vs : List Value} (hb : H.size ≤ b) : Keeps H (hput H' b o vs) :=
  ⟨by rw [hput_size]; exact k.size, fun i hi => by rw [hput_other (by omega)]; exact k.old i hi⟩
theorem Keeps.alloc {H H' : Hp} (k : Keeps H H') (o : Obj) : Keeps H (H'.push o) := k.trans (Keeps.push H' o)
theorem Keeps.from {H : Hp} {o : Obj} {H' : Hp} (k : Keeps (H.push o) H') : Keeps H H' := (Keeps.push H o).trans k

/-! ### Joins and loops -/
theorem join1 {α : Type} {A : (α → Hp → Prop) → Prop} {B : α → (Nat → Value) → Hp → Prop} (x0 : α) (H0 : Hp) (h1 : A (fun x H => x = x0 ∧ H = H0)) (h2 : ∀ j, B x0 j H0) :
    ∃ M : α → Hp → Prop, A M ∧ ∀ (x : α) (j : Nat → Value) (H : Hp), M x H → B x j H :=
  ⟨_, h1, fun x j H ⟨e1, e2⟩ => by subst e1; subst e2; exact h2 j⟩
theorem joinK {α : Type} {A : (α → Hp → Prop) → Prop} {B : α → (Nat → Value) → Hp → Prop} (h : A (fun x H => ∀ j, B x j H)) :
    ∃ M : α → Hp → Prop, A M ∧ ∀ (x : α) (j : Nat → Value) (H : Hp), M x H → B x j H :=
  ⟨_, h, fun x j H h => h j⟩
/-- A join of one bool: the heap grew. -/
theorem joinR {α : Type} {A : (α → Hp → Prop) → Prop} {B : α → (Nat → Value) → Hp → Prop} (M : α → Hp → Prop) (h1 : A M) (h2 : ∀ x j H, M x H → B x j H) :
    ∃ M : α → Hp → Prop, A M ∧ ∀ (x : α) (j : Nat → Value) (H : Hp), M x H → B x j H := ⟨M, h1, h2⟩

/-! ### Reads: the VC's words, by what is known of the cell -/
theorem xI {H : Hp} {b o : Nat} {k : IntKind} {x : Int} (h : cel H b o = some (.int k x)) (P : Int → Prop) : (∃ y, cel H b o = some (.int k y) ∧ P y) = P x := by
  apply propext; constructor
  · rintro ⟨y, e, p⟩; rw [h] at e; cases e; exact p
  · intro p; exact ⟨x, h, p⟩
theorem xB {H : Hp} {b o : Nat} {x : Bool} (h : cel H b o = some (.bool x)) (P : Bool → Prop) : (∃ y, cel H b o = some (.bool y) ∧ P y) = P x := by
  apply propext; constructor
  · rintro ⟨y, e, p⟩; rw [h] at e; cases e; exact p
  · intro p; exact ⟨x, h, p⟩
theorem xS {H : Hp} {b o : Nat} {x : ByteArray} (h : cel H b o = some (.string x)) (P : ByteArray → Prop) : (∃ y, cel H b o = some (.string y) ∧ P y) = P x := by
  apply propext; constructor
  · rintro ⟨y, e, p⟩; rw [h] at e; cases e; exact p
  · intro p; exact ⟨x, h, p⟩
theorem xP {H : Hp} {b o : Nat} {x : Option Addr} (h : cel H b o = some (.pointer x)) (P : Option Addr → Prop) : (∃ y, cel H b o = some (.pointer y) ∧ P y) = P x := by
  apply propext; constructor
  · rintro ⟨y, e, p⟩; rw [h] at e; cases e; exact p
  · intro p; exact ⟨x, h, p⟩
theorem xL {H : Hp} {b o : Nat} {A : Option Addr} {n c : Nat} (h : cel H b o = some (.slice A n c)) (P : Option Addr → Nat → Nat → Prop) : (∃ A' n' c', cel H b o = some (.slice A' n' c') ∧ P A' n' c') = P A n c := by
  apply propext; constructor
  · rintro ⟨A', n', c', e, p⟩; rw [h] at e; cases e; exact p
  · intro p; exact ⟨A, n, c, h, p⟩
/-- An address that is known. -/
theorem xA (b o : Nat) (P : Nat → Nat → Prop) : (∃ b' o', some (⟨b, o, none⟩ : Addr) = some ⟨b', o', none⟩ ∧ P b' o') = P b o := by
  apply propext; constructor
  · rintro ⟨b', o', e, p⟩; cases e; exact p
  · intro p; exact ⟨b, o, rfl, p⟩

/-! ### Rows of things -/
/-- The list that a slice shows. `E H b o x`: at that place of the heap lies x; `sz` cells each. -/
def rowR {α : Type} (E : Hp → Nat → Nat → α → Prop) (sz : Nat) (H : Hp) (A : Option Addr) (n : Nat) (xs : List α) : Prop :=
  xs.length = n ∧ ∀ (i : Nat) (x : α), xs[i]? = some x → ∃ b o, A = some ⟨b, o, none⟩ ∧ E H b (o + i * sz) x
def Mono {α : Type} (E : Hp → Nat → Nat → α → Prop) : Prop := ∀ H H' b o x, Keeps H H' → E H b o x → E H' b o x
theorem rowR.keeps {α : Type} {E : Hp → Nat → Nat → α → Prop} (hE : Mono E) {sz : Nat} {H H' : Hp} (k : Keeps H H') {A : Option Addr} {n : Nat} {xs : List α} (h : rowR E sz H A n xs) : rowR E sz H' A n xs :=
  ⟨h.1, fun i x hx => by obtain ⟨b, o, e, he⟩ := h.2 i x hx; exact ⟨b, o, e, hE _ _ _ _ _ k he⟩⟩
theorem rowR.at {α : Type} {E : Hp → Nat → Nat → α → Prop} {sz : Nat} {H : Hp} {A : Option Addr} {n : Nat} {xs : List α} (h : rowR E sz H A n xs) {i : Int} (h0 : 0 ≤ i) (h1 : i < (n : Int)) :
    ∃ x b o, xs[i.toNat]? = some x ∧ A = some ⟨b, o, none⟩ ∧ E H b (o + i.toNat * sz) x := by
  have : i.toNat < xs.length := by rw [h.1]; omega
  obtain ⟨b, o, e, he⟩ := h.2 i.toNat _ (List.getElem?_eq_getElem this)
  exact ⟨_, b, o, List.getElem?_eq_getElem this, e, he⟩
theorem rowR_nil {α : Type} (E : Hp → Nat → Nat → α → Prop) (sz : Nat) (H : Hp) (A : Option Addr) : rowR E sz H A 0 [] := ⟨rfl, fun i x h => by simp at h⟩
/-- Bytes. -/
def isU8 (H : Hp) (b o : Nat) (x : Int) : Prop := cel H b o = some (.int .u8 x) ∧ 0 ≤ x ∧ x < 256
theorem isU8.mono : Mono isU8 := fun _ _ _ _ _ k h => ⟨k.cel h.1, h.2⟩
abbrev bytesR := rowR isU8 1
def isI64 (H : Hp) (b o : Nat) (x : Int) : Prop := cel H b o = some (.int .i64 x) ∧ -9223372036854775808 ≤ x ∧ x ≤ 9223372036854775807
theorem isI64.mono : Mono isI64 := fun _ _ _ _ _ k h => ⟨k.cel h.1, h.2⟩
abbrev intsR := rowR isI64 1
end Go.Proofs.Ytkkjjjgcfnhabaa.Eng
namespace Go.Proofs.Ytkkjjjgcfnhabaa.Eng
open Go
/-! ### Lists that a function owns -/
def ownC (H : Hp) (base : Nat) (t : TypeId) (sz : Nat) (A : Option Addr) (n c : Nat) (vs : List Value) : Prop :=
  vs.length = n * sz ∧ n ≤ c ∧ ((A = none ∧ c = 0) ∨ ∃ b cs, base ≤ b ∧ A = some ⟨b, 0, none⟩ ∧ objAt H b cs t ∧ cs.size = c * sz ∧ cs.toList.take (n * sz) = vs)
theorem ownC_nil (H : Hp) (base : Nat) (t : TypeId) (sz : Nat) : ownC H base t sz none 0 0 [] := ⟨by simp, by omega, Or.inl ⟨rfl, rfl⟩⟩
/-- What a change leaves alone. -/
def offA (A : Option Addr) (H H' : Hp) : Prop := H.size ≤ H'.size ∧ ∀ k, k < H.size → A ≠ some ⟨k, 0, none⟩ → H'[k]? = H[k]?
theorem ownC.lt {H : Hp} {base : Nat} {t : TypeId} {sz : Nat} {A : Option Addr} {n c : Nat} {vs : List Value} (h : ownC H base t sz A n c vs) {b : Nat} (hb : A = some ⟨b, 0, none⟩) : base ≤ b ∧ b < H.size := by
  obtain ⟨_, _, h | ⟨b', cs, h1, h2, h3, _⟩⟩ := h
  · rw [h.1] at hb; cases hb
  · rw [h2] at hb; cases hb; exact ⟨h1, objAt_lt h3⟩
theorem ownC.frame {H H' : Hp} {base : Nat} {t : TypeId} {sz : Nat} {A : Option Addr} {n c : Nat} {vs : List Value} (h : ownC H base t sz A n c vs) (hf : ∀ b, A = some ⟨b, 0, none⟩ → H'[b]? = H[b]?) : ownC H' base t sz A n c vs := by
  obtain ⟨h1, h2, h | ⟨b, cs, h3, h4, h5, h6⟩⟩ := h
  · exact ⟨h1, h2, Or.inl h⟩
  · refine ⟨h1, h2, Or.inr ⟨b, cs, h3, h4, ?_, h6⟩⟩
    unfold objAt at h5 ⊢; rw [hf b h4]; exact h5
theorem ownC.keeps {H H' : Hp} {base : Nat} {t : TypeId} {sz : Nat} {A : Option Addr} {n c : Nat} {vs : List Value} (h : ownC H base t sz A n c vs) (k : Keeps H H') : ownC H' base t sz A n c vs :=
  h.frame fun b hb => k.old b (h.lt hb).2
/-- Lists of other elements lie elsewhere. -/
theorem ownC.off {H H' : Hp} {base base' : Nat} {t t' : TypeId} {sz sz' : Nat} {A A' : Option Addr} {n c n' c' : Nat} {vs vs' : List Value} (h : ownC H base t sz A n c vs)
    (h' : ownC H base' t' sz' A' n' c' vs') (ht : t ≠ t') (ho : offA A' H H') : ownC H' base t sz A n c vs := by
  refine h.frame fun b hb => ho.2 b (h.lt hb).2 fun e => ?_
  obtain ⟨_, _, q | ⟨b1, cs1, _, e1, o1, _⟩⟩ := h
  · rw [q.1] at hb; cases hb
  obtain ⟨_, _, q | ⟨b2, cs2, _, e2, o2, _⟩⟩ := h'
  · rw [q.1] at e; cases e
  rw [e1] at hb; cases hb
  rw [e2] at e; cases e
  unfold objAt at o1 o2
  rw [o1] at o2; cases o2; exact ht rfl
theorem ownC.rd {H : Hp} {base : Nat} {t : TypeId} {sz : Nat} {A : Option Addr} {n c : Nat} {vs : List Value} (h : ownC H base t sz A n c vs) : rdC H A (n * sz) vs := by
  obtain ⟨h1, h2, h | ⟨b, cs, h3, h4, h5, h6, h7⟩⟩ := h
  · refine ⟨h1, fun hp => ?_⟩
    have : n = 0 := by omega
    subst this; omega
  · refine ⟨h1, fun _ => ⟨b, 0, h4, fun j v hv => ?_⟩⟩
    rw [Nat.zero_add, objAt_cel h5]
    rw [← h7, List.getElem?_take] at hv
    split at hv
    · simpa using hv
    · cases hv
theorem offA.keeps {G H H' : Hp} {A : Option Addr} (k : Keeps G H) (h : offA A H H') (hb : ∀ b, A = some ⟨b, 0, none⟩ → G.size ≤ b) : Keeps G H' :=
  ⟨Nat.le_trans k.size h.1, fun i hi => by
    rw [h.2 i (Nat.lt_of_lt_of_le hi k.size) (fun e => by have := hb i e; omega)]; exact k.old i hi⟩
theorem spl_take {c : Array Value} {o : Nat} {vs : List Value} (h : o + vs.length ≤ c.size) : (spl c o vs).toList.take (o + vs.length) = c.toList.take o ++ vs := by
  simp only [spl]
  have : (List.take o c.toList).length = o := by simp; omega
  rw [List.take_append_of_le_length (by simp; omega)]
  rw [List.take_of_length_le (by simp; omega)]
theorem app_own {C : Ctx} {t tx : TypeId} {i : TI} {e : TypeId} {ie : TI} (hi : tget C.T t = some i) (hk : i.k = .slc e) (hie : tget C.T e = some ie)
    {x : Value} (hb : (srcB C tx x && Nat.blt 0 ie.size && Nat.blt 0 ie.bytes && Nat.beq ie.zero.length ie.size) = true) {H : Hp} {base : Nat} {A : Option Addr} {n c : Nat} {vs : List Value}
    (h : ownC H base e ie.size A n c vs) {m : Nat} {ys : List Value} (hs : srcC H ie.size x m ys) (hy : ys.length = m * ie.size) (hv : ∀ v ∈ ys, v.oneCell' = true) (hn : (n + m) * ie.bytes ≤ 140737488355328)
    (hbase : base ≤ H.size) {K : Value → Hp → Prop}
    (hK : ∀ A' c' H', ownC H' base e ie.size A' (n + m) c' (vs ++ ys) → offA A H H' → (A' = A ∨ A' = some ⟨H.size, 0, none⟩) → (m = 0 ∨ A' ≠ none) → K (.slice A' (n + m) c') H') :
    appW C t tx (.slice A n c) x H K := by
  obtain ⟨hl, hnc, ho⟩ := h
  have hsz : 0 < ie.size := by
    simp only [Bool.and_eq_true] at hb; exact Nat.le_of_ble_eq_true hb.1.1.2
  have hzl : ie.zero.length = ie.size := by
    simp only [Bool.and_eq_true] at hb; exact Nat.eq_of_beq_eq_true hb.2
  unfold appW
  simp only [hi, hk, hie]
  rw [hb]
  refine ⟨m, ys, hs, fun hc => ?_, fun hc => ⟨hn, vs, ?_, fun cap h1 h2 => ?_⟩⟩
  · rcases ho with ⟨rfl, rfl⟩ | ⟨b, cs, h3, rfl, h5, h6, h7⟩
    · have : m = 0 := by omega
      subst this
      have : ys = [] := List.eq_nil_of_length_eq_zero (by omega)
      subst this
      refine ⟨Or.inl rfl, ?_⟩
      have := hK none 0 H ⟨by simp [hl], by omega, Or.inl ⟨rfl, rfl⟩⟩ ⟨Nat.le_refl _, fun _ _ _ => rfl⟩ (Or.inl rfl) (Or.inl rfl)
      simpa [hputA] using this
    · have hle : n * ie.size + ys.length ≤ cs.size := by
        rw [hy, h6, ← Nat.add_mul]; exact Nat.mul_le_mul_right _ hc
      refine ⟨Or.inr ⟨b, 0, rfl, cs, e, 0, 0, h5, by simpa using hle, by omega, hv⟩, ?_⟩
      have ho' := objAt_hput h5 (0 + n * ie.size) ys
      rw [Nat.zero_add] at ho'
      refine hK _ _ _ ⟨by simp [hl, hy, Nat.add_mul], hc, Or.inr ⟨b, _, h3, rfl, ?_, by rw [size_spl _ _ _ hle]; exact h6, ?_⟩⟩ ⟨by simp [hputA, hput_size], fun k hk hne => ?_⟩ (Or.inl rfl) (Or.inr (by simp))
      · simpa [hputA] using ho'
      · rw [Nat.add_mul, ← hy, spl_take hle, h7]
      · simp only [hputA]
        exact hput_other (fun e => hne (by rw [e]))
  · have h : ownC H base e ie.size A n c vs := ⟨hl, hnc, ho⟩
    exact h.rd
  · refine hK _ _ _ ⟨by simp [hl, hy, Nat.add_mul], h1, Or.inr ⟨H.size, _, hbase, rfl, objAt_new _ _ _, ?_, ?_⟩⟩ ⟨by simp, fun k hk _ => ?_⟩ (Or.inr rfl) (Or.inr (by simp))
    · simp only [List.size_toArray, List.length_append, hl, hy, zrow_length, hzl]
      rw [← Nat.add_mul, ← Nat.add_mul]; congr 1; omega
    · simp only [List.toList_toArray]
      rw [List.take_append_of_le_length (by simp [hl, hy, Nat.add_mul])]
      rw [List.take_of_length_le (by simp [hl, hy, Nat.add_mul])]
    · rw [Array.getElem?_push, if_neg (by omega)]
end Go.Proofs.Ytkkjjjgcfnhabaa.Eng
namespace Go.Proofs.Ytkkjjjgcfnhabaa.Eng
open Go Go.Proofs

/-- A right filter (layer 7): the words of both sides. -/
def filtKind (all : Bool) (hashes : Int) (n : Nat) : Int :=
  if all ∧ hashes = 0 ∧ n = 0 then 1 else if all = false ∧ hashes = 0 ∧ n = 0 then 2 else if all = false ∧ 1 ≤ hashes ∧ hashes ≤ 8 ∧ 1 ≤ n ∧ n ≤ 4096 then 3 else 0
def filtRight (all : Bool) (hashes : Int) (n : Nat) : Bool := (decide (hashes = 0) && decide (n = 0)) || (!all && decide (1 ≤ hashes) && decide (hashes ≤ 8) && decide (1 ≤ n) && decide (n ≤ 4096))

theorem f89.spec (φ : Fx) (all : Bool) (hashes : Int) (A : Option Addr) (n c : Nat) (H : Hp) :
    HCalls cx.P φ 89 [.agg #[.bool all, .int .i64 hashes, .slice A n c]] H fun v H' => v = .int .i64 (if filtRight all hashes n then 0 else 70) ∧ Keeps H H' := by
  apply f89.of
  unfold f89.VC
  intro H1
  have e0 : cel H1 H.size 0 = some (.bool all) := cel_new ..
  have e1 : cel H1 H.size (0 + 1) = some (.int .i64 hashes) := cel_new ..
  have e2 : cel H1 H.size (0 + 2) = some (.slice A n c) := cel_new ..
  have k : Keeps H H1 := Keeps.push ..
  clear_value H1
  refine join1 (decide (hashes = 0) && decide (n = 0)) H1 ?_ ?_
  · simp only [xI e1, xL e2]; grind
  intro _
  refine ⟨fun h => ?_, fun h => ?_⟩
  · simp only [k, filtRight, h]; grind
  refine join1 (all || decide (hashes < 1) || decide (8 < hashes) || decide (n < 1) || decide (4096 < n)) H1 ?_ ?_
  · simp only [xB e0, xI e1, xL e2]; grind
  intro _
  simp only [k, filtRight, h]; grind
theorem f148.spec (φ : Fx) (all : Bool) (hashes : Int) (A : Option Addr) (n c : Nat) (H : Hp) :
    HCalls cx.P φ 148 [.agg #[.bool all, .int .i64 hashes, .slice A n c]] H fun v H' => v = .int .i64 (filtKind all hashes n) ∧ Keeps H H' := by
  apply f148.of
  unfold f148.VC
  intro H1
  have e0 : cel H1 H.size 0 = some (.bool all) := cel_new ..
  have e1 : cel H1 H.size (0 + 1) = some (.int .i64 hashes) := cel_new ..
  have e2 : cel H1 H.size (0 + 2) = some (.slice A n c) := cel_new ..
  have k : Keeps H H1 := Keeps.push ..
  clear_value H1
  refine join1 (all && decide (hashes = 0) && decide (n = 0)) H1 ?_ ?_
  · simp only [xB e0, xI e1, xL e2]; grind
  intro _
  refine ⟨fun h => ?_, fun h => ?_⟩
  · simp only [k, filtKind, h]; grind
  refine join1 (!all && decide (hashes = 0) && decide (n = 0)) H1 ?_ ?_
  · simp only [xB e0, xI e1, xL e2]; grind
  intro _
  refine ⟨fun h2 => ?_, fun h2 => ?_⟩
  · simp only [k, filtKind, h]; grind
  refine join1 (!all && decide (1 ≤ hashes) && decide (hashes ≤ 8) && decide (1 ≤ n) && decide (n ≤ 4096)) H1 ?_ ?_
  · simp only [xB e0, xI e1, xL e2]; grind
  intro _
  simp only [k, filtKind, h]; grind
theorem filtKind_right (all : Bool) (hashes : Int) (n : Nat) : (filtKind all hashes n = 0) = (filtRight all hashes n = false) := by
  simp only [filtKind, filtRight]; grind
theorem f91.spec (φ : Fx) (all : Bool) (hashes : Int) (A : Option Addr) (n c : Nat) (H : Hp) :
    HCalls cx.P φ 91 [.agg #[.bool all, .int .i64 hashes, .slice A n c]] H fun v H' => v = .int .i64 (if filtRight all hashes n then 0 else 70) ∧ Keeps H H' := by
  apply f91.of
  unfold f91.VC
  intro H1
  have e0 : cel H1 H.size 0 = some (.bool all) := cel_new ..
  have e1 : cel H1 H.size (0 + 1) = some (.int .i64 hashes) := cel_new ..
  have e2 : cel H1 H.size (0 + 2) = some (.slice A n c) := cel_new ..
  have k : Keeps H H1 := Keeps.push ..
  clear_value H1
  simp only [xB e0, xI e1, xL e2]
  refine HCalls.mono (f148.spec φ all hashes A n c H1) ?_
  rintro v H2 ⟨rfl, k2⟩
  have k3 := k.trans k2
  have := filtKind_right all hashes n
  refine ⟨_, rfl, fun h => ⟨?_, k3⟩, fun h => ⟨?_, k3⟩⟩ <;> simp only [decide_eq_true_eq, decide_eq_false_iff_not] at h <;> simp_all
/-- A right block of a footer, by itself. -/
def blkRight (st raw cnt : Int) (cut : ByteArray) : Bool :=
  decide (1 ≤ st) && decide (st ≤ 65536) && decide (1 ≤ raw) && decide (raw ≤ 65536) && decide (raw ≤ 64 * st) && decide (1 ≤ cnt) && decide (cnt ≤ raw) && decide (cut.size ≤ 64)
theorem f90.spec (φ : Fx) (st raw cnt : Int) (cut : ByteArray) (H : Hp) :
    HCalls cx.P φ 90 [.agg #[.int .i64 st, .int .i64 raw, .int .i64 cnt, .string cut]] H fun v H' => v = .bool (blkRight st raw cnt cut) ∧ Keeps H H' := by
  apply f90.of
  unfold f90.VC
  intro H1
  have e0 : cel H1 H.size 0 = some (.int .i64 st) := cel_new ..
  have e1 : cel H1 H.size (0 + 1) = some (.int .i64 raw) := cel_new ..
  have e2 : cel H1 H.size (0 + 2) = some (.int .i64 cnt) := cel_new ..
  have e3 : cel H1 H.size (0 + 3) = some (.string cut) := cel_new ..
  have k : Keeps H H1 := Keeps.push ..
  clear_value H1
  refine join1 (decide (st < 1) || decide (65536 < st) || decide (raw < 1) || decide (65536 < raw) || decide (64 * st < raw)) H1 ?_ ?_
  · simp only [xI e0, xI e1]; grind
  intro _
  refine ⟨fun h => ?_, fun h => ?_⟩
  · simp only [k, blkRight]; grind
  refine join1 (decide (1 ≤ cnt) && decide (cnt ≤ raw) && decide (cut.size ≤ 64)) H1 ?_ ?_
  · simp only [xI e1, xI e2, xS e3]; grind
  intro _
  simp only [k, blkRight]; grind
end Go.Proofs.Ytkkjjjgcfnhabaa.Eng
namespace Go.Proofs.Ytkkjjjgcfnhabaa.Eng
open Go Go.Proofs
def cmpL : List UInt8 → List UInt8 → Int
  | [], [] => 0
  | [], _ :: _ => -1
  | _ :: _, [] => 1
  | a :: r, b :: s => if a < b then -1 else if b < a then 1 else cmpL r s
theorem cmpL_lt : ∀ a b : List UInt8, decide (cmpL a b < 0) = Op.bytesLess a b
  | [], [] => by simp [cmpL, Op.bytesLess]
  | [], _ :: _ => by simp [cmpL, Op.bytesLess]
  | _ :: _, [] => by simp [cmpL, Op.bytesLess]
  | a :: r, b :: s => by
    have := cmpL_lt r s
    simp only [cmpL, Op.bytesLess]
    by_cases h : a < b
    · simp [h]
    · by_cases h2 : b < a
      · have : a ≠ b := by intro e; subst e; exact h h2
        simp [h, h2, this]
      · have : a = b := by
          have h3 : ¬ a.toNat < b.toNat := fun x => h (UInt8.lt_iff_toNat_lt.2 x)
          have h4 : ¬ b.toNat < a.toNat := fun x => h2 (UInt8.lt_iff_toNat_lt.2 x)
          exact UInt8.toNat_inj.1 (by omega)
        subst this
        simpa [h] using ‹decide (cmpL r s < 0) = _›
theorem bt_at (s : ByteArray) (x : Int) (u : UInt8) (r : List UInt8) (h : s.data.toList.drop x.toNat = u :: r) : bt s x = (u.toNat : Int) := by
  have : s.data.toList[x.toNat]? = some u := by
    have := congrArg (·[0]?) h
    simpa [List.getElem?_drop] using this
  simp [bt, List.getD_eq_getElem?_getD, this]
theorem len_data (s : ByteArray) : s.data.toList.length = s.size := by simp
theorem drop_cons {α : Type} {l : List α} {n : Nat} (h : n < l.length) : ∃ u, l.drop n = u :: l.drop (n + 1) := ⟨l[n], List.drop_eq_getElem_cons h⟩
theorem f93.spec (φ : Fx) (a b : ByteArray) (ha : a.size ≤ 140737488351232) (H : Hp) :
    HCalls cx.P φ 93 [.string a, .string b] H fun v H' => v = .int .i64 (cmpL a.data.toList b.data.toList) ∧ H' = H := by
  apply f93.of
  unfold f93.VC
  refine ⟨fun x H' => H' = H ∧ 0 ≤ x ∧ x ≤ a.size ∧ x ≤ b.size ∧ cmpL (a.data.toList.drop x.toNat) (b.data.toList.drop x.toNat) = cmpL a.data.toList b.data.toList, fun x _ => (a.size - x).toNat, ⟨rfl, by omega, by omega, by omega, by simp⟩, ?_⟩
  rintro x _ H' ⟨rfl, h0, h1, h2, hc⟩
  refine ⟨fun h => ?_, fun h => ?_⟩
  · simp only [decide_eq_true_eq] at h
    have hx1 : x < a.size := by omega
    have hx2 : x < b.size := by omega
    obtain ⟨u, hu⟩ := drop_cons (l := a.data.toList) (n := x.toNat) (by rw [len_data]; omega)
    obtain ⟨w, hw⟩ := drop_cons (l := b.data.toList) (n := x.toNat) (by rw [len_data]; omega)
    rw [bt_at a x u _ hu, bt_at b x w _ hw]
    rw [hu, hw, cmpL] at hc
    have hn : x.toNat + 1 = (x + 1).toNat := by omega
    rw [hn] at hc
    have e1 : (u < w) = ((u.toNat : Int) < w.toNat) := by rw [UInt8.lt_iff_toNat_lt]; simp
    have e2 : (w < u) = ((w.toNat : Int) < u.toNat) := by rw [UInt8.lt_iff_toNat_lt]; simp
    simp only [e1, e2] at hc
    grind
  · simp only [decide_eq_false_iff_not] at h
    have la := len_data a
    have lb := len_data b
    rcases Int.lt_or_le (a.size : Int) b.size with hl | hl
    · rw [show x.toNat = a.size by omega] at hc
      obtain ⟨w, hw⟩ := drop_cons (l := b.data.toList) (n := a.size) (by omega)
      rw [hw, show a.data.toList.drop a.size = [] from List.drop_eq_nil_of_le (by omega), cmpL] at hc
      grind
    · rw [show x.toNat = b.size by omega] at hc
      rw [show b.data.toList.drop b.size = [] from List.drop_eq_nil_of_le (by omega)] at hc
      rcases Int.lt_or_le (b.size : Int) a.size with hl2 | hl2
      · obtain ⟨w, hw⟩ := drop_cons (l := a.data.toList) (n := b.size) (by omega)
        rw [hw, cmpL] at hc
        grind
      · rw [show a.data.toList.drop b.size = [] from List.drop_eq_nil_of_le (by omega), cmpL] at hc
        grind
def cutLess (a b : ByteArray) : Bool := Op.bytesLess a.toList b.toList
theorem cutLess_cmp (a b : ByteArray) : decide (cmpL a.data.toList b.data.toList < 0) = cutLess a b := by
  rw [cmpL_lt]; simp [cutLess, ByteArray.toList_eq]
theorem f92.spec (φ : Fx) (st raw cnt : Int) (cut last : ByteArray) (hs : cut.size ≤ 140737488351232) (H : Hp) :
    HCalls cx.P φ 92 [.agg #[.int .i64 st, .int .i64 raw, .int .i64 cnt, .string cut], .string last] H fun v H' => v = .bool (blkRight st raw cnt cut && !cutLess cut last) ∧ Keeps H H' := by
  apply f92.of
  unfold f92.VC
  intro H1
  have e0 : cel H1 H.size 0 = some (.int .i64 st) := cel_new ..
  have e1 : cel H1 H.size (0 + 1) = some (.int .i64 raw) := cel_new ..
  have e2 : cel H1 H.size (0 + 2) = some (.int .i64 cnt) := cel_new ..
  have e3 : cel H1 H.size (0 + 3) = some (.string cut) := cel_new ..
  have k : Keeps H H1 := Keeps.push ..
  clear_value H1
  refine join1 (blkRight st raw cnt cut && !cutLess cut last) H1 ?_ ?_
  · simp only [xI e0, xI e1, xI e2, xS e3]
    have call : ∀ K : Value → Hp → Prop, K (.int .i64 (cmpL cut.data.toList last.data.toList)) H1 → HCalls cx.P φ 93 [.string cut, .string last] H1 K := fun K hK =>
      HCalls.mono (f93.spec φ cut last hs H1) (by rintro v H' ⟨rfl, rfl⟩; exact hK)
    have hb := cutLess_cmp cut last
    simp only [blkRight]
    refine ⟨fun h1 => ⟨fun h2 => ⟨fun h3 => ⟨fun h4 => ⟨by grind, fun h5 => ⟨fun h6 => ⟨fun h7 => ⟨fun h8 => call _ ⟨_, rfl, ?_⟩, ?_⟩, ?_⟩, ?_⟩, ?_⟩, ?_⟩, ?_⟩, ?_⟩, ?_⟩ <;> grind
  · intro _
    exact ⟨rfl, k⟩
end Go.Proofs.Ytkkjjjgcfnhabaa.Eng
namespace Go.Proofs.Ytkkjjjgcfnhabaa.Eng
open Go Go.Proofs
structure Blk where
  st : Int
  raw : Int
  cnt : Int
  cut : ByteArray
structure PI where
  part : Int
  bs : List Blk
  all : Bool
  hs : Int
  data : List Int
def isBlk (H : Hp) (b o : Nat) (x : Blk) : Prop :=
  cel H b o = some (.int .i64 x.st) ∧ cel H b (o + 1) = some (.int .i64 x.raw) ∧ cel H b (o + 2) = some (.int .i64 x.cnt) ∧ cel H b (o + 3) = some (.string x.cut) ∧ x.cut.size ≤ 140737488351232
theorem isBlk.mono : Mono isBlk := fun _ _ _ _ _ k h => ⟨k.cel h.1, k.cel h.2.1, k.cel h.2.2.1, k.cel h.2.2.2.1, h.2.2.2.2⟩
def isPI (H : Hp) (b o : Nat) (x : PI) : Prop :=
  ∃ BA Bn Bc DA Dn Dc, cel H b o = some (.int .i64 x.part) ∧ cel H b (o + 1) = some (.slice BA Bn Bc) ∧ cel H b (o + 2) = some (.bool x.all) ∧ cel H b (o + 3) = some (.int .i64 x.hs) ∧
    cel H b (o + 4) = some (.slice DA Dn Dc) ∧ rowR isBlk 4 H BA Bn x.bs ∧ bytesR H DA Dn x.data ∧ Bn ≤ 3518437208783 ∧ Dn ≤ 140737488351232
theorem isPI.mono : Mono isPI := fun _ _ _ _ _ k ⟨BA, Bn, Bc, DA, Dn, Dc, h1, h2, h3, h4, h5, h6, h7, h8⟩ =>
  ⟨BA, Bn, Bc, DA, Dn, Dc, k.cel h1, k.cel h2, k.cel h3, k.cel h4, k.cel h5, h6.keeps isBlk.mono k, h7.keeps isU8.mono k, h8⟩
def Blk.right (b : Blk) : Bool := blkRight b.st b.raw b.cnt b.cut
def blksOk : ByteArray → List Blk → Bool
  | _, [] => true
  | p, b :: r => b.right && !cutLess b.cut p && blksOk b.cut r
def infosOk (parts : Int) : Int → List PI → Bool
  | _, [] => true
  | last, p :: r => decide (last < p.part) && decide (p.part < parts) && !decide (p.bs.length = 0) && filtRight p.all p.hs p.data.length && blksOk ⟨#[]⟩ p.bs && infosOk parts p.part r
def sumB : List PI → Int
  | [] => 0
  | p :: r => p.bs.length + sumB r
theorem sumB_nonneg : ∀ xs, 0 ≤ sumB xs
  | [] => by simp [sumB]
  | p :: r => by have := sumB_nonneg r; simp only [sumB]; omega
def footRight (parts : Int) (xs : List PI) : Bool := decide (1 ≤ parts) && decide (parts ≤ 65535) && infosOk parts (-1) xs && decide (sumB xs ≤ 262144)
theorem cutLess_nil (a : ByteArray) : cutLess a ⟨#[]⟩ = false := by
  have : (⟨#[]⟩ : ByteArray).toList = [] := by simp [ByteArray.toList_eq]
  rw [cutLess, this]; cases a.toList <;> simp [Op.bytesLess]
def prevCut (bs : List Blk) (k : Nat) : ByteArray :=
  match k with
  | 0 => ⟨#[]⟩
  | k + 1 => ((bs[k]?).map Blk.cut).getD ⟨#[]⟩
theorem drop_at {α : Type} {l : List α} {n : Nat} {x : α} (h : l[n]? = some x) : l.drop n = x :: l.drop (n + 1) := by
  obtain ⟨hn, e⟩ := List.getElem?_eq_some_iff.1 h
  rw [List.drop_eq_getElem_cons hn, e]
theorem f16.spec (φ : Fx) (parts : Int) (A : Option Addr) (n c : Nat) (xs : List PI) (H : Hp) (hr : rowR isPI 5 H A n xs) :
    HCalls cx.P φ 16 [.agg #[.int .i64 parts, .slice A n c]] H fun v H' => v = .int .i64 (if footRight parts xs then 0 else 80) ∧ Keeps H H' := by
  apply f16.of
  unfold f16.VC
  intro H1
  have e0 : cel H1 H.size 0 = some (.int .i64 parts) := cel_new ..
  have e1 : cel H1 H.size (0 + 1) = some (.slice A n c) := cel_new ..
  have k1 : Keeps H H1 := Keeps.push ..
  clear_value H1
  refine join1 (decide (parts < 1) || decide (65535 < parts)) H1 ?_ ?_
  · simp -zeta only [xI e0]; grind
  intro _
  refine ⟨fun h => ?_, fun h => ?_⟩
  · simp only [k1, footRight]; grind
  have hp : 1 ≤ parts ∧ parts ≤ 65535 := by simp at h; omega
  refine ⟨fun blocks last i H' => Keeps H1 H' ∧ 0 ≤ i ∧ i ≤ n ∧ -1 ≤ last ∧ last < parts ∧ i ≤ last + 1 ∧ 0 ≤ blocks ∧ blocks ≤ i * 3518437208783 ∧ infosOk parts last (xs.drop i.toNat) = infosOk parts (-1) xs ∧ blocks + sumB (xs.drop i.toNat) = sumB xs,
    fun _ _ i _ => (n - i).toNat, ⟨Keeps.refl _, by omega, by omega, by omega, by grind, by omega, by omega, by omega, by simp, by simp⟩, ?_⟩
  rintro blocks last i _ H3 ⟨k3, h0, hn, hl0, hl1, hil, hb0, hb1, hok, hsum⟩
  simp -zeta only [xL (k3.cel e1)]
  refine ⟨fun hi => ?_, fun hi => ?_⟩
  · simp only [decide_eq_true_eq] at hi
    obtain ⟨x, b, o, hx, rfl, BA, Bn, Bc, DA, Dn, Dc, c0, c1, c2, c3, c4, rb, rd, bn, dn⟩ := (hr.keeps isPI.mono (k1.trans k3)).at h0 hi
    rw [drop_at hx, infosOk] at hok
    rw [drop_at hx, sumB] at hsum
    simp -zeta only [xA, xI c0, xL c1, xB c2, xI c3, xL c4]
    refine ⟨⟨h0, hi⟩, ?_⟩
    intro H4
    refine ⟨canPut_new _ _ _ _ _ (by simp) (by simp [Value.oneCell']), ?_⟩
    intro H5
    have hH5 : H5 = H3.push (.cells #[.int .i64 x.part, .slice BA Bn Bc, .bool x.all, .int .i64 x.hs, .slice DA Dn Dc] 146 (0, 0)) := hput_new _ _ _ _ _ (by simp)
    have d0 : cel H5 H3.size 0 = some (.int .i64 x.part) := by rw [hH5]; exact cel_new ..
    have d1 : cel H5 H3.size (0 + 1) = some (.slice BA Bn Bc) := by rw [hH5]; exact cel_new ..
    have d2 : cel H5 H3.size (0 + 2) = some (.bool x.all) := by rw [hH5]; exact cel_new ..
    have d3 : cel H5 H3.size (0 + 2 + 1) = some (.int .i64 x.hs) := by rw [hH5]; exact cel_new ..
    have d4 : cel H5 H3.size (0 + 2 + 2) = some (.slice DA Dn Dc) := by rw [hH5]; exact cel_new ..
    have k35 : Keeps H3 H5 := by rw [hH5]; exact Keeps.push ..
    have k5 : Keeps H1 H5 := k3.trans k35
    clear_value H5 H4
    have lb := rb.1
    have ld := rd.1
    refine joinR (fun y H' => Keeps H5 H' ∧ y = (decide (x.part ≤ last) || decide (parts ≤ x.part) || decide (Bn = 0) || !filtRight x.all x.hs Dn)) ?_ ?_
    · simp -zeta only [xI d0, xI (k5.cel e0), xL d1, xB d2, xI d3, xL d4]
      have call : ∀ K : Value → Hp → Prop, (∀ H', Keeps H5 H' → K (.int .i64 (if filtRight x.all x.hs Dn then 0 else 70)) H') → HCalls cx.P φ 89 [.agg #[.bool x.all, .int .i64 x.hs, .slice DA Dn Dc]] H5 K := fun K hK =>
        HCalls.mono (f89.spec φ x.all x.hs DA Dn Dc H5) (by rintro v H' ⟨rfl, k⟩; exact hK _ k)
      have kr := Keeps.refl H5
      refine ⟨fun h1 => ⟨kr, by grind⟩, fun h1 => ⟨fun h2 => ⟨kr, by grind⟩, fun h2 => ⟨fun h3 => ⟨kr, by grind⟩, fun h3 => call _ fun H' k => ⟨_, rfl, k, by grind⟩⟩⟩⟩
    rintro y _ H7 ⟨k57, rfl⟩
    have k7 := k5.trans k57
    refine ⟨fun hy => ⟨?_, (k1.trans k7)⟩, fun hy => ?_⟩
    · have : footRight parts xs = false := by
        simp only [footRight]; grind
      rw [this]; rfl
    simp -zeta only [xI (k57.cel d0), xL (k57.cel d1)]
    refine ⟨by omega, ?_⟩
    refine ⟨fun k H' => Keeps H7 H' ∧ 0 ≤ k ∧ k ≤ Bn ∧ blksOk (prevCut x.bs k.toNat) (x.bs.drop k.toNat) = blksOk ⟨#[]⟩ x.bs, fun k _ => (Bn - k).toNat, ⟨Keeps.refl _, by omega, by omega, by simp [prevCut]⟩, ?_⟩
    rintro k _ H8 ⟨k78, hk0, hk1, hko⟩
    have k58 := k57.trans k78
    have k8 := k5.trans k58
    simp -zeta only [xL (k58.cel d1)]
    refine ⟨fun hk => ?_, fun hk => ?_⟩
    · simp only [decide_eq_true_eq] at hk
      obtain ⟨y, b2, o2, hy2, rfl, s0, s1, s2, s3, s4⟩ := (rb.keeps isBlk.mono (k35.trans k58)).at hk0 hk
      rw [drop_at hy2, blksOk] at hko
      simp -zeta only [xA, xI s0, xI s1, xI s2, xS s3]
      refine ⟨⟨hk0, hk⟩, HCalls.mono (f90.spec φ y.st y.raw y.cnt y.cut H8) ?_⟩
      rintro v2 H9 ⟨rfl, k89⟩
      refine ⟨_, rfl, ?_⟩
      have k59 := k58.trans k89
      have k9 := k8.trans k89
      refine joinR (fun z H' => H' = H9 ∧ z = !(y.right && !cutLess y.cut (prevCut x.bs k.toNat))) ?_ ?_
      · refine ⟨fun h1 => ⟨rfl, ?_⟩, fun h1 => ⟨fun h2 => ?_, fun h2 => ⟨rfl, ?_⟩⟩⟩
        · simp only [Blk.right]; grind
        · simp only [decide_eq_true_eq] at h2
          obtain ⟨z, b3, o3, hz, e, t0, t1, t2, t3, t4⟩ := (rb.keeps isBlk.mono (k35.trans k59)).at (i := k - 1) (by omega) (by omega)
          simp only [Option.some.injEq, Addr.mk.injEq, and_true] at e
          obtain ⟨rfl, rfl⟩ := e
          simp -zeta only [xL (k59.cel d1), xA, xS (k89.cel s3)]
          refine ⟨⟨hk0, hk⟩, by omega, by omega, ?_⟩
          simp -zeta only [xS t3]
          refine ⟨trivial, ?_⟩
          have : prevCut x.bs k.toNat = z.cut := by
            have : k.toNat = (k - 1).toNat + 1 := by omega
            rw [this]; show ((x.bs[(k - 1).toNat]?).map Blk.cut).getD _ = _; rw [hz]; rfl
          rw [this]
          simp only [Bool.not_eq_false'] at h1; simp only [Blk.right, cutLess, h1, Bool.true_and, Bool.not_not]
        · have : k.toNat = 0 := by simp only [decide_eq_false_iff_not] at h2; omega
          rw [this]
          simp only [prevCut, cutLess_nil, Blk.right]; clear hok hsum; simp at h1 ⊢; exact h1
      rintro z _ H10 ⟨rfl, rfl⟩
      refine ⟨fun hz => ⟨?_, k1.trans k9⟩, fun hz => ⟨by omega, ⟨?_, by omega, by omega, ?_⟩, by omega⟩⟩
      · have : footRight parts xs = false := by
          simp only [footRight]; grind
        rw [this]; rfl
      · exact k78.trans k89
      · rw [show (k + 1).toNat = k.toNat + 1 by omega]
        have : prevCut x.bs (k.toNat + 1) = y.cut := by simp [prevCut, hy2]
        rw [this]; grind
    · simp only [decide_eq_false_iff_not] at hk
      have hd : x.bs.drop k.toNat = [] := List.drop_eq_nil_of_le (by omega)
      rw [hd, blksOk] at hko
      have e : (i + 1).toNat = i.toNat + 1 := by omega
      refine ⟨by omega, ⟨k8, by omega, by omega, ?_, ?_, ?_, by omega, by omega, ?_, ?_⟩, by omega⟩
      all_goals (try rw [e])
      all_goals (first | grind | omega)
  · simp only [decide_eq_false_iff_not] at hi
    have hd : xs.drop i.toNat = [] := List.drop_eq_nil_of_le (by rw [hr.1]; omega)
    rw [hd, infosOk] at hok
    rw [hd, sumB] at hsum
    refine ⟨fun hb => ⟨?_, k1.trans k3⟩, fun hb => ⟨?_, k1.trans k3⟩⟩
    · simp only [footRight]; grind
    · simp only [footRight]; grind
end Go.Proofs.Ytkkjjjgcfnhabaa.Eng
namespace Go.Proofs.Ytkkjjjgcfnhabaa.Eng
open Go Go.Proofs
theorem infosOk_sum (parts last : Int) (xs : List PI) : 0 ≤ sumB xs := sumB_nonneg xs
theorem f17.spec (φ : Fx) (parts : Int) (A : Option Addr) (n c : Nat) (xs : List PI) (H : Hp) (hr : rowR isPI 5 H A n xs) :
    HCalls cx.P φ 17 [.agg #[.int .i64 parts, .slice A n c]] H fun v H' => v = .int .i64 (if footRight parts xs then 0 else 80) ∧ Keeps H H' := by
  apply f17.of
  unfold f17.VC
  intro H1
  have e0 : cel H1 H.size 0 = some (.int .i64 parts) := cel_new ..
  have e1 : cel H1 H.size (0 + 1) = some (.slice A n c) := cel_new ..
  have k1 : Keeps H H1 := Keeps.push ..
  clear_value H1
  refine join1 (decide (parts < 1) || decide (65535 < parts)) H1 ?_ ?_
  · simp only [xI e0]; grind
  intro _
  refine ⟨fun h => ?_, fun h => ?_⟩
  · simp only [k1, footRight]; grind
  have hp : 1 ≤ parts ∧ parts ≤ 65535 := by simp at h; omega
  simp -zeta only [xL e1]
  refine ⟨fun last blocks i H' => Keeps H1 H' ∧ 0 ≤ i ∧ i ≤ n ∧ -1 ≤ last ∧ last < parts ∧ i ≤ last + 1 ∧ 0 ≤ blocks ∧ blocks ≤ 262144 ∧ infosOk parts last (xs.drop i.toNat) = infosOk parts (-1) xs ∧ blocks + sumB (xs.drop i.toNat) = sumB xs,
    fun _ _ i _ => (n - i).toNat, ⟨Keeps.refl _, by omega, by omega, by omega, by omega, by omega, by omega, by omega, by simp, by simp⟩, ?_⟩
  rintro last blocks i _ H3 ⟨k3, h0, hn, hl0, hl1, hil, hb0, hb1, hok, hsum⟩
  refine ⟨fun hi => ?_, fun hi => ?_⟩
  · simp only [decide_eq_true_eq] at hi
    obtain ⟨x, b, o, hx, rfl, BA, Bn, Bc, DA, Dn, Dc, c0, c1, c2, c3, c4, rb, rd, bn, dn⟩ := (hr.keeps isPI.mono (k1.trans k3)).at h0 hi
    rw [drop_at hx, infosOk] at hok
    rw [drop_at hx, sumB] at hsum
    have hnn := sumB_nonneg (xs.drop (i.toNat + 1))
    simp -zeta only [xA, xI c0, xL c1, xB c2, xI c3, xL c4]
    refine ⟨⟨h0, hi⟩, ?_⟩
    intro H4
    refine ⟨canPut_new _ _ _ _ _ (by simp) (by simp [Value.oneCell']), ?_⟩
    intro H5
    have hH5 : H5 = H3.push (.cells #[.int .i64 x.part, .slice BA Bn Bc, .bool x.all, .int .i64 x.hs, .slice DA Dn Dc] 146 (0, 0)) := hput_new _ _ _ _ _ (by simp)
    have d0 : cel H5 H3.size 0 = some (.int .i64 x.part) := by rw [hH5]; exact cel_new ..
    have d1 : cel H5 H3.size (0 + 1) = some (.slice BA Bn Bc) := by rw [hH5]; exact cel_new ..
    have d2 : cel H5 H3.size (0 + 2) = some (.bool x.all) := by rw [hH5]; exact cel_new ..
    have d3 : cel H5 H3.size (0 + 2 + 1) = some (.int .i64 x.hs) := by rw [hH5]; exact cel_new ..
    have d4 : cel H5 H3.size (0 + 2 + 2) = some (.slice DA Dn Dc) := by rw [hH5]; exact cel_new ..
    have k35 : Keeps H3 H5 := by rw [hH5]; exact Keeps.push ..
    have k5 : Keeps H1 H5 := k3.trans k35
    clear hH5
    clear_value H5 H4
    have lb := rb.1
    have ld := rd.1
    simp -zeta only [xL d1]
    refine ⟨by omega, ?_⟩
    refine joinR (fun y H' => Keeps H5 H' ∧ y = (decide (x.part ≤ last) || decide (parts ≤ x.part) || decide (Bn = 0) || decide (262144 < blocks + Bn) || !filtRight x.all x.hs Dn)) ?_ ?_
    · simp -zeta only [xI d0, xI (k5.cel e0), xL d1, xB d2, xI d3, xL d4]
      have call : ∀ K : Value → Hp → Prop, (∀ H', Keeps H5 H' → K (.int .i64 (if filtRight x.all x.hs Dn then 0 else 70)) H') → HCalls cx.P φ 91 [.agg #[.bool x.all, .int .i64 x.hs, .slice DA Dn Dc]] H5 K := fun K hK =>
        HCalls.mono (f91.spec φ x.all x.hs DA Dn Dc H5) (by rintro v H' ⟨rfl, k⟩; exact hK _ k)
      have kr := Keeps.refl H5
      refine ⟨fun h1 => ⟨kr, by grind⟩, fun h1 => ⟨fun h2 => ⟨kr, by grind⟩, fun h2 => ⟨fun h3 => ⟨kr, by grind⟩, fun h3 => ⟨fun h4 => ⟨kr, by grind⟩, fun h4 => call _ fun H' k => ⟨_, rfl, k, by grind⟩⟩⟩⟩⟩
    rintro y _ H7 ⟨k57, rfl⟩
    have k7 := k5.trans k57
    refine ⟨fun hy => ⟨?_, (k1.trans k7)⟩, fun hy => ?_⟩
    · have : footRight parts xs = false := by
        simp only [footRight]; grind
      rw [this]; rfl
    simp -zeta only [xI (k57.cel d0), xL (k57.cel d1)]
    refine ⟨fun key k H' => Keeps H7 H' ∧ 0 ≤ k ∧ k ≤ Bn ∧ blksOk key (x.bs.drop k.toNat) = blksOk ⟨#[]⟩ x.bs, fun _ k _ => (Bn - k).toNat, ⟨Keeps.refl _, by omega, by omega, by simp⟩, ?_⟩
    rintro key k _ H8 ⟨k78, hk0, hk1, hko⟩
    have k58 := k57.trans k78
    have k8 := k5.trans k58
    refine ⟨fun hk => ?_, fun hk => ?_⟩
    · simp only [decide_eq_true_eq] at hk
      obtain ⟨y, b2, o2, hy2, rfl, s0, s1, s2, s3, s4⟩ := (rb.keeps isBlk.mono (k35.trans k58)).at hk0 hk
      rw [drop_at hy2, blksOk] at hko
      simp -zeta only [xA, xI s0, xI s1, xI s2, xS s3]
      refine ⟨⟨hk0, hk⟩, ?_⟩
      intro G9
      refine ⟨canPut_new _ _ _ _ _ (by simp) (by simp [Value.oneCell']), ?_⟩
      intro G10
      have hG : G10 = H8.push (.cells #[.int .i64 y.st, .int .i64 y.raw, .int .i64 y.cnt, .string y.cut] 150 (0, 0)) := hput_new _ _ _ _ _ (by simp)
      have q0 : cel G10 H8.size 0 = some (.int .i64 y.st) := by rw [hG]; exact cel_new ..
      have q1 : cel G10 H8.size (0 + 1) = some (.int .i64 y.raw) := by rw [hG]; exact cel_new ..
      have q2 : cel G10 H8.size (0 + 2) = some (.int .i64 y.cnt) := by rw [hG]; exact cel_new ..
      have q3 : cel G10 H8.size (0 + 3) = some (.string y.cut) := by rw [hG]; exact cel_new ..
      have k8g : Keeps H8 G10 := by rw [hG]; exact Keeps.push ..
      clear hG
      clear_value G10 G9
      simp -zeta only [xI q0, xI q1, xI q2, xS q3]
      refine HCalls.mono (f92.spec φ y.st y.raw y.cnt y.cut key s4 G10) ?_
      rintro v2 H9 ⟨rfl, kg9⟩
      have k89 := k8g.trans kg9
      have k9 := k8.trans k89
      refine ⟨_, rfl, fun hz => ⟨?_, k1.trans k9⟩, fun hz => ?_⟩
      · have : footRight parts xs = false := by
          simp only [Bool.not_eq_true'] at hz
          have : blksOk ⟨#[]⟩ x.bs = false := by rw [← hko]; simp only [Blk.right, hz, Bool.false_and]
          rw [this] at hok
          simp only [Bool.and_false, Bool.false_and] at hok
          simp only [footRight, ← hok]; simp
        rw [this]; rfl
      · simp only [xS (kg9.cel q3)]
        refine ⟨by omega, ⟨k78.trans k89, by omega, by omega, ?_⟩, by omega⟩
        rw [show (k + 1).toNat = k.toNat + 1 by omega]
        simp only [Bool.not_eq_false'] at hz
        rw [← hko, Blk.right, hz, Bool.true_and]
    · simp only [decide_eq_false_iff_not] at hk
      have hd : x.bs.drop k.toNat = [] := List.drop_eq_nil_of_le (by omega)
      rw [hd, blksOk] at hko
      have e : (i + 1).toNat = i.toNat + 1 := by omega
      simp only [Bool.or_eq_false_iff, decide_eq_false_iff_not, Bool.not_eq_false'] at hy
      obtain ⟨⟨⟨⟨y1, y2⟩, y3⟩, y4⟩, y5⟩ := hy
      refine ⟨by omega, ⟨k8, by omega, by omega, by omega, by omega, by omega, by omega, by omega, ?_, ?_⟩, by omega⟩
      · rw [e, ← hok, ← hko, ld, y5, lb]
        simp [show last < x.part by omega, show x.part < parts by omega, y3]
      · rw [e]; omega
  · simp only [decide_eq_false_iff_not] at hi
    have hd : xs.drop i.toNat = [] := List.drop_eq_nil_of_le (by rw [hr.1]; omega)
    rw [hd, infosOk] at hok
    rw [hd, sumB] at hsum
    have : footRight parts xs = true := by
      simp only [footRight, ← hok]; simp; omega
    rw [this]
    exact ⟨rfl, k1.trans k3⟩
end Go.Proofs.Ytkkjjjgcfnhabaa.Eng
namespace Go.Proofs.Ytkkjjjgcfnhabaa.Eng
open Go Go.Proofs
theorem bytesLess_of_le : ∀ (b a k : List UInt8), Op.bytesLess b a = false → Op.bytesLess b k = true → Op.bytesLess a k = true
  | b, a, [], _, h => by cases b <;> simp [Op.bytesLess] at h
  | [], [], _ :: _, _, _ => by simp [Op.bytesLess]
  | [], _ :: _, _ :: _, h, _ => by simp [Op.bytesLess] at h
  | _ :: _, [], _ :: _, _, _ => by simp [Op.bytesLess]
  | x :: b, y :: a, z :: k, h1, h2 => by
    have ih := bytesLess_of_le b a k
    simp only [Op.bytesLess, Bool.or_eq_false_iff, Bool.or_eq_true, Bool.and_eq_true, Bool.and_eq_false_iff, decide_eq_true_eq, decide_eq_false_iff_not, beq_iff_eq, UInt8.lt_iff_toNat_lt] at h1 h2 ⊢
    have e : ∀ u v : UInt8, u = v ↔ u.toNat = v.toNat := fun u v => ⟨congrArg _, UInt8.toNat_inj.1⟩
    simp only [beq_eq_false_iff_ne, ne_eq, e] at h1 h2 ⊢
    rcases h2 with h2 | ⟨h2, h3⟩
    · left; omega
    · rcases h1.2 with h4 | h4
      · left; omega
      · by_cases hx : x.toNat = y.toNat
        · right; exact ⟨by omega, ih h4 h3⟩
        · left; omega
theorem cutLess_of_le {b a k : ByteArray} (h : cutLess b a = false) (h2 : cutLess b k = true) : cutLess a k = true := bytesLess_of_le _ _ _ h h2
def cntL (key : ByteArray) : List Blk → Nat
  | [] => 0
  | b :: r => if cutLess b.cut key then cntL key r + 1 else 0
theorem blks_notLess {key : ByteArray} : ∀ (bs : List Blk) (q : ByteArray), blksOk q bs = true → cutLess q key = false → ∀ (j : Nat) (b : Blk), bs[j]? = some b → cutLess b.cut key = false
  | b :: r, q, h, hq, j, b', hb => by
    simp only [blksOk, Bool.and_eq_true, Bool.not_eq_true'] at h
    have h1 : cutLess b.cut key = false := by
      cases hc : cutLess b.cut key with
      | false => rfl
      | true => have := cutLess_of_le h.1.2 hc; rw [this] at hq; cases hq
    cases j with
    | zero => simp at hb; subst hb; exact h1
    | succ j => simp at hb; exact blks_notLess r b.cut h.2 h1 j b' hb
theorem cntL_spec {key : ByteArray} : ∀ (bs : List Blk) (q : ByteArray), blksOk q bs = true → ∀ (j : Nat) (b : Blk), bs[j]? = some b → cutLess b.cut key = decide (j < cntL key bs)
  | b :: r, q, h, j, b', hb => by
    simp only [blksOk, Bool.and_eq_true, Bool.not_eq_true'] at h
    by_cases hc : cutLess b.cut key = true
    · cases j with
      | zero => simp at hb; subst hb; simp [cntL, hc]
      | succ j =>
        simp at hb
        rw [cntL_spec r b.cut h.2 j b' hb]
        simp [cntL, hc]
    · have hf : cutLess b.cut key = false := by simpa using hc
      simp only [cntL, hf]
      cases j with
      | zero => simp at hb; subst hb; simp [hf]
      | succ j =>
        simp at hb
        rw [blks_notLess r b.cut h.2 hf j b' hb]; simp
theorem cntL_le (key : ByteArray) : ∀ bs, cntL key bs ≤ bs.length
  | [] => by simp [cntL]
  | b :: r => by have := cntL_le key r; simp only [cntL]; split <;> simp <;> omega
def lastL (key : ByteArray) : Int → Int → List Blk → Int
  | at_, _, [] => at_
  | at_, k, b :: r => lastL key (if cutLess b.cut key then k else at_) (k + 1) r
theorem lastL_notLess {key : ByteArray} : ∀ (bs : List Blk) (a k : Int), (∀ (j : Nat) (b : Blk), bs[j]? = some b → cutLess b.cut key = false) → lastL key a k bs = a
  | [], _, _, _ => rfl
  | b :: r, a, k, h => by
    rw [lastL, h 0 b rfl]
    exact lastL_notLess r _ _ fun j x hx => h (j + 1) x hx
theorem lastL_spec {key : ByteArray} : ∀ (bs : List Blk) (q : ByteArray), blksOk q bs = true → ∀ (a k : Int), lastL key a k bs = if cntL key bs = 0 then a else k + cntL key bs - 1
  | [], _, _, a, k => by simp [lastL, cntL]
  | b :: r, q, h, a, k => by
    simp only [blksOk, Bool.and_eq_true, Bool.not_eq_true'] at h
    by_cases hc : cutLess b.cut key = true
    · rw [lastL, if_pos hc, lastL_spec r b.cut h.2]
      simp only [cntL, hc, if_true]
      split
      · rename_i h0; rw [h0]; simp
      · simp; omega
    · have hf : cutLess b.cut key = false := by simpa using hc
      rw [lastL, hf]
      rw [lastL_notLess r _ _ (blks_notLess r b.cut h.2 hf)]
      simp [cntL, hf]
def findP (part : Int) (key : ByteArray) : Int → List PI → Int × Int
  | _, [] => (-1, 0)
  | i, p :: r => if p.part = part then (i, lastL key 0 0 p.bs) else findP part key (i + 1) r
def key64 (key : ByteArray) : ByteArray := key.extract 0 (min key.size 64)
theorem extract_size (b : ByteArray) (m : Nat) (h : b.size ≤ m) : b.extract 0 m = b := by
  apply ByteArray.ext
  simp only [ByteArray.data_extract]
  have := len_data b
  rw [Array.extract_eq_self_of_le (by simpa using h)]
theorem f20.spec (φ : Fx) (parts : Int) (A : Option Addr) (n c : Nat) (part : Int) (key : ByteArray) (xs : List PI) (H : Hp) (hr : rowR isPI 5 H A n xs) (hn : n ≤ 140737488351232) :
    HCalls cx.P φ 20 [.agg #[.int .i64 parts, .slice A n c], .int .i64 part, .string key] H fun v H' =>
      v = .tuple #[.int .i64 (findP part (key64 key) 0 xs).1, .int .i64 (findP part (key64 key) 0 xs).2] ∧ Keeps H H' := by
  apply f20.of
  unfold f20.VC
  intro H1
  have e0 : cel H1 H.size 0 = some (.int .i64 parts) := cel_new ..
  have e1 : cel H1 H.size (0 + 1) = some (.slice A n c) := cel_new ..
  have k1 : Keeps H H1 := Keeps.push ..
  clear_value H1
  refine join1 (key64 key) H1 ?_ ?_
  · refine ⟨fun h => ⟨by simp at h; omega, ?_, rfl⟩, fun h => ⟨?_, rfl⟩⟩
    · simp only [decide_eq_true_eq] at h
      rw [key64, show min key.size 64 = 64 by omega]; rfl
    · simp only [decide_eq_false_iff_not] at h
      rw [key64, extract_size _ _ (by omega)]
  intro _
  refine ⟨fun i H' => H' = H1 ∧ 0 ≤ i ∧ i ≤ n ∧ findP part (key64 key) i (xs.drop i.toNat) = findP part (key64 key) 0 xs, fun i _ => (n - i).toNat, ⟨rfl, by omega, by omega, by simp⟩, ?_⟩
  rintro i _ H3 ⟨rfl, h0, hin, hf⟩
  simp -zeta only [xL e1]
  refine ⟨fun hi => ?_, fun hi => ?_⟩
  · simp only [decide_eq_true_eq] at hi
    obtain ⟨x, b, o, hx, rfl, BA, Bn, Bc, DA, Dn, Dc, c0, c1, c2, c3, c4, rb, rd, bn, dn⟩ := (hr.keeps isPI.mono k1).at h0 hi
    rw [drop_at hx, findP] at hf
    simp -zeta only [xA, xI c0, xL c1]
    refine ⟨⟨h0, hi⟩, fun hp => ?_, fun hp => ?_⟩
    · simp only [Bool.not_eq_true', decide_eq_false_iff_not] at hp
      rw [if_neg hp] at hf
      refine ⟨by omega, ⟨trivial, by omega, by omega, ?_⟩, by omega⟩
      rw [show (i + 1).toNat = i.toNat + 1 by omega]; exact hf
    · simp only [Bool.not_eq_false', decide_eq_true_eq] at hp
      rw [if_pos hp] at hf
      refine ⟨fun at_ k H' => H' = H3 ∧ 0 ≤ k ∧ k ≤ Bn ∧ lastL (key64 key) at_ k (x.bs.drop k.toNat) = lastL (key64 key) 0 0 x.bs, fun _ k _ => (Bn - k).toNat, ⟨rfl, by omega, by omega, by simp⟩, ?_⟩
      rintro at_ k _ H4 ⟨rfl, hk0, hk1, hl⟩
      simp -zeta only [xL e1, xA, xL c1]
      refine ⟨⟨h0, hi⟩, fun hk => ?_, fun hk => ?_⟩
      · simp only [decide_eq_true_eq] at hk
        obtain ⟨y, b2, o2, hy2, rfl, s0, s1, s2, s3, s4⟩ := rb.at hk0 hk
        rw [drop_at hy2, lastL] at hl
        simp -zeta only [xA, xS s3]
        refine ⟨⟨h0, hi⟩, ⟨hk0, hk⟩, ?_⟩
        refine join1 (if cutLess y.cut (key64 key) then k else at_) H4 ?_ ?_
        · refine ⟨fun h => ⟨?_, rfl⟩, fun h => ⟨?_, rfl⟩⟩
          · rw [cutLess, if_pos h]
          · rw [cutLess, h]; rfl
        intro _
        refine ⟨by omega, ⟨rfl, by omega, by omega, ?_⟩, by omega⟩
        rw [show (k + 1).toNat = k.toNat + 1 by omega]; exact hl
      · simp only [decide_eq_false_iff_not] at hk
        have hd : x.bs.drop k.toNat = [] := List.drop_eq_nil_of_le (by rw [rb.1]; omega)
        rw [hd, lastL] at hl
        rw [← hf, ← hl]
        exact ⟨rfl, k1⟩
  · simp only [decide_eq_false_iff_not] at hi
    have hd : xs.drop i.toNat = [] := List.drop_eq_nil_of_le (by rw [hr.1]; omega)
    rw [hd, findP] at hf
    rw [← hf]
    exact ⟨rfl, k1⟩
theorem infosOk_blks {parts : Int} : ∀ {xs : List PI} {last : Int}, infosOk parts last xs = true → ∀ {i : Nat} {x : PI}, xs[i]? = some x → blksOk ⟨#[]⟩ x.bs = true
  | p :: r, last, h, i, x, hx => by
    simp only [infosOk, Bool.and_eq_true] at h
    cases i with
    | zero => simp at hx; subst hx; exact h.1.2
    | succ i => simp at hx; exact infosOk_blks h.2 hx
theorem f19.spec (φ : Fx) (parts : Int) (A : Option Addr) (n c : Nat) (part : Int) (key : ByteArray) (xs : List PI) (H : Hp) (hr : rowR isPI 5 H A n xs) (hn : n ≤ 140737488351232)
    (hsort : ∀ (i : Nat) (x : PI), xs[i]? = some x → blksOk ⟨#[]⟩ x.bs = true) :
    HCalls cx.P φ 19 [.agg #[.int .i64 parts, .slice A n c], .int .i64 part, .string key] H fun v H' =>
      v = .tuple #[.int .i64 (findP part (key64 key) 0 xs).1, .int .i64 (findP part (key64 key) 0 xs).2] ∧ Keeps H H' := by
  apply f19.of
  unfold f19.VC
  intro H1
  have e0 : cel H1 H.size 0 = some (.int .i64 parts) := cel_new ..
  have e1 : cel H1 H.size (0 + 1) = some (.slice A n c) := cel_new ..
  have k1 : Keeps H H1 := Keeps.push ..
  clear_value H1
  refine ⟨by omega, ?_⟩
  have hkey : ByteArray.extract key 0 (Int.toNat (min ((ByteArray.size key : Nat) : Int) 64)) = key64 key := by
    rw [key64]; congr 1; omega
  simp -zeta only [hkey]
  have hks : (key64 key).size ≤ 64 := by simp only [key64, ByteArray.size_extract]; omega
  simp -zeta only [xL e1]
  refine ⟨fun i H' => Keeps H1 H' ∧ 0 ≤ i ∧ i ≤ n ∧ findP part (key64 key) i (xs.drop i.toNat) = findP part (key64 key) 0 xs, fun i _ => (n - i).toNat, ⟨Keeps.refl _, by omega, by omega, by simp⟩, ?_⟩
  rintro i _ H3 ⟨k3, h0, hin, hf⟩
  refine ⟨fun hi => ?_, fun hi => ?_⟩
  · simp only [decide_eq_true_eq] at hi
    obtain ⟨x, b, o, hx, rfl, BA, Bn, Bc, DA, Dn, Dc, c0, c1, c2, c3, c4, rb, rd, bn, dn⟩ := (hr.keeps isPI.mono (k1.trans k3)).at h0 hi
    rw [drop_at hx, findP] at hf
    simp -zeta only [xA, xI c0, xL c1, xB c2, xI c3, xL c4]
    refine ⟨⟨h0, hi⟩, ?_⟩
    intro H4
    refine ⟨canPut_new _ _ _ _ _ (by simp) (by simp [Value.oneCell']), ?_⟩
    intro H5
    have hH5 : H5 = H3.push (.cells #[.int .i64 x.part, .slice BA Bn Bc, .bool x.all, .int .i64 x.hs, .slice DA Dn Dc] 146 (0, 0)) := hput_new _ _ _ _ _ (by simp)
    have d0 : cel H5 H3.size 0 = some (.int .i64 x.part) := by rw [hH5]; exact cel_new ..
    have d1 : cel H5 H3.size (0 + 1) = some (.slice BA Bn Bc) := by rw [hH5]; exact cel_new ..
    have k35 : Keeps H3 H5 := by rw [hH5]; exact Keeps.push ..
    have k5 : Keeps H1 H5 := k3.trans k35
    clear hH5
    clear_value H5 H4
    have lb := rb.1
    simp -zeta only [xI d0, xL d1]
    refine ⟨fun hp => ?_, fun hp => ?_⟩
    · simp only [Bool.not_eq_true', decide_eq_false_iff_not] at hp
      rw [if_neg hp] at hf
      refine ⟨by omega, ⟨k5, by omega, by omega, ?_⟩, by omega⟩
      rw [show (i + 1).toNat = i.toNat + 1 by omega]; exact hf
    · simp only [Bool.not_eq_false', decide_eq_true_eq] at hp
      rw [if_pos hp] at hf
      have hs := hsort _ _ hx
      have hcnt := cntL_spec (key := key64 key) x.bs _ hs
      have hcl := cntL_le (key64 key) x.bs
      refine ⟨fun lo hi2 H' => Keeps H5 H' ∧ 0 ≤ lo ∧ lo ≤ hi2 ∧ hi2 ≤ Bn ∧ lo ≤ cntL (key64 key) x.bs ∧ cntL (key64 key) x.bs ≤ hi2, fun lo hi2 _ => (hi2 - lo).toNat, ⟨Keeps.refl _, by omega, by omega, by omega, by omega, by omega⟩, ?_⟩
      rintro lo hi2 _ H6 ⟨k56, hl0, hl1, hl2, hl3, hl4⟩
      have k6 := k5.trans k56
      refine ⟨fun hlt => ?_, fun hlt => ?_⟩
      · simp only [decide_eq_true_eq] at hlt
        refine ⟨by omega, by omega, ?_⟩
        obtain ⟨y, b2, o2, hy2, rfl, s0, s1, s2, s3, s4⟩ := (rb.keeps isBlk.mono (k35.trans k56)).at (i := (lo + hi2) / 2) (by omega) (by omega)
        simp -zeta only [xL (k56.cel d1), xA, xS s3]
        refine ⟨by omega, HCalls.mono (f93.spec φ y.cut (key64 key) s4 H6) ?_⟩
        rintro v H7 ⟨rfl, rfl⟩
        refine ⟨_, rfl, ?_⟩
        have hc := hcnt _ _ hy2
        rw [← cutLess_cmp] at hc
        refine ⟨fun lo2 hi3 H' => H' = H7 ∧ 0 ≤ lo2 ∧ lo2 ≤ hi3 ∧ hi3 ≤ Bn ∧ lo2 ≤ cntL (key64 key) x.bs ∧ cntL (key64 key) x.bs ≤ hi3 ∧ (hi3 - lo2).toNat < (hi2 - lo).toNat, ⟨fun h => ⟨by omega, ?_⟩, fun h => ?_⟩, ?_⟩
        · rw [h] at hc
          have hc := of_decide_eq_true hc.symm
          exact ⟨rfl, by omega, by omega, by omega, by omega, by omega, by omega⟩
        · rw [h] at hc
          have hc := of_decide_eq_false hc.symm
          exact ⟨rfl, by omega, by omega, by omega, by omega, by omega, by omega⟩
        · rintro lo2 hi3 _ H8 ⟨rfl, g1, g2, g3, g4, g5, g6⟩
          exact ⟨⟨k56, g1, g2, g3, g4, g5⟩, g6⟩
      · simp only [decide_eq_false_iff_not] at hlt
        refine ⟨by omega, ?_, k1.trans k6⟩
        rw [← hf, lastL_spec x.bs _ hs]
        have : max (lo - 1) 0 = if cntL (key64 key) x.bs = 0 then (0 : Int) else 0 + cntL (key64 key) x.bs - 1 := by split <;> omega
        rw [this]
  · simp only [decide_eq_false_iff_not] at hi
    have hd : xs.drop i.toNat = [] := List.drop_eq_nil_of_le (by rw [hr.1]; omega)
    rw [hd, findP] at hf
    rw [← hf]
    exact ⟨rfl, k1.trans k3⟩
end Go.Proofs.Ytkkjjjgcfnhabaa.Eng
namespace Go.Proofs.Ytkkjjjgcfnhabaa.Eng
open Go Go.Proofs
theorem f49.spec (φ : Fx) (A B : Option Addr) (n m c d : Nat) (xs ys : List Int) (H : Hp) (hx : bytesR H A n xs) (hy : bytesR H B m ys) (hn : n ≤ 140737488351232) :
    HCalls cx.P φ 49 [.slice A n c, .slice B m d] H fun v H' => v = .bool (decide (xs = ys)) ∧ H' = H := by
  apply f49.of
  unfold f49.VC
  refine ⟨fun h => ⟨?_, rfl⟩, fun h => ?_⟩
  · simp only [Bool.not_eq_true', decide_eq_false_iff_not] at h
    have : xs ≠ ys := fun e => h (by rw [← hx.1, ← hy.1, e])
    simp [this]
  simp only [Bool.not_eq_false', decide_eq_true_eq] at h
  have hl : n = m := by omega
  subst hl
  refine ⟨fun i H' => H' = H ∧ 0 ≤ i ∧ i ≤ n ∧ decide (xs.drop i.toNat = ys.drop i.toNat) = decide (xs = ys), fun i _ => (n - i).toNat, ⟨rfl, by omega, by omega, by simp⟩, ?_⟩
  rintro i _ H' ⟨rfl, h0, h1, he⟩
  refine ⟨fun hi => ?_, fun hi => ?_⟩
  · simp only [decide_eq_true_eq] at hi
    obtain ⟨x, b, o, hx1, rfl, cx, _⟩ := hx.at h0 hi
    obtain ⟨y, b2, o2, hy1, rfl, cy, _⟩ := hy.at h0 hi
    rw [drop_at hx1, drop_at hy1] at he
    simp only [xA, xI cx, xI cy]
    refine ⟨⟨h0, hi⟩, ⟨h0, hi⟩, fun hne => ⟨?_, trivial⟩, fun heq => ⟨by omega, ⟨trivial, by omega, by omega, ?_⟩, by omega⟩⟩
    · rw [← he]; simp at hne; simp [hne]
    · rw [← he, show (i + 1).toNat = i.toNat + 1 by omega]; simp at heq; simp [heq]
  · simp only [decide_eq_false_iff_not] at hi
    rw [List.drop_eq_nil_of_le (by rw [hx.1]; omega), List.drop_eq_nil_of_le (by rw [hy.1]; omega)] at he
    rw [← he]; exact ⟨by simp, rfl⟩
theorem f142.same (φ : Fx) (all : Bool) (hs : Int) (A B : Option Addr) (n m c d : Nat) (xs : List Int) (H : Hp) (hx : bytesR H A n xs) (hy : bytesR H B m xs) (hn : n ≤ 140737488351232) :
    HCalls cx.P φ 142 [.agg #[.bool all, .int .i64 hs, .slice A n c], .agg #[.bool all, .int .i64 hs, .slice B m d]] H fun v H' => v = .bool true ∧ Keeps H H' := by
  apply f142.of
  unfold f142.VC
  intro H1
  have a0 : cel H1 H.size 0 = some (.bool all) := cel_new ..
  have a1 : cel H1 H.size (0 + 1) = some (.int .i64 hs) := cel_new ..
  have a2 : cel H1 H.size (0 + 2) = some (.slice A n c) := cel_new ..
  have k1 : Keeps H H1 := Keeps.push ..
  clear_value H1
  intro H2
  have e0 : cel H2 H1.size 0 = some (.bool all) := cel_new ..
  have e1 : cel H2 H1.size (0 + 1) = some (.int .i64 hs) := cel_new ..
  have e2 : cel H2 H1.size (0 + 2) = some (.slice B m d) := cel_new ..
  have k12 : Keeps H1 H2 := Keeps.push ..
  clear_value H2
  have k2 := k1.trans k12
  refine join1 true H2 ?_ ?_
  · simp only [xB (k12.cel a0), xI (k12.cel a1), xL (k12.cel a2), xB e0, xI e1, xL e2]
    refine ⟨fun _ => ⟨fun _ => HCalls.mono (f49.spec φ A B n m c d xs xs H2 (hx.keeps isU8.mono k2) (hy.keeps isU8.mono k2) hn) ?_, fun h => by simp at h⟩, fun h => by simp at h⟩
    rintro v H' ⟨rfl, rfl⟩
    exact ⟨_, rfl, by simp, rfl⟩
  intro _
  exact ⟨rfl, k2⟩
theorem fit150 (a b c a2 b2 c2 : Int) (s t : ByteArray) : fitW cx 150 [.int .i64 a, .int .i64 b, .int .i64 c, .string s] [.int .i64 a2, .int .i64 b2, .int .i64 c2, .string t] = (((IntKind.i64 = IntKind.i64) ∧ (IntKind.i64 = IntKind.i64) ∧ (IntKind.i64 = IntKind.i64) ∧ True) ∧ ((IntKind.i64 = IntKind.i64) ∧ (IntKind.i64 = IntKind.i64) ∧ (IntKind.i64 = IntKind.i64) ∧ True)) := by kernel_rfl
theorem f143.same (φ : Fx) (A B : Option Addr) (n m c d : Nat) (xs : List Blk) (H : Hp) (hx : rowR isBlk 4 H A n xs) (hy : rowR isBlk 4 H B m xs) (hn : n ≤ 140737488351232) :
    HCalls cx.P φ 143 [.slice A n c, .slice B m d] H fun v H' => v = .bool true ∧ H' = H := by
  apply f143.of
  unfold f143.VC
  have hl : n = m := by rw [← hx.1, ← hy.1]
  subst hl
  refine ⟨fun h => by simp at h, fun _ => ?_⟩
  refine ⟨fun i H' => H' = H ∧ 0 ≤ i ∧ i ≤ n, fun i _ => (n - i).toNat, ⟨rfl, by omega, by omega⟩, ?_⟩
  rintro i _ H' ⟨rfl, h0, h1⟩
  refine ⟨fun hi => ?_, fun hi => ⟨rfl, rfl⟩⟩
  simp only [decide_eq_true_eq] at hi
  obtain ⟨x, b, o, hx1, rfl, s0, s1, s2, s3, _⟩ := hx.at h0 hi
  obtain ⟨y, b2, o2, hy1, rfl, t0, t1, t2, t3, _⟩ := hy.at h0 hi
  rw [hx1] at hy1; cases hy1
  simp only [xA, xI s0, xI s1, xI s2, xS s3, xI t0, xI t1, xI t2, xS t3, fit150]
  simp
  omega
theorem f78.same (φ : Fx) (parts : Int) (A B : Option Addr) (n m c d : Nat) (xs : List PI) (H : Hp) (hx : rowR isPI 5 H A n xs) (hy : rowR isPI 5 H B m xs) (hn : n ≤ 140737488351232) :
    HCalls cx.P φ 78 [.agg #[.int .i64 parts, .slice A n c], .agg #[.int .i64 parts, .slice B m d]] H fun v H' => v = .bool true ∧ Keeps H H' := by
  apply f78.of
  unfold f78.VC
  intro H1
  have a0 : cel H1 H.size 0 = some (.int .i64 parts) := cel_new ..
  have a1 : cel H1 H.size (0 + 1) = some (.slice A n c) := cel_new ..
  have k1 : Keeps H H1 := Keeps.push ..
  clear_value H1
  intro H2
  have e0 : cel H2 H1.size 0 = some (.int .i64 parts) := cel_new ..
  have e1 : cel H2 H1.size (0 + 1) = some (.slice B m d) := cel_new ..
  have k12 : Keeps H1 H2 := Keeps.push ..
  clear_value H2
  have k2 := k1.trans k12
  have a0 := k12.cel a0
  have a1 := k12.cel a1
  have hl : n = m := by rw [← hx.1, ← hy.1]
  subst hl
  refine join1 false H2 ?_ ?_
  · simp only [xI a0, xL a1, xI e0, xL e1]; simp
  intro _
  refine ⟨fun h => (nomatch h), fun _ => ?_⟩
  refine ⟨fun i H' => Keeps H2 H' ∧ 0 ≤ i ∧ i ≤ n, fun i _ => (n - i).toNat, ⟨Keeps.refl _, by omega, by omega⟩, ?_⟩
  rintro i _ H4 ⟨k4, h0, h1⟩
  simp -zeta only [xL (k4.cel a1)]
  refine ⟨fun hi => ?_, fun hi => ⟨trivial, k2.trans k4⟩⟩
  simp only [decide_eq_true_eq] at hi
  obtain ⟨x, b, o, hx1, rfl, BA, Bn, Bc, DA, Dn, Dc, c0, c1, c2, c3, c4, rb, rd, bn, dn⟩ := (hx.keeps isPI.mono (k2.trans k4)).at h0 hi
  obtain ⟨y, b2, o2, hy1, rfl, BA2, Bn2, Bc2, DA2, Dn2, Dc2, d0, d1, d2, d3, d4, rb2, rd2, bn2, dn2⟩ := (hy.keeps isPI.mono (k2.trans k4)).at h0 hi
  rw [hx1] at hy1; cases hy1
  have c3 : cel H4 b (o + i.toNat * 5 + 2 + 1) = some (.int .i64 x.hs) := c3
  have c4 : cel H4 b (o + i.toNat * 5 + 2 + 2) = some (.slice DA Dn Dc) := c4
  have d3 : cel H4 b2 (o2 + i.toNat * 5 + 2 + 1) = some (.int .i64 x.hs) := d3
  have d4 : cel H4 b2 (o2 + i.toNat * 5 + 2 + 2) = some (.slice DA2 Dn2 Dc2) := d4
  refine joinR (fun y H' => y = false ∧ Keeps H4 H') ?_ ?_
  · simp -zeta only [xA, xI c0, xB c2, xI c3, xL c4, xI d0, xB d2, xI d3, xL d4, xL (k4.cel e1)]
    refine ⟨⟨h0, hi⟩, ⟨h0, hi⟩, fun h => by simp at h, fun _ => ⟨⟨h0, hi⟩, ⟨h0, hi⟩, ?_⟩⟩
    refine HCalls.mono (f142.same φ x.all x.hs DA DA2 Dn Dn2 Dc Dc2 x.data H4 rd rd2 dn) ?_
    rintro v H5 ⟨rfl, k5⟩
    refine ⟨_, rfl, fun h => by simp at h, fun _ => ?_⟩
    simp -zeta only [xL (k5.cel (k4.cel a1)), xL (k5.cel (k4.cel e1)), xA, xL (k5.cel c1), xL (k5.cel d1)]
    refine ⟨⟨h0, hi⟩, ⟨h0, hi⟩, ?_⟩
    refine HCalls.mono (f143.same φ BA BA2 Bn Bn2 Bc Bc2 x.bs H5 (rb.keeps isBlk.mono k5) (rb2.keeps isBlk.mono k5) (by omega)) ?_
    rintro v H6 ⟨rfl, rfl⟩
    exact ⟨_, rfl, rfl, k5⟩
  rintro y _ H7 ⟨rfl, k7⟩
  exact ⟨fun h => (nomatch h), fun _ => ⟨by omega, ⟨k4.trans k7, by omega, by omega⟩, by omega⟩⟩
end Go.Proofs.Ytkkjjjgcfnhabaa.Eng
namespace Go.Proofs.Ytkkjjjgcfnhabaa.Eng
open Go Go.Proofs
/-! ### The three appends of this seat -/
theorem app59 {H : Hp} {base : Nat} {A : Option Addr} {n c : Nat} {vs : List Value} (h : ownC H base 5 1 A n c vs) {B : Option Addr} {m d : Nat} {ys : List Value} (hs : rdC H B (m * 1) ys)
    (hv : ∀ v ∈ ys, v.oneCell' = true) (hn : (n + m) * 1 ≤ 140737488355328) (hbase : base ≤ H.size) {K : Value → Hp → Prop}
    (hK : ∀ A' c' H', ownC H' base 5 1 A' (n + m) c' (vs ++ ys) → offA A H H' → (A' = A ∨ A' = some ⟨H.size, 0, none⟩) → (m = 0 ∨ A' ≠ none) → K (.slice A' (n + m) c') H') :
    appW cx 59 59 (.slice A n c) (.slice B m d) H K :=
  app_own (i := ⟨59, .slc 5, 1, 24, [.slice none 0 0], [.slc], [(false, [.slc])], false⟩) (e := 5) (ie := ⟨5, .int .u8, 1, 1, [.int .u8 0], [.int .u8], [(false, [.int .u8])], false⟩) rfl rfl rfl rfl h (show srcC H 1 (.slice B m d) m ys from ⟨rfl, hs⟩) hs.1 hv hn hbase hK
theorem app142 {H : Hp} {base : Nat} {A : Option Addr} {n c : Nat} {vs : List Value} (h : ownC H base 150 4 A n c vs) {B : Option Addr} {m d : Nat} {ys : List Value} (hs : rdC H B (m * 4) ys)
    (hv : ∀ v ∈ ys, v.oneCell' = true) (hn : (n + m) * 40 ≤ 140737488355328) (hbase : base ≤ H.size) {K : Value → Hp → Prop}
    (hK : ∀ A' c' H', ownC H' base 150 4 A' (n + m) c' (vs ++ ys) → offA A H H' → (A' = A ∨ A' = some ⟨H.size, 0, none⟩) → (m = 0 ∨ A' ≠ none) → K (.slice A' (n + m) c') H') :
    appW cx 142 142 (.slice A n c) (.slice B m d) H K :=
  app_own (i := ⟨142, .slc 150, 1, 24, [.slice none 0 0], [.slc], [(false, [.slc])], false⟩) (e := 150) (ie := ⟨150, .st [(0, 1, false), (1, 1, false), (2, 1, false), (3, 1, false)], 4, 40, [.int .i64 0, .int .i64 0, .int .i64 0, .string ⟨#[]⟩], [.int .i64, .int .i64, .int .i64, .str], [(true, [.int .i64, .int .i64, .int .i64, .str])], false⟩) rfl rfl rfl rfl h (show srcC H 4 (.slice B m d) m ys from ⟨rfl, hs⟩) hs.1 hv hn hbase hK
theorem app22 {H : Hp} {base : Nat} {A : Option Addr} {n c : Nat} {vs : List Value} (h : ownC H base 146 5 A n c vs) {B : Option Addr} {m d : Nat} {ys : List Value} (hs : rdC H B (m * 5) ys)
    (hv : ∀ v ∈ ys, v.oneCell' = true) (hn : (n + m) * 72 ≤ 140737488355328) (hbase : base ≤ H.size) {K : Value → Hp → Prop}
    (hK : ∀ A' c' H', ownC H' base 146 5 A' (n + m) c' (vs ++ ys) → offA A H H' → (A' = A ∨ A' = some ⟨H.size, 0, none⟩) → (m = 0 ∨ A' ≠ none) → K (.slice A' (n + m) c') H') :
    appW cx 22 22 (.slice A n c) (.slice B m d) H K :=
  app_own (i := ⟨22, .slc 146, 1, 24, [.slice none 0 0], [.slc], [(false, [.slc])], false⟩) (e := 146) (ie := ⟨146, .st [(0, 1, false), (1, 1, false), (2, 3, true)], 5, 72, [.int .i64 0, .slice none 0 0, .bool false, .int .i64 0, .slice none 0 0], [.int .i64, .slc, .bool, .int .i64, .slc], [(true, [.int .i64, .slc, .bool, .int .i64, .slc])], false⟩) rfl rfl rfl rfl h (show srcC H 5 (.slice B m d) m ys from ⟨rfl, hs⟩) hs.1 hv hn hbase hK
/-! ### Rows as cells -/
theorem rdC_new (H : Hp) (vs : List Value) (t : TypeId) (fr : Nat × Nat) (m : Nat) (h : vs.length = m) : rdC (H.push (.cells vs.toArray t fr)) (some ⟨H.size, 0, none⟩) m vs :=
  ⟨h, fun _ => ⟨H.size, 0, rfl, fun j v hv => by rw [Nat.zero_add, cel_new]; simpa using hv⟩⟩
theorem flatMap_get {α β : Type} (f : α → List β) (sz : Nat) : ∀ (xs : List α), (∀ x ∈ xs, (f x).length = sz) → (xs.flatMap f).length = xs.length * sz ∧
    ∀ j v, (xs.flatMap f)[j]? = some v → ∃ i r x, xs[i]? = some x ∧ j = i * sz + r ∧ r < sz ∧ (f x)[r]? = some v
  | [], _ => ⟨by simp, fun j v h => by simp at h⟩
  | x :: xs, h => by
    obtain ⟨h1, h2⟩ := flatMap_get f sz xs fun y hy => h y (List.mem_cons_of_mem _ hy)
    have hx := h x List.mem_cons_self
    refine ⟨by simp only [List.flatMap_cons, List.length_append, hx, h1, List.length_cons, Nat.add_mul]; omega, fun j v hj => ?_⟩
    rw [List.flatMap_cons] at hj
    by_cases hl : j < sz
    · rw [List.getElem?_append_left (by omega)] at hj
      exact ⟨0, j, x, rfl, by omega, hl, hj⟩
    · rw [List.getElem?_append_right (by omega), hx] at hj
      obtain ⟨i, r, y, e1, e2, e3, e4⟩ := h2 _ _ hj
      exact ⟨i + 1, r, y, by simpa using e1, by rw [Nat.add_mul]; omega, e3, e4⟩
theorem flatMap_at {α β : Type} (f : α → List β) (sz : Nat) : ∀ (xs : List α), (∀ x ∈ xs, (f x).length = sz) → ∀ (i : Nat) (x : α), xs[i]? = some x → ∀ (r : Nat) (v : β), (f x)[r]? = some v → (xs.flatMap f)[i * sz + r]? = some v
  | y :: xs, h, 0, x, hx, r, v, hv => by
    simp at hx; subst hx
    rw [List.flatMap_cons, List.getElem?_append_left (by have := (List.getElem?_eq_some_iff.1 hv).1; omega)]
    simpa using hv
  | y :: xs, h, i + 1, x, hx, r, v, hv => by
    simp at hx
    have hy := h y List.mem_cons_self
    rw [List.flatMap_cons, List.getElem?_append_right (by rw [hy, Nat.add_mul]; omega), hy]
    rw [show (i + 1) * sz + r - sz = i * sz + r by rw [Nat.add_mul]; omega]
    exact flatMap_at f sz xs (fun z hz => h z (List.mem_cons_of_mem _ hz)) i x hx r v hv
/-- A row as its cells. -/
theorem rowR.rd {α : Type} {E : Hp → Nat → Nat → α → Prop} {sz : Nat} (enc : α → List Value) (hl : ∀ x, (enc x).length = sz) (hE : ∀ H b o x, E H b o x → ∀ r v, (enc x)[r]? = some v → cel H b (o + r) = some v)
    {H : Hp} {A : Option Addr} {n : Nat} {xs : List α} (h : rowR E sz H A n xs) : rdC H A (n * sz) (xs.flatMap enc) := by
  obtain ⟨h1, h2⟩ := flatMap_get enc sz xs fun x _ => hl x
  refine ⟨by rw [h1, h.1], fun hp => ?_⟩
  have hn : 0 < n := by rcases Nat.eq_zero_or_pos n with e | e; (rw [e] at hp; omega); exact e
  obtain ⟨x0, hx0⟩ : ∃ x0, xs[0]? = some x0 := ⟨_, List.getElem?_eq_getElem (by rw [h.1]; exact hn)⟩
  obtain ⟨b, o, hA, _⟩ := h.2 0 x0 hx0
  refine ⟨b, o, hA, fun j v hj => ?_⟩
  obtain ⟨i, r, x, e1, e2, e3, e4⟩ := h2 j v hj
  obtain ⟨b2, o2, hA2, hx⟩ := h.2 i x e1
  rw [hA] at hA2; cases hA2
  have := hE _ _ _ _ hx r v e4
  rw [e2, ← Nat.add_assoc]; exact this
theorem ownC.row {α : Type} {E : Hp → Nat → Nat → α → Prop} {sz : Nat} (enc : α → List Value) (hl : ∀ x, (enc x).length = sz)
    {H : Hp} {base : Nat} {t : TypeId} {A : Option Addr} {n c : Nat} {xs : List α} (h : ownC H base t sz A n c (xs.flatMap enc)) (hs : 0 < sz)
    (hE : ∀ b o x, x ∈ xs → (∀ r v, (enc x)[r]? = some v → cel H b (o + r) = some v) → E H b o x) : rowR E sz H A n xs := by
  obtain ⟨h1, h2⟩ := flatMap_get enc sz xs fun x _ => hl x
  have hlen : xs.length = n := by
    have := h.1; rw [h1] at this; exact Nat.eq_of_mul_eq_mul_right hs this
  refine ⟨hlen, fun i x hx => ?_⟩
  have hi : i < n := by rw [← hlen]; exact (List.getElem?_eq_some_iff.1 hx).1
  have hpos : 0 < n * sz := Nat.mul_pos (by omega) hs
  obtain ⟨b, o, e, hc⟩ := h.rd.2 hpos
  refine ⟨b, o, e, hE _ _ _ (List.mem_iff_getElem?.2 ⟨i, hx⟩) fun r v hv => ?_⟩
  have := hc (i * sz + r) v (flatMap_at enc sz xs (fun x _ => hl x) i x hx r v hv)
  rw [← Nat.add_assoc] at this; exact this
def encB (x : Blk) : List Value := [.int .i64 x.st, .int .i64 x.raw, .int .i64 x.cnt, .string x.cut]
def encU (x : Int) : List Value := [.int .u8 x]
theorem encB_rd : ∀ H b o x, isBlk H b o x → ∀ r v, (encB x)[r]? = some v → cel H b (o + r) = some v := by
  intro H b o x h r v hv
  match r, hv with
  | 0, hv => simp [encB] at hv; subst hv; exact h.1
  | 1, hv => simp [encB] at hv; subst hv; exact h.2.1
  | 2, hv => simp [encB] at hv; subst hv; exact h.2.2.1
  | 3, hv => simp [encB] at hv; subst hv; exact h.2.2.2.1
theorem encB_is {H : Hp} {b o : Nat} {x : Blk} (hx : x.cut.size ≤ 140737488351232) (h : ∀ r v, (encB x)[r]? = some v → cel H b (o + r) = some v) : isBlk H b o x :=
  ⟨h 0 _ rfl, h 1 _ rfl, h 2 _ rfl, h 3 _ rfl, hx⟩
theorem encU_rd : ∀ H b o x, isU8 H b o x → ∀ r v, (encU x)[r]? = some v → cel H b (o + r) = some v := by
  intro H b o x h r v hv
  match r, hv with
  | 0, hv => simp [encU] at hv; subst hv; exact h.1
theorem encU_is {H : Hp} {b o : Nat} {x : Int} (hx : 0 ≤ x ∧ x < 256) (h : ∀ r v, (encU x)[r]? = some v → cel H b (o + r) = some v) : isU8 H b o x := ⟨h 0 _ rfl, hx⟩
end Go.Proofs.Ytkkjjjgcfnhabaa.Eng
namespace Go.Proofs.Ytkkjjjgcfnhabaa.Eng
open Go Go.Proofs
structure RPI where
  part : Int
  bb : Nat
  Bn : Nat
  Bc : Nat
  all : Bool
  hs : Int
  db : Nat
  Dn : Nat
  Dc : Nat
def encR (r : RPI) : List Value := [.int .i64 r.part, .slice (some ⟨r.bb, 0, none⟩) r.Bn r.Bc, .bool r.all, .int .i64 r.hs, .slice (some ⟨r.db, 0, none⟩) r.Dn r.Dc]
def markB : Blk := ⟨-9, 0, 0, ⟨#[]⟩⟩
def markP : List Value := [.int .i64 (-9), .slice none 0 0, .bool false, .int .i64 0, .slice none 0 0]
structure Tw (H : Hp) (base : Nat) (x : PI) (r : RPI) : Prop where
  part : r.part = x.part
  all : r.all = x.all
  hs : r.hs = x.hs
  Bn : r.Bn = x.bs.length
  Dn : r.Dn = x.data.length
  bo : ownC H base 150 4 (some ⟨r.bb, 0, none⟩) (r.Bn + 1) r.Bc ((x.bs ++ [markB]).flatMap encB)
  dO : ownC H base 5 1 (some ⟨r.db, 0, none⟩) (r.Dn + 2) r.Dc ((x.data ++ [209, 210]).flatMap encU)
  cuts : ∀ y ∈ x.bs, y.cut.size ≤ 140737488351232
  u8 : ∀ y ∈ x.data, 0 ≤ y ∧ y < 256
  bnd : r.Bn ≤ 3518437208783 ∧ r.Dn ≤ 140737488351232
theorem ownC.base_le {H : Hp} {base base' : Nat} {t : TypeId} {sz : Nat} {A : Option Addr} {n c : Nat} {vs : List Value} (h : ownC H base t sz A n c vs) (hb : base' ≤ base) : ownC H base' t sz A n c vs := by
  obtain ⟨h1, h2, h | ⟨b, cs, h3, h4⟩⟩ := h
  · exact ⟨h1, h2, Or.inl h⟩
  · exact ⟨h1, h2, Or.inr ⟨b, cs, Nat.le_trans hb h3, h4⟩⟩
theorem Tw.base_le {H : Hp} {base base' : Nat} {x : PI} {r : RPI} (h : Tw H base x r) (hb : base' ≤ base) : Tw H base' x r :=
  { h with bo := h.bo.base_le hb, dO := h.dO.base_le hb }
theorem Tw.keeps {H H' : Hp} {base : Nat} {x : PI} {r : RPI} (h : Tw H base x r) (k : Keeps H H') : Tw H' base x r :=
  { h with bo := h.bo.keeps k, dO := h.dO.keeps k }
theorem Tw.off {H H' : Hp} {base base' : Nat} {x : PI} {r : RPI} (h : Tw H base x r) {A : Option Addr} {n c : Nat} {vs : List Value} (ho : ownC H base' 146 5 A n c vs) (k : offA A H H') : Tw H' base x r :=
  { h with bo := h.bo.off ho (by decide) k, dO := h.dO.off ho (by decide) k }
structure Tws (H : Hp) (base : Nat) (xs : List PI) (rs : List RPI) : Prop where
  len : rs.length = xs.length
  each : ∀ (i : Nat) (x : PI) (r : RPI), xs[i]? = some x → rs[i]? = some r → Tw H base x r
  ord : ∀ (i j : Nat) (r s : RPI), i < j → rs[i]? = some r → rs[j]? = some s → r.bb < s.bb
theorem offA_none {H H' : Hp} (h : offA none H H') : Keeps H H' := ⟨h.1, fun k hk => h.2 k hk (by simp)⟩
theorem flat_one {α : Type} (enc : α → List Value) (hv : ∀ x, ∀ v ∈ enc x, v.oneCell' = true) (xs : List α) : ∀ v ∈ xs.flatMap enc, v.oneCell' = true := by
  intro v h
  obtain ⟨x, _, hx⟩ := List.mem_flatMap.1 h
  exact hv x v hx
theorem encB_one (x : Blk) : ∀ v ∈ encB x, v.oneCell' = true := by simp [encB, Value.oneCell']
theorem encU_one (x : Int) : ∀ v ∈ encU x, v.oneCell' = true := by simp [encU, Value.oneCell']
theorem encR_one (x : RPI) : ∀ v ∈ encR x, v.oneCell' = true := by simp [encR, Value.oneCell']
theorem Tws.snoc {H : Hp} {base : Nat} {xs : List PI} {rs : List RPI} {x : PI} {r : RPI} (h : Tws H base xs rs) (ht : Tw H base x r) (hb : ∀ s ∈ rs, s.bb < r.bb) : Tws H base (xs ++ [x]) (rs ++ [r]) where
  len := by simp [h.len]
  each := by
    intro i y s hy hs
    by_cases hi : i < xs.length
    · rw [List.getElem?_append_left hi] at hy
      rw [List.getElem?_append_left (by rw [h.len]; exact hi)] at hs
      exact h.each i y s hy hs
    · rw [List.getElem?_append_right (by omega)] at hy
      rw [List.getElem?_append_right (by rw [h.len]; omega), h.len] at hs
      have : i - xs.length = 0 := by
        have := (List.getElem?_eq_some_iff.1 hy).1; simp at this; omega
      rw [this] at hy hs; simp at hy hs; subst hy; subst hs; exact ht
  ord := by
    intro i j s t hij hs ht'
    by_cases hj : j < rs.length
    · rw [List.getElem?_append_left hj] at ht'
      rw [List.getElem?_append_left (by omega)] at hs
      exact h.ord i j s t hij hs ht'
    · rw [List.getElem?_append_right (by omega)] at ht'
      have hj0 : j - rs.length = 0 := by
        have := (List.getElem?_eq_some_iff.1 ht').1; simp at this; omega
      rw [hj0] at ht'; simp at ht'; subst ht'
      rw [List.getElem?_append_left (by omega)] at hs
      exact hb s (List.mem_iff_getElem?.2 ⟨i, hs⟩)
theorem Tws.map {H H' : Hp} {base base' : Nat} {xs : List PI} {rs : List RPI} (h : Tws H base xs rs) (f : ∀ x r, Tw H base x r → Tw H' base' x r) : Tws H' base' xs rs :=
  ⟨h.len, fun i x r hx hr => f x r (h.each i x r hx hr), h.ord⟩
structure twinR (H : Hp) (base : Nat) (A : Option Addr) (n c : Nat) (xs : List PI) : Prop where
  len : xs.length = n
  bound : n * 72 ≤ 140737488351232
  has : ∃ rs, ownC H base 146 5 A (n + 1) c (rs.flatMap encR ++ markP) ∧ Tws H base xs rs
theorem f18.spec (φ : Fx) (parts : Int) (A : Option Addr) (n c : Nat) (xs : List PI) (H : Hp) (hr : rowR isPI 5 H A n xs) (hn : n * 72 ≤ 140737488351232) :
    HCalls cx.P φ 18 [.agg #[.int .i64 parts, .slice A n c]] H fun v H' => ∃ A' c', v = .agg #[.int .i64 parts, .slice A' n c'] ∧ Keeps H H' ∧ twinR H' H.size A' n c' xs := by
  apply f18.of
  unfold f18.VC
  intro H1
  have o1 : objAt H1 H.size #[.int .i64 parts, .slice A n c] 24 := objAt_new ..
  have k1 : Keeps H H1 := Keeps.push ..
  have z1 : H1.size = H.size + 1 := by simp [H1]
  clear_value H1
  intro H2
  have o2 : objAt H2 H1.size #[.int .i64 0, .slice none 0 0] 24 := objAt_new ..
  have k12 : Keeps H1 H2 := Keeps.push ..
  have z2 : H2.size = H1.size + 1 := by simp [H2]
  clear_value H2
  have o1 := k12.obj o1
  have e1 : cel H2 H.size (0 + 1) = some (.slice A n c) := by rw [objAt_cel o1]; rfl
  have k2 : Keeps H H2 := k1.trans k12
  refine ⟨fun lA ln lc i H3 => Keeps H2 H3 ∧ 0 ≤ i ∧ i ≤ n ∧ ln = i.toNat ∧ ∃ rs, ownC H3 H2.size 146 5 lA ln lc (rs.flatMap encR) ∧ Tws H3 H2.size (xs.take i.toNat) rs,
    fun _ _ _ i _ => (n - i).toNat, ⟨Keeps.refl _, by omega, by omega, rfl, [], ownC_nil .., ⟨by simp, fun i x r h => by simp at h, fun i j r s _ h => by simp at h⟩⟩, ?_⟩
  rintro lA ln lc i _ H3 ⟨k3, h0, hi0, rfl, rs, own, tws⟩
  simp -zeta only [xL (k3.cel e1)]
  refine ⟨fun hi => ?_, fun hi => ?_⟩
  · simp only [decide_eq_true_eq] at hi
    obtain ⟨x, b, o, hx, rfl, BA, Bn, Bc, DA, Dn, Dc, c0, c1, c2, c3, c4, rb, rd, bn, dn⟩ := (hr.keeps isPI.mono (k2.trans k3)).at h0 hi
    simp -zeta only [xA, xI c0, xL c1, xB c2, xI c3, xL c4]
    refine ⟨⟨h0, hi⟩, ?_⟩
    intro H4
    refine ⟨canPut_new _ _ _ _ _ (by simp) (by simp [Value.oneCell']), ?_⟩
    intro H5
    have hH5 : H5 = H3.push (.cells #[.int .i64 x.part, .slice BA Bn Bc, .bool x.all, .int .i64 x.hs, .slice DA Dn Dc] 146 (0, 0)) := hput_new _ _ _ _ _ (by simp)
    have o5 : objAt H5 H3.size #[.int .i64 x.part, .slice BA Bn Bc, .bool x.all, .int .i64 x.hs, .slice DA Dn Dc] 146 := by rw [hH5]; exact objAt_new ..
    have k35 : Keeps H3 H5 := by rw [hH5]; exact Keeps.push ..
    have z5 : H5.size = H3.size + 1 := by rw [hH5]; simp
    clear hH5
    clear_value H5 H4
    have d4 : cel H5 H3.size (0 + 2 + 2) = some (.slice DA Dn Dc) := by rw [objAt_cel o5]; rfl
    simp -zeta only [xL d4]
    -- the data, anew
    refine app59 (ownC_nil H5 H5.size 5 1) (rowR.rd encU (fun _ => rfl) encU_rd (rd.keeps isU8.mono k35)) (flat_one _ encU_one _) (by omega) (Nat.le_refl _) ?_
    intro A4 c4' H6 w6 f6 _ _
    refine ⟨_, _, _, rfl, ?_⟩
    have k56 := offA_none f6
    intro H7
    have k67 : Keeps H6 H7 := Keeps.push ..
    have s7 : rdC H7 (some ⟨H6.size, 0, none⟩) (2 * 1) [.int .u8 209, .int .u8 210] := rdC_new _ _ _ _ _ rfl
    clear_value H7
    refine app59 (w6.keeps k67) s7 (by simp [Value.oneCell']) (by omega) (by have := k56.size; have := k67.size; omega) ?_
    intro A5 c5 H8 w8 f8 _ ne8
    refine ⟨_, _, _, rfl, ?_⟩
    have k58 : Keeps H5 H8 := f8.keeps (k56.trans k67) fun b hb => (w6.lt hb).1
    have k38 := k35.trans k58
    have k8 := k3.trans k38
    have c4b : cel H8 b (o + i.toNat * 5 + 2 + 2) = some (.slice DA Dn Dc) := k38.cel c4
    simp -zeta only [xL (k8.cel e1), xA, xL c4b]
    have dle : Dn + 2 ≤ c5 := by have := w8.2.1; omega
    refine ⟨⟨h0, hi⟩, ⟨by omega, by omega⟩, objAt_canPut (k58.obj o5) (by simp) (by simp [Value.oneCell']), ?_⟩
    intro H9
    have o9 : objAt H9 H3.size #[.int .i64 x.part, .slice BA Bn Bc, .bool x.all, .int .i64 x.hs, .slice A5 Dn c5] 146 := objAt_hput (k58.obj o5) (0 + 2 + 2) _
    have k39 : Keeps H3 H9 := k38.hput (Nat.le_refl _)
    have w9 : ownC H9 H5.size 5 1 A5 (0 + Dn + 2) c5 ([] ++ x.data.flatMap encU ++ [.int .u8 209, .int .u8 210]) := w8.frame fun b' hb' => hput_other (by have := (w8.lt hb').1; omega)
    have z9 : H9.size = H8.size := hput_size ..
    clear_value H9
    have d1 : cel H9 H3.size (0 + 1) = some (.slice BA Bn Bc) := by rw [objAt_cel o9]; rfl
    simp -zeta only [xL d1]
    -- the blocks, anew
    refine app142 (ownC_nil H9 H9.size 150 4) (rowR.rd encB (fun _ => rfl) encB_rd (rb.keeps isBlk.mono k39)) (flat_one _ encB_one _) (by omega) (Nat.le_refl _) ?_
    intro A9 c9 H10 w10 f10 _ _
    refine ⟨_, _, _, rfl, ?_⟩
    have k910 := offA_none f10
    intro H11
    have k1011 : Keeps H10 H11 := Keeps.push ..
    have s11 : rdC H11 (some ⟨H10.size, 0, none⟩) (1 * 4) (encB markB) := rdC_new _ _ _ _ _ rfl
    clear_value H11
    refine app142 (w10.keeps k1011) s11 (encB_one _) (by omega) (by have := k910.size; have := k1011.size; omega) ?_
    intro A10 c10 H12 w12 f12 _ ne12
    refine ⟨_, _, _, rfl, ?_⟩
    have k912 : Keeps H9 H12 := f12.keeps (k910.trans k1011) fun b hb => (w10.lt hb).1
    have k312 := k39.trans k912
    have k12' := k3.trans k312
    have c1b : cel H12 b (o + i.toNat * 5 + 1) = some (.slice BA Bn Bc) := k312.cel c1
    simp -zeta only [xL (k12'.cel e1), xA, xL c1b]
    have ble : Bn + 1 ≤ c10 := by have := w12.2.1; omega
    refine ⟨⟨h0, hi⟩, ⟨by omega, by omega⟩, objAt_canPut (k912.obj o9) (by simp) (by simp [Value.oneCell']), ?_⟩
    intro H13
    have o13 : objAt H13 H3.size #[.int .i64 x.part, .slice A10 Bn c10, .bool x.all, .int .i64 x.hs, .slice A5 Dn c5] 146 := objAt_hput (k912.obj o9) (0 + 1) _
    have k313 : Keeps H3 H13 := k312.hput (Nat.le_refl _)
    have hs9 := k39.size
    have hs912 := k912.size
    have w13d : ownC H13 H5.size 5 1 A5 (0 + Dn + 2) c5 ([] ++ x.data.flatMap encU ++ [.int .u8 209, .int .u8 210]) := (w9.keeps k912).frame fun b' hb' => hput_other (by have := (w9.lt hb').1; omega)
    have w13b : ownC H13 H9.size 150 4 A10 (0 + Bn + 1) c10 ([] ++ x.bs.flatMap encB ++ encB markB) := w12.frame fun b' hb' => hput_other (by have := (w12.lt hb').1; have := k58.size; omega)
    have z13 : H13.size = H12.size := hput_size ..
    clear_value H13
    have p0 : cel H13 H3.size 0 = some (.int .i64 x.part) := by rw [objAt_cel o13]; rfl
    have p1 : cel H13 H3.size (0 + 1) = some (.slice A10 Bn c10) := by rw [objAt_cel o13]; rfl
    have p2 : cel H13 H3.size (0 + 2) = some (.bool x.all) := by rw [objAt_cel o13]; rfl
    have p3 : cel H13 H3.size (0 + 3) = some (.int .i64 x.hs) := by rw [objAt_cel o13]; rfl
    have p4 : cel H13 H3.size (0 + 4) = some (.slice A5 Dn c5) := by rw [objAt_cel o13]; rfl
    simp -zeta only [xI p0, xL p1, xB p2, xI p3, xL p4]
    intro H14
    have k1314 : Keeps H13 H14 := Keeps.push ..
    have k314 := k313.trans k1314
    -- where the two lists lie
    obtain ⟨db, hdb⟩ : ∃ db, A5 = some ⟨db, 0, none⟩ := by
      obtain ⟨_, _, q | ⟨b1, _, _, q, _⟩⟩ := w8
      · rcases ne8 with q2 | q2
        · omega
        · exact absurd q.1 q2
      · exact ⟨b1, q⟩
    obtain ⟨bb, hbb⟩ : ∃ bb, A10 = some ⟨bb, 0, none⟩ := by
      obtain ⟨_, _, q | ⟨b1, _, _, q, _⟩⟩ := w12
      · rcases ne12 with q2 | q2
        · omega
        · exact absurd q.1 q2
      · exact ⟨b1, q⟩
    have hbb9 := (w13b.lt hbb).1
    let r : RPI := ⟨x.part, bb, Bn, c10, x.all, x.hs, db, Dn, c5⟩
    have s14 : rdC H14 (some ⟨H13.size, 0, none⟩) (1 * 5) (encR r) := by
      have := rdC_new H13 (encR r) 146 (0, 0) 5 rfl
      simpa [encR, r, H14, hbb, hdb] using this
    clear_value H14
    have own14 := own.keeps k314
    refine app22 own14 s14 (encR_one _) (by omega) (by have := k3.size; have := k314.size; omega) ?_
    intro A13 c13 H15 w15 f15 _ _
    refine ⟨_, _, _, rfl, ?_⟩
    have k15 : Keeps H2 H15 := f15.keeps (k3.trans k314) fun b hb => (own14.lt hb).1
    refine ⟨by omega, ⟨k15, by omega, by omega, by omega, rs ++ [r], ?_, ?_⟩, by omega⟩
    · rw [show i.toNat + 1 = i.toNat + 1 from rfl, List.flatMap_append, List.flatMap_singleton]
      exact w15
    · rw [show (i + 1).toNat = i.toNat + 1 by omega, List.take_add_one, hx]
      refine Tws.snoc ((tws.map fun y s h => h.keeps k314).map fun y s h => h.off own14 f15) ?_ ?_
      · refine Tw.off ?_ own14 f15
        have hbs := rb.1
        have hds := rd.1
        exact {
          part := rfl, all := rfl, hs := rfl, Bn := hbs.symm, Dn := hds.symm
          bo := by
            have := (w13b.keeps k1314).base_le (base' := H2.size) (by have := k3.size; omega)
            rw [hbb] at this
            simpa [r, List.flatMap_append] using this
          dO := by
            have := (w13d.keeps k1314).base_le (base' := H2.size) (by have := k3.size; omega)
            rw [hdb] at this
            simpa [r, List.flatMap_append, encU] using this
          cuts := fun y hy => by
            obtain ⟨j, hj⟩ := List.mem_iff_getElem?.1 hy
            obtain ⟨_, _, _, _, _, _, _, q⟩ := rb.2 j y hj
            exact q
          u8 := fun y hy => by
            obtain ⟨j, hj⟩ := List.mem_iff_getElem?.1 hy
            obtain ⟨_, _, _, _, q⟩ := rd.2 j y hj
            exact q
          bnd := ⟨bn, dn⟩ }
      · intro s hs
        obtain ⟨j, hj⟩ := List.mem_iff_getElem?.1 hs
        have hjl : j < (xs.take i.toNat).length := by rw [← tws.len]; exact (List.getElem?_eq_some_iff.1 hj).1
        have := ((tws.each j _ s (List.getElem?_eq_getElem hjl) hj).bo.lt rfl).2
        show s.bb < bb
        omega
  · simp only [decide_eq_false_iff_not] at hi
    have hin : i = n := by omega
    intro H16
    have k316 : Keeps H3 H16 := Keeps.push ..
    have s16 : rdC H16 (some ⟨H3.size, 0, none⟩) (1 * 5) markP := rdC_new _ _ _ _ _ rfl
    clear_value H16
    have own16 := own.keeps k316
    refine app22 own16 s16 (by simp [markP, Value.oneCell']) (by omega) (by have := k3.size; have := k316.size; omega) ?_
    intro A14 c14 H17 w17 f17 _ _
    refine ⟨_, _, _, rfl, ?_⟩
    have k17 : Keeps H2 H17 := f17.keeps (k3.trans k316) fun b hb => (own16.lt hb).1
    have cle := w17.2.1
    refine ⟨by omega, by omega, objAt_canPut (k17.obj o1) (by simp) (by simp [Value.oneCell']), ?_⟩
    intro H18
    have hnat : Int.toNat (((i.toNat + 1 : Nat) : Int) - 1) = n := by omega
    have o18 : objAt H18 H.size #[.int .i64 parts, .slice A14 (Int.toNat (((i.toNat + 1 : Nat) : Int) - 1)) c14] 24 := objAt_hput (k17.obj o1) (0 + 1) _
    rw [hnat] at o18
    have o18r : objAt H18 H1.size #[.int .i64 0, .slice none 0 0] 24 := by
      unfold objAt; rw [hput_other (by omega)]; exact k17.obj o2
    have k18 : Keeps H H18 := (k2.trans k17).hput (Nat.le_refl _)
    have tw17 : Tws H17 H2.size xs rs := by
      have := (tws.map fun y s h => h.keeps k316).map fun y s h => h.off own16 f17
      rwa [List.take_of_length_le (by rw [hr.1]; omega)] at this
    have fr18 : ∀ k, H2.size ≤ k → H18[k]? = H17[k]? := fun k hk => hput_other (by omega)
    have z18 : H18.size = H17.size := hput_size ..
    clear_value H18
    have q0 : cel H18 H.size 0 = some (.int .i64 parts) := by rw [objAt_cel o18]; rfl
    have q1 : cel H18 H.size (0 + 1) = some (.slice A14 n c14) := by rw [objAt_cel o18]; rfl
    simp -zeta only [xI q0, xL q1]
    refine ⟨objAt_canPut o18r (by simp) (by simp [Value.oneCell']), ?_⟩
    intro H19
    have o19 : objAt H19 H1.size #[.int .i64 parts, .slice A14 n c14] 24 := objAt_hput o18r 0 _
    have k19 : Keeps H H19 := k18.hput (by omega)
    have fr19 : ∀ k, H2.size ≤ k → H19[k]? = H17[k]? := fun k hk => by rw [← fr18 k hk]; exact hput_other (by omega)
    clear_value H19
    have t0 : cel H19 H1.size 0 = some (.int .i64 parts) := by rw [objAt_cel o19]; rfl
    have t1 : cel H19 H1.size (0 + 1) = some (.slice A14 n c14) := by rw [objAt_cel o19]; rfl
    simp only [xI t0, xL t1]
    refine ⟨A14, c14, rfl, k19, ⟨hr.1, hn, rs, ?_, ?_⟩⟩
    · rw [show i.toNat + 1 = n + 1 by omega] at w17
      exact (w17.frame fun b hb => fr19 b (w17.lt hb).1).base_le k2.size
    · exact tw17.map fun y s h => ({ h with bo := h.bo.frame fun b hb => fr19 b (h.bo.lt hb).1, dO := h.dO.frame fun b hb => fr19 b (h.dO.lt hb).1 } : Tw H19 H2.size y s).base_le k2.size
end Go.Proofs.Ytkkjjjgcfnhabaa.Eng
namespace Go.Proofs.Ytkkjjjgcfnhabaa.Eng
open Go Go.Proofs
theorem rowR.pre {α : Type} {E : Hp → Nat → Nat → α → Prop} {sz : Nat} {H : Hp} {A : Option Addr} {n m : Nat} {xs ys : List α} (h : rowR E sz H A n (xs ++ ys)) (hl : xs.length = m) : rowR E sz H A m xs :=
  ⟨hl, fun i x hx => h.2 i x (by rw [List.getElem?_append_left (List.getElem?_eq_some_iff.1 hx).1]; exact hx)⟩
theorem Tw.blks {H : Hp} {base : Nat} {x : PI} {r : RPI} (h : Tw H base x r) : rowR isBlk 4 H (some ⟨r.bb, 0, none⟩) (r.Bn + 1) (x.bs ++ [markB]) :=
  ownC.row encB (fun _ => rfl) h.bo (by decide) fun b o y hy hc => encB_is (by
    rcases List.mem_append.1 hy with q | q
    · exact h.cuts y q
    · simp at q; subst q; exact Nat.zero_le _) hc
theorem Tw.bytes {H : Hp} {base : Nat} {x : PI} {r : RPI} (h : Tw H base x r) : bytesR H (some ⟨r.db, 0, none⟩) (r.Dn + 2) (x.data ++ [209, 210]) :=
  ownC.row encU (fun _ => rfl) h.dO (by decide) fun b o y hy hc => encU_is (by
    rcases List.mem_append.1 hy with q | q
    · exact h.u8 y q
    · simp at q; rcases q with rfl | rfl <;> omega) hc
/-- The cells of a twin's list. -/
theorem own_cells {H : Hp} {base : Nat} {A : Option Addr} {n c : Nat} {rs : List RPI} (h : ownC H base 146 5 A (n + 1) c (rs.flatMap encR ++ markP)) :
    ∃ ib, A = some ⟨ib, 0, none⟩ ∧ base ≤ ib ∧ ib < H.size ∧ rs.length = n ∧ (∀ (i : Nat) (r : RPI), rs[i]? = some r → ∀ q v, (encR r)[q]? = some v → cel H ib (0 + i * 5 + q) = some v) ∧ cel H ib (0 + n * 5) = some (.int .i64 (-9)) := by
  obtain ⟨l1, l2⟩ := flatMap_get encR 5 rs fun _ _ => rfl
  have hlen : rs.length = n := by
    have := h.1; rw [List.length_append, l1] at this
    have hm : markP.length = 5 := rfl
    omega
  have hrd := h.rd
  obtain ⟨b, o, hA, hc⟩ := hrd.2 (by omega)
  have : ∃ ib, A = some ⟨ib, 0, none⟩ := by
    obtain ⟨_, _, q | ⟨b1, _, _, q, _⟩⟩ := h
    · rw [q.1] at hA; cases hA
    · exact ⟨b1, q⟩
  obtain ⟨ib, hib⟩ := this
  obtain ⟨u1, u2⟩ := h.lt hib
  obtain ⟨rfl, rfl⟩ : b = ib ∧ o = 0 := by rw [hib] at hA; cases hA; exact ⟨rfl, rfl⟩
  refine ⟨b, hib, u1, u2, hlen, fun i r hr q v hv => ?_, ?_⟩
  · rw [Nat.add_assoc]
    refine hc (i * 5 + q) v ?_
    have hi := (List.getElem?_eq_some_iff.1 hr).1
    have hq := (List.getElem?_eq_some_iff.1 hv).1
    have : (encR r).length = 5 := rfl
    rw [List.getElem?_append_left (by rw [l1]; omega)]
    exact flatMap_at encR 5 rs (fun _ _ => rfl) i r hr q v hv
  · refine hc (n * 5) _ ?_
    rw [List.getElem?_append_right (by rw [l1]; omega), l1, hlen, Nat.sub_self]; rfl
theorem twin_row {H : Hp} {base base' : Nat} {A : Option Addr} {n c : Nat} {xs : List PI} {rs : List RPI} (h : ownC H base 146 5 A (n + 1) c (rs.flatMap encR ++ markP)) (t : Tws H base' xs rs) : rowR isPI 5 H A n xs := by
  obtain ⟨ib, rfl, _, _, hl, hc, _⟩ := own_cells h
  refine ⟨by rw [← t.len, hl], fun i x hx => ⟨ib, 0, rfl, ?_⟩⟩
  have hi : i < rs.length := by rw [t.len]; exact (List.getElem?_eq_some_iff.1 hx).1
  have hr := List.getElem?_eq_getElem hi
  have tw := t.each i x _ hx hr
  have cc := hc i _ hr
  have g0 := cc 0 _ rfl
  rw [tw.part] at g0
  have g2 := cc 2 _ rfl
  rw [tw.all] at g2
  have g3 := cc 3 _ rfl
  rw [tw.hs] at g3
  exact ⟨_, _, _, _, _, _, g0, cc 1 _ rfl, g2, g3, cc 4 _ rfl, tw.blks.pre tw.Bn.symm, tw.bytes.pre tw.Dn.symm, tw.bnd.1, tw.bnd.2⟩
theorem twinR.row {H : Hp} {base : Nat} {A : Option Addr} {n c : Nat} {xs : List PI} (h : twinR H base A n c xs) : rowR isPI 5 H A n xs := by
  obtain ⟨_, _, rs, ho, ht⟩ := h
  exact twin_row ho ht
theorem twinR.keeps {H H' : Hp} {base : Nat} {A : Option Addr} {n c : Nat} {xs : List PI} (h : twinR H base A n c xs) (k : Keeps H H') : twinR H' base A n c xs := by
  obtain ⟨h1, h2, rs, ho, ht⟩ := h
  exact ⟨h1, h2, rs, ho.keeps k, ht.map fun x r q => q.keeps k⟩
theorem f21.spec (φ : Fx) (parts : Int) (A B : Option Addr) (n c d : Nat) (base : Nat) (xs : List PI) (H : Hp) (ht : twinR H base A n c xs) (hf : rowR isPI 5 H B n xs) :
    HCalls cx.P φ 21 [.agg #[.int .i64 parts, .slice A n c], .agg #[.int .i64 parts, .slice B n d]] H fun v H' => v = .bool true ∧ Keeps H H' := by
  apply f21.of
  unfold f21.VC
  intro H1
  have a0 : cel H1 H.size 0 = some (.int .i64 parts) := cel_new ..
  have a1 : cel H1 H.size (0 + 1) = some (.slice A n c) := cel_new ..
  have k1 : Keeps H H1 := Keeps.push ..
  clear_value H1
  intro H2
  have e0 : cel H2 H1.size 0 = some (.int .i64 parts) := cel_new ..
  have e1 : cel H2 H1.size (0 + 1) = some (.slice B n d) := cel_new ..
  have k12 : Keeps H1 H2 := Keeps.push ..
  clear_value H2
  have k2 := k1.trans k12
  have a0 := k12.cel a0
  have a1 := k12.cel a1
  have hb := ht.bound
  simp -zeta only [xI a0, xL a1, xI e0, xL e1]
  refine HCalls.mono (f78.same φ parts A B n n c d xs H2 ((ht.keeps k2).row) (hf.keeps isPI.mono k2) (by omega)) ?_
  rintro v H3 ⟨rfl, k3⟩
  refine ⟨_, rfl, fun h => by simp at h, fun _ => ?_⟩
  obtain ⟨hlen, _, rs, own, tws⟩ := ht.keeps (k2.trans k3)
  have cle := own.2.1
  obtain ⟨ib, rfl, _, _, hl, hc, hm⟩ := own_cells own
  have hm : cel H3 ib (0 + Int.toNat (n : Int) * 5) = some (.int .i64 (-9)) := hm
  simp -zeta only [xL (k3.cel a1), xL (k3.cel e1), xA, xI hm]
  refine ⟨by omega, by omega, by omega, fun h => by simp at h, fun _ => ?_⟩
  refine ⟨fun i H' => H' = H3 ∧ 0 ≤ i ∧ i ≤ n, fun i _ => (n - i).toNat, ⟨rfl, by omega, by omega⟩, ?_⟩
  rintro i _ H4 ⟨rfl, h0, h1⟩
  simp -zeta only [xL (k3.cel e1), xL (k3.cel a1)]
  refine ⟨fun hi => ?_, fun hi => ⟨trivial, k2.trans k3⟩⟩
  simp only [decide_eq_true_eq] at hi
  obtain ⟨x, b, o, hx1, rfl, BA, Bn, Bc, DA, Dn, Dc, c0, c1, c2, c3, c4, rb, rd, bn, dn⟩ := (hf.keeps isPI.mono (k2.trans k3)).at h0 hi
  have hi' : i.toNat < rs.length := by omega
  have hr := List.getElem?_eq_getElem hi'
  generalize rs[i.toNat] = r at hr
  have tw := tws.each _ x r hx1 hr
  have cc := hc _ r hr
  have eb := tw.Bn
  have ed := tw.Dn
  have lb := rb.1
  have ld := rd.1
  rw [lb] at eb
  rw [ld] at ed
  have t1 : cel H4 ib (0 + i.toNat * 5 + 1) = some (.slice (some ⟨r.bb, 0, none⟩) Bn r.Bc) := by rw [← eb]; exact cc 1 _ rfl
  have t4 : cel H4 ib (0 + i.toNat * 5 + 2 + 2) = some (.slice (some ⟨r.db, 0, none⟩) Dn r.Dc) := by rw [← ed]; exact cc 4 _ rfl
  have c4 : cel H4 b (o + i.toNat * 5 + 2 + 2) = some (.slice DA Dn Dc) := c4
  have lB := tw.bo.2.1
  have lD := tw.dO.2.1
  have mB := tw.blks.2 Bn markB (by rw [List.getElem?_append_right (by omega), lb, Nat.sub_self]; rfl)
  have mD1 := tw.bytes.2 Dn 209 (by rw [List.getElem?_append_right (by omega), ld, Nat.sub_self]; rfl)
  have mD2 := tw.bytes.2 (Dn + 1) 210 (by rw [List.getElem?_append_right (by omega), ld, show Dn + 1 - Dn = 1 by omega]; rfl)
  obtain ⟨_, _, qb, mB, _⟩ := mB
  cases qb
  obtain ⟨_, _, q1, mD1, _⟩ := mD1
  cases q1
  obtain ⟨_, _, q2, mD2, _⟩ := mD2
  cases q2
  have mB : cel H4 r.bb (0 + Int.toNat ((Bn : Nat) : Int) * 4) = some (.int .i64 (-9)) := mB
  have mD1 : cel H4 r.db (0 + Int.toNat ((Dn : Nat) : Int) * 1) = some (.int .u8 209) := mD1
  have mD2 : cel H4 r.db (0 + Int.toNat (((Dn : Nat) : Int) + 1) * 1) = some (.int .u8 210) := by
    rw [show Int.toNat (((Dn : Nat) : Int) + 1) = Dn + 1 by omega]; exact mD2
  simp -zeta only [xA, xL c4, xL t4, xL c1, xL t1, xI mB, xI mD1, xI mD2]
  refine ⟨⟨h0, hi⟩, ⟨h0, hi⟩, by omega, by omega, ⟨h0, hi⟩, ⟨h0, hi⟩, by omega, by omega, ?_⟩
  refine join1 false H4 ?_ ?_
  · simp only [decide_true, Bool.not_true]
    simp
    omega
  intro _
  exact ⟨fun h => (nomatch h), fun _ => ⟨by omega, ⟨rfl, by omega, by omega⟩, by omega⟩⟩
end Go.Proofs.Ytkkjjjgcfnhabaa.Eng
namespace Go.Proofs.Ytkkjjjgcfnhabaa.Eng
open Go Go.Proofs
theorem own_put {H : Hp} {base : Nat} {t : TypeId} {sz : Nat} {b n c : Nat} {vs : List Value} (h : ownC H base t sz (some ⟨b, 0, none⟩) n c vs) {o : Nat} {ws : List Value} (ho : o + ws.length ≤ n * sz) :
    ownC (hput H b o ws) base t sz (some ⟨b, 0, none⟩) n c (lspl vs o ws) := by
  obtain ⟨h1, h2, h | ⟨b', cs, h3, h4, h5, h6, h7⟩⟩ := h
  · cases h.1
  · cases h4
    have hc : n * sz ≤ c * sz := Nat.mul_le_mul_right _ h2
    refine ⟨by simp [lspl]; omega, h2, Or.inr ⟨b, _, h3, rfl, objAt_hput h5 o ws, by rw [size_spl _ _ _ (by omega)]; exact h6, ?_⟩⟩
    simp only [spl, lspl, ← h7]
    rw [List.take_take, List.drop_take, Nat.min_eq_left (by omega)]
    rw [List.append_assoc, List.append_assoc, List.take_append, List.take_append]
    have e1 : (List.take o cs.toList).length = o := by simp; omega
    rw [e1, List.take_of_length_le (by omega), List.take_of_length_le (show ws.length ≤ n * sz - o by omega)]
    rw [Nat.sub_sub]
theorem own_canPut {H : Hp} {base : Nat} {t : TypeId} {sz : Nat} {b n c : Nat} {vs : List Value} (h : ownC H base t sz (some ⟨b, 0, none⟩) n c vs) {o : Nat} {ws : List Value} (ho : o + ws.length ≤ n * sz)
    (hv : ∀ v ∈ ws, v.oneCell' = true) : canPut H b o ws := by
  obtain ⟨h1, h2, h | ⟨b', cs, h3, h4, h5, h6, h7⟩⟩ := h
  · cases h.1
  · cases h4
    have hc : n * sz ≤ c * sz := Nat.mul_le_mul_right _ h2
    exact objAt_canPut h5 (by omega) hv
theorem flat_set (cut : ByteArray) : ∀ (xs : List Blk) (k : Nat) (x : Blk), xs[k]? = some x → lspl (xs.flatMap encB) (k * 4 + 3) [.string cut] = (xs.set k { x with cut := cut }).flatMap encB
  | y :: xs, 0, x, h => by
    simp at h; subst h
    simp [lspl, encB]
  | y :: xs, k + 1, x, h => by
    simp at h
    have ih := flat_set cut xs k x h
    simp only [List.flatMap_cons, List.set_cons_succ, ← ih, lspl]
    have hl : (encB y).length = 4 := rfl
    have e : (k + 1) * 4 + 3 = 4 + (k * 4 + 3) := by omega
    rw [e, List.take_append, List.drop_append, hl, List.take_of_length_le (by omega), List.drop_of_length_le (by simp; omega)]
    rw [show 4 + (k * 4 + 3) - 4 = k * 4 + 3 by omega, show 4 + (k * 4 + 3) + [Value.string cut].length - 4 = k * 4 + 3 + [Value.string cut].length by simp; omega]
    simp
def setN (cut : ByteArray) (k : Nat) (bs : List Blk) : List Blk := bs.mapIdx fun j b => if j < k then { b with cut := cut } else b
def xsOf (cut : ByteArray) (i k : Nat) (xs : List PI) : List PI := xs.mapIdx fun j x => if j < i then { x with bs := setN cut x.bs.length x.bs } else if j = i then { x with bs := setN cut k x.bs } else x
theorem setN_len (cut : ByteArray) (k : Nat) (bs : List Blk) : (setN cut k bs).length = bs.length := by simp [setN]
theorem setN_zero (cut : ByteArray) (bs : List Blk) : setN cut 0 bs = bs := by
  apply List.ext_getElem?; intro j
  simp only [setN, List.getElem?_mapIdx]
  cases bs[j]? <;> simp
theorem setN_step (cut : ByteArray) (k : Nat) (bs : List Blk) (b : Blk) (h : (setN cut k bs)[k]? = some b) : ((setN cut k bs) ++ [markB]).set k { b with cut := cut } = setN cut (k + 1) bs ++ [markB] := by
  have hk : k < (setN cut k bs).length := (List.getElem?_eq_some_iff.1 h).1
  rw [List.set_append_left _ _ hk]
  congr 1
  apply List.ext_getElem?; intro j
  rw [List.getElem?_set]
  simp only [setN, List.getElem?_mapIdx, List.length_mapIdx] at h hk ⊢
  by_cases hj : k = j
  · subst hj
    rw [if_pos rfl, if_pos hk]
    cases hb : bs[k]? with
    | none => simp [hb] at h
    | some x => simp [hb] at h; subst h; simp
  · rw [if_neg hj]
    cases bs[j]? with
    | none => rfl
    | some x =>
      simp only [Option.map_some, Option.some.injEq]
      by_cases h1 : j < k
      · rw [if_pos h1, if_pos (by omega)]
      · rw [if_neg h1, if_neg (by omega)]
theorem xsOf_len (cut : ByteArray) (i k : Nat) (xs : List PI) : (xsOf cut i k xs).length = xs.length := by simp [xsOf]
theorem xsOf_get (cut : ByteArray) (i k : Nat) (xs : List PI) (j : Nat) : (xsOf cut i k xs)[j]? = xs[j]?.map fun x => if j < i then { x with bs := setN cut x.bs.length x.bs } else if j = i then { x with bs := setN cut k x.bs } else x := by
  simp [xsOf, List.getElem?_mapIdx]
theorem xsOf_next (cut : ByteArray) (i : Nat) (xs : List PI) (x : PI) (h : xs[i]? = some x) : xsOf cut i x.bs.length xs = xsOf cut (i + 1) 0 xs := by
  apply List.ext_getElem?; intro j
  rw [xsOf_get, xsOf_get]
  cases hj : xs[j]? with
  | none => rfl
  | some y =>
    simp only [Option.map_some, Option.some.injEq]
    by_cases h1 : j < i
    · rw [if_pos h1, if_pos (by omega)]
    · by_cases h2 : j = i
      · subst h2
        rw [h] at hj; cases hj
        simp
      · rw [if_neg h1, if_neg h2, if_neg (by omega)]
        split
        · rw [setN_zero]
        · rfl
theorem xsOf_zero (cut : ByteArray) (xs : List PI) : xsOf cut 0 0 xs = xs := by
  apply List.ext_getElem?; intro j
  rw [xsOf_get]
  cases xs[j]? with
  | none => rfl
  | some y =>
    simp only [Option.map_some, Option.some.injEq, Nat.not_lt_zero, if_false]
    split
    · rw [setN_zero]
    · rfl
/-- A store of a cut. -/
theorem Tws.put {H : Hp} {base : Nat} {xs : List PI} {rs : List RPI} {cut : ByteArray} {i k : Nat} {x : PI} {r : RPI} (h : Tws H base (xsOf cut i k xs) rs) (hx : xs[i]? = some x) (hr : rs[i]? = some r) (hk : k < x.bs.length)
    (hcut : cut.size ≤ 140737488351232) : Tws (hput H r.bb (0 + k * 4 + 3) [.string cut]) base (xsOf cut i (k + 1) xs) rs where
  len := by rw [h.len, xsOf_len, xsOf_len]
  ord := h.ord
  each := by
    intro j y s hy hs
    have hxi : (xsOf cut i k xs)[i]? = some { x with bs := setN cut k x.bs } := by
      rw [xsOf_get, hx]; simp
    have ti := h.each i _ r hxi hr
    have eBn : r.Bn = x.bs.length := by rw [ti.Bn]; exact setN_len ..
    by_cases hj : j = i
    · subst hj
      rw [hr] at hs; cases hs
      rw [xsOf_get, hx] at hy
      simp at hy; subst hy
      obtain ⟨b, hb⟩ : ∃ b, (setN cut k x.bs)[k]? = some b := ⟨_, List.getElem?_eq_getElem (by rw [setN_len]; exact hk)⟩
      have hbo := own_put ti.bo (o := 0 + k * 4 + 3) (ws := [.string cut]) (by simp; omega)
      have e : lspl ((setN cut k x.bs ++ [markB]).flatMap encB) (0 + k * 4 + 3) [.string cut] = (setN cut (k + 1) x.bs ++ [markB]).flatMap encB := by
        rw [Nat.zero_add, flat_set cut _ k b (by rw [List.getElem?_append_left (by rw [setN_len]; exact hk)]; exact hb), setN_step cut k x.bs b hb]
      have hbo2 : ownC (hput H r.bb (0 + k * 4 + 3) [.string cut]) base 150 4 (some ⟨r.bb, 0, none⟩) (r.Bn + 1) r.Bc ((setN cut (k + 1) x.bs ++ [markB]).flatMap encB) := by
        rw [← e]; exact hbo
      have hd : ownC (hput H r.bb (0 + k * 4 + 3) [.string cut]) base 5 1 (some ⟨r.db, 0, none⟩) (r.Dn + 2) r.Dc ((x.data ++ [209, 210]).flatMap encU) :=
        ti.dO.off ti.bo (by decide) ⟨by rw [hput_size]; exact Nat.le_refl _, fun q hq hne => hput_other fun e => hne (by rw [e])⟩
      exact { part := ti.part, all := ti.all, hs := ti.hs, Bn := by rw [eBn, setN_len], Dn := ti.Dn, bo := hbo2, dO := hd, u8 := ti.u8, bnd := ti.bnd
              cuts := fun y hy => by
                obtain ⟨q, hq⟩ := List.mem_iff_getElem?.1 hy
                simp only [setN, List.getElem?_mapIdx] at hq
                cases hb2 : x.bs[q]? with
                | none => simp [hb2] at hq
                | some z =>
                  simp [hb2] at hq
                  by_cases h1 : q < k + 1
                  · rw [if_pos h1] at hq; subst hq; exact hcut
                  · rw [if_neg h1] at hq; subst hq
                    refine ti.cuts z (List.mem_iff_getElem?.2 ⟨q, ?_⟩)
                    simp only [setN, List.getElem?_mapIdx, hb2, Option.map_some]
                    rw [if_neg (by omega)] }
    · have hy' : (xsOf cut i k xs)[j]? = some y := by
        rw [xsOf_get] at hy ⊢
        cases hxj : xs[j]? with
        | none => simp [hxj] at hy
        | some z => simpa [hxj, hj] using hy
      have tj := h.each j y s hy' hs
      have hne : s.bb ≠ r.bb := by
        rcases Nat.lt_or_ge j i with q | q
        · exact Nat.ne_of_lt (h.ord j i s r q hs hr)
        · exact Nat.ne_of_gt (h.ord i j r s (by omega) hr hs)
      exact { tj with
        bo := tj.bo.frame fun q hq => by cases hq; exact hput_other (fun e => hne e.symm)
        dO := tj.dO.off ti.bo (by decide) ⟨by rw [hput_size]; exact Nat.le_refl _, fun q hq hne => hput_other fun e => hne (by rw [e])⟩ }
/-- Cuts alone have turned. -/
structure cutsTurn (base : Nat) (H H' : Hp) : Prop where
  size : H.size ≤ H'.size
  old : ∀ k, k < H.size → (k < base ∨ ∀ cs, ¬ objAt H k cs 150) → H'[k]? = H[k]?
theorem blksOk_const {cut : ByteArray} (hc : cut.size ≤ 64) : ∀ (bs : List Blk) (p : ByteArray), (∀ b ∈ bs, b.cut = cut ∧ blkRight b.st b.raw b.cnt ⟨#[]⟩ = true) → cutLess cut p = false → blksOk p bs = true
  | [], _, _, _ => rfl
  | b :: r, p, h, hp => by
    obtain ⟨e, hr⟩ := h b List.mem_cons_self
    have self : ∀ l : List UInt8, Op.bytesLess l l = false := by
      intro l; induction l with
      | nil => rfl
      | cons a l ih => simp [Op.bytesLess, ih]
    have ih := blksOk_const hc r cut (fun y hy => h y (List.mem_cons_of_mem _ hy)) (self _)
    simp only [blksOk, e, hp, ih, Blk.right, Bool.not_false, Bool.and_true]
    simp only [blkRight] at hr ⊢
    simp only [Bool.and_eq_true, decide_eq_true_eq] at hr ⊢
    exact ⟨hr.1, hc⟩
def plainOk (xs : List PI) : Prop := ∀ x ∈ xs, ∀ b ∈ x.bs, blkRight b.st b.raw b.cnt ⟨#[]⟩ = true
theorem blksOk_plain : ∀ (bs : List Blk) (p : ByteArray), blksOk p bs = true → ∀ b ∈ bs, blkRight b.st b.raw b.cnt ⟨#[]⟩ = true
  | b :: r, p, h, y, hy => by
    simp only [blksOk, Bool.and_eq_true] at h
    rcases List.mem_cons.1 hy with e | e
    · subst e
      have := h.1.1
      simp only [Blk.right, blkRight, Bool.and_eq_true, decide_eq_true_eq] at this ⊢
      exact ⟨this.1, Nat.zero_le _⟩
    · exact blksOk_plain r b.cut h.2 y e
theorem setN_mem {cut : ByteArray} {bs : List Blk} {b : Blk} (h : b ∈ setN cut bs.length bs) : ∃ y ∈ bs, b = { y with cut := cut } := by
  obtain ⟨q, hq⟩ := List.mem_iff_getElem?.1 h
  simp only [setN, List.getElem?_mapIdx] at hq
  cases hb : bs[q]? with
  | none => simp [hb] at hq
  | some z =>
    have hl := (List.getElem?_eq_some_iff.1 hb).1
    simp only [hb, Option.map_some, Option.some.injEq, if_pos hl] at hq
    exact ⟨z, List.mem_iff_getElem?.2 ⟨q, hb⟩, hq.symm⟩
theorem xsOf_full {cut : ByteArray} {n : Nat} {xs : List PI} (hl : xs.length = n) {j : Nat} {y : PI} (h : (xsOf cut n 0 xs)[j]? = some y) : ∃ x ∈ xs, y = { x with bs := setN cut x.bs.length x.bs } := by
  rw [xsOf_get] at h
  cases hj : xs[j]? with
  | none => simp [hj] at h
  | some z =>
    have := (List.getElem?_eq_some_iff.1 hj).1
    simp [hj, show j < n by omega] at h
    exact ⟨z, List.mem_iff_getElem?.2 ⟨j, hj⟩, h.symm⟩
theorem xsOf_sorted {cut : ByteArray} (hc : cut.size ≤ 64) {n : Nat} {xs : List PI} (hl : xs.length = n) (hp : plainOk xs) : ∀ (i : Nat) (x : PI), (xsOf cut n 0 xs)[i]? = some x → blksOk ⟨#[]⟩ x.bs = true := by
  intro i x hx
  obtain ⟨y, hy, rfl⟩ := xsOf_full hl hx
  refine blksOk_const hc _ _ (fun b hb => ?_) (cutLess_nil _)
  obtain ⟨z, hz, rfl⟩ := setN_mem hb
  exact ⟨rfl, hp y hy z hz⟩
theorem xsOf_plain {cut : ByteArray} {n : Nat} {xs : List PI} (hl : xs.length = n) (hp : plainOk xs) : plainOk (xsOf cut n 0 xs) := by
  intro x hx b hb
  obtain ⟨i, hi⟩ := List.mem_iff_getElem?.1 hx
  obtain ⟨y, hy, rfl⟩ := xsOf_full hl hi
  obtain ⟨z, hz, rfl⟩ := setN_mem hb
  exact hp y hy z hz
end Go.Proofs.Ytkkjjjgcfnhabaa.Eng
namespace Go.Proofs.Ytkkjjjgcfnhabaa.Eng
open Go Go.Proofs
theorem cutsTurn.refl (base : Nat) (H : Hp) : cutsTurn base H H := ⟨Nat.le_refl _, fun _ _ _ => rfl⟩
theorem cutsTurn.keeps {base : Nat} {H H' H'' : Hp} (h : cutsTurn base H H') (k : Keeps H' H'') : cutsTurn base H H'' :=
  ⟨Nat.le_trans h.size k.size, fun i hi hc => (k.old i (Nat.lt_of_lt_of_le hi h.size)).trans (h.old i hi hc)⟩
theorem cutsTurn.obj {base : Nat} {H H' : Hp} (h : cutsTurn base H H') {k : Nat} {cs : Array Value} {t : TypeId} (o : objAt H k cs t) (ht : t ≠ 150) : objAt H' k cs t := by
  have hk := objAt_lt o
  unfold objAt at o ⊢
  rw [h.old k hk (Or.inr fun cs' o' => by unfold objAt at o'; rw [o] at o'; cases o'; exact ht rfl)]; exact o
theorem f23.spec (φ : Fx) (H : Hp) : HCalls cx.P φ 23 [] H fun v H' => ∃ s : ByteArray, v = .string s ∧ s.size = 64 ∧ Keeps H H' := by
  apply f23.of
  unfold f23.VC
  refine ⟨fun bA bn bc i H' => Keeps H H' ∧ 0 ≤ i ∧ i ≤ 64 ∧ bn = i.toNat ∧ ∃ xs : List Int, ownC H' H.size 5 1 bA bn bc (xs.flatMap encU), fun _ _ _ i _ => (64 - i).toNat, ⟨Keeps.refl _, by omega, by omega, rfl, [], ownC_nil ..⟩, ?_⟩
  rintro bA bn bc i _ H1 ⟨k1, h0, h1, rfl, xs, own⟩
  refine ⟨fun hi => ?_, fun hi => ?_⟩
  · simp only [decide_eq_true_eq] at hi
    intro H2
    have k12 : Keeps H1 H2 := Keeps.push ..
    have s2 : rdC H2 (some ⟨H1.size, 0, none⟩) (1 * 1) (encU 255) := rdC_new _ _ _ _ _ rfl
    clear_value H2
    refine app59 (own.keeps k12) s2 (encU_one _) (by omega) (by have := k1.size; have := k12.size; omega) ?_
    intro A' c' H3 w3 f3 _ _
    refine ⟨_, _, _, rfl, by omega, ⟨f3.keeps (k1.trans k12) fun b hb => (own.lt hb).1, by omega, by omega, by omega, xs ++ [255], ?_⟩, by dsimp only; omega⟩
    simpa [List.flatMap_append] using w3
  · simp only [decide_eq_false_iff_not] at hi
    have hl := (flatMap_get encU 1 xs fun _ _ => rfl).1
    have ho := own.1
    have : xs.flatMap encU = xs.map (Value.int .u8) := by
      clear hl ho own
      induction xs with
      | nil => rfl
      | cons a r ih => simp [encU, ih]
    refine ⟨xs, ?_, bytesOf xs, rfl, ?_, k1⟩
    · have := own.rd
      rw [‹xs.flatMap encU = _›, Nat.mul_one] at this
      exact this
    · have : (bytesOf xs).size = xs.length := by simp [bytesOf, ByteArray.size]
      omega
theorem f22.spec (φ : Fx) (parts : Int) (A : Option Addr) (n c : Nat) (part : Int) (key cut : ByteArray) (base : Nat) (xs : List PI) (H : Hp) (ht : twinR H base A n c xs) (hp : plainOk xs) (hcut : cut.size ≤ 64) :
    HCalls cx.P φ 22 [.agg #[.int .i64 parts, .slice A n c], .int .i64 part, .string key, .string cut] H fun v H' => v = .bool true ∧ cutsTurn base H H' ∧ twinR H' base A n c (xsOf cut n 0 xs) := by
  apply f22.of
  unfold f22.VC
  intro H1
  have o1 : objAt H1 H.size #[.int .i64 parts, .slice A n c] 24 := objAt_new ..
  have k1 : Keeps H H1 := Keeps.push ..
  clear_value H1
  obtain ⟨hlen, hbound, rs, own, tws⟩ := ht
  have hcle := own.2.1
  refine ⟨fun i H' => cutsTurn base H H' ∧ 0 ≤ i ∧ i ≤ n ∧ objAt H' H.size #[.int .i64 parts, .slice A n c] 24 ∧ ownC H' base 146 5 A (n + 1) c (rs.flatMap encR ++ markP) ∧ Tws H' base (xsOf cut i.toNat 0 xs) rs,
    fun i _ => (n - i).toNat, ⟨(cutsTurn.refl ..).keeps k1, by omega, by omega, o1, own.keeps k1, by
      have := tws.map fun x r h => h.keeps k1
      rw [show (0 : Int).toNat = 0 from rfl, xsOf_zero]; exact this⟩, ?_⟩
  rintro i _ H2 ⟨ct2, h0, h1, o2, own2, tws2⟩
  have e2 : cel H2 H.size (0 + 1) = some (.slice A n c) := by rw [objAt_cel o2]; rfl
  simp -zeta only [xL e2]
  refine ⟨fun hi => ?_, fun hi => ?_⟩
  · simp only [decide_eq_true_eq] at hi
    have hxl : i.toNat < xs.length := by omega
    have hx := List.getElem?_eq_getElem hxl
    generalize xs[i.toNat] = x at hx
    have hrl : i.toNat < rs.length := by rw [tws.len]; exact hxl
    have hr := List.getElem?_eq_getElem hrl
    generalize rs[i.toNat] = r at hr
    have tw0 := tws.each _ x r hx hr
    have eBn := tw0.Bn
    have hBn := tw0.bnd.1
    refine ⟨fun k H' => cutsTurn base H H' ∧ 0 ≤ k ∧ k ≤ r.Bn ∧ objAt H' H.size #[.int .i64 parts, .slice A n c] 24 ∧ ownC H' base 146 5 A (n + 1) c (rs.flatMap encR ++ markP) ∧ Tws H' base (xsOf cut i.toNat k.toNat xs) rs,
      fun k _ => (r.Bn - k).toNat, ⟨ct2, by omega, by omega, o2, own2, tws2⟩, ?_⟩
    rintro k _ H3 ⟨ct3, hk0, hk1, o3, own3, tws3⟩
    have e3 : cel H3 H.size (0 + 1) = some (.slice A n c) := by rw [objAt_cel o3]; rfl
    obtain ⟨ib, rfl, _, _, hl, hc, _⟩ := own_cells own3
    have t1 : cel H3 ib (0 + i.toNat * 5 + 1) = some (.slice (some ⟨r.bb, 0, none⟩) r.Bn r.Bc) := hc _ r hr 1 _ rfl
    simp -zeta only [xL e3, xA, xL t1]
    refine ⟨⟨h0, hi⟩, fun hk => ?_, fun hk => ?_⟩
    · simp only [decide_eq_true_eq] at hk
      have hkl : k.toNat < x.bs.length := by omega
      have hxi : (xsOf cut i.toNat k.toNat xs)[i.toNat]? = some { x with bs := setN cut k.toNat x.bs } := by
        rw [xsOf_get, hx]; simp
      have ti := tws3.each _ _ r hxi hr
      refine ⟨⟨h0, hi⟩, ⟨hk0, hk⟩, own_canPut ti.bo (by simp; omega) (by simp [Value.oneCell']), ?_⟩
      intro H4
      have tws4 : Tws H4 base (xsOf cut i.toNat (k.toNat + 1) xs) rs := tws3.put hx hr hkl (by omega)
      have hbb := ti.bo.lt rfl
      have obb : ∃ cs, objAt H3 r.bb cs 150 := by
        obtain ⟨_, _, q | ⟨b1, cs, _, q, ob, _⟩⟩ := ti.bo
        · exact absurd q.1 (by simp)
        · cases q; exact ⟨cs, ob⟩
      obtain ⟨csb, obb⟩ := obb
      have off : ∀ q, q ≠ r.bb → H4[q]? = H3[q]? := fun q hq => hput_other (fun e => hq e.symm)
      have tbb : r.bb < H.size := (tw0.bo.lt rfl).2
      have o4 : objAt H4 H.size #[.int .i64 parts, .slice (some ⟨ib, 0, none⟩) n c] 24 := by
        unfold objAt; rw [off _ (by omega)]; exact o3
      have own4 : ownC H4 base 146 5 (some ⟨ib, 0, none⟩) (n + 1) c (rs.flatMap encR ++ markP) :=
        own3.off ti.bo (by decide) ⟨by rw [hput_size]; exact Nat.le_refl _, fun q hq hne => off q fun e => hne (by rw [e])⟩
      have ct4 : cutsTurn base H H4 := ⟨by have := ct3.size; rw [hput_size]; exact this, fun q hq hc => by
        rw [off q ?_]
        · exact ct3.old q hq hc
        · intro e
          subst e
          rcases hc with hc | hc
          · omega
          · obtain ⟨_, _, q2 | ⟨b1, cs, _, q2, ob, _⟩⟩ := tw0.bo
            · exact absurd q2.1 (by simp)
            · cases q2; exact hc cs ob⟩
      clear_value H4
      refine ⟨by omega, ⟨ct4, by omega, by omega, o4, own4, ?_⟩, by omega⟩
      rw [show (k + 1).toNat = k.toNat + 1 by omega]; exact tws4
    · simp only [decide_eq_false_iff_not] at hk
      refine ⟨by omega, ⟨ct3, by omega, by omega, o3, own3, ?_⟩, by omega⟩
      rw [show (i + 1).toNat = i.toNat + 1 by omega, ← xsOf_next cut i.toNat xs x hx, show x.bs.length = k.toNat by omega]
      exact tws3
  · simp only [decide_eq_false_iff_not] at hi
    have hin : i.toNat = n := by omega
    rw [hin] at tws2
    have e0 : cel H2 H.size 0 = some (.int .i64 parts) := by rw [objAt_cel o2]; rfl
    have row2 := twin_row own2 tws2
    have srt := xsOf_sorted hcut hlen hp
    simp -zeta only [xI e0]
    refine HCalls.mono (f18.spec φ parts A n c _ H2 row2 hbound) ?_
    rintro v H5 ⟨A6, c6, rfl, k5, tw5⟩
    refine ⟨_, _, _, _, rfl, ?_⟩
    intro H6
    refine ⟨canPut_new _ _ _ _ _ (by simp) (by simp [Value.oneCell']), ?_⟩
    intro H7
    have hH7 : H7 = H5.push (.cells #[.int .i64 parts, .slice A6 n c6] 24 (0, 0)) := hput_new _ _ _ _ _ (by simp)
    have d0 : cel H7 H5.size 0 = some (.int .i64 parts) := by rw [hH7]; exact cel_new ..
    have d1 : cel H7 H5.size (0 + 1) = some (.slice A6 n c6) := by rw [hH7]; exact cel_new ..
    have k57 : Keeps H5 H7 := by rw [hH7]; exact Keeps.push ..
    clear hH7
    clear_value H7 H6
    have k27 := k5.trans k57
    simp -zeta only [xI (k27.cel e0), xL (k27.cel e2)]
    refine HCalls.mono (f19.spec φ parts A n c part key _ H7 (row2.keeps isPI.mono k27) (by omega) srt) ?_
    rintro v H8 ⟨rfl, k78⟩
    refine ⟨_, _, rfl, ?_⟩
    simp -zeta only [xI (k78.cel d0), xL (k78.cel d1)]
    have row8 := (tw5.row).keeps isPI.mono (k57.trans k78)
    refine HCalls.mono (f20.spec φ parts A6 n c6 part key _ H8 row8 (by omega)) ?_
    rintro v H9 ⟨rfl, k89⟩
    refine ⟨_, _, rfl, ?_⟩
    have k29 := (k27.trans k78).trans k89
    have k79 := k78.trans k89
    refine joinR (fun y H' => y = true ∧ Keeps H9 H') ?_ ?_
    · refine ⟨fun _ => ⟨fun _ => ?_, fun h => by simp at h⟩, fun h => by simp at h⟩
      simp -zeta only [xI (k29.cel e0), xL (k29.cel e2), xI (k79.cel d0), xL (k79.cel d1)]
      refine HCalls.mono (f78.same φ parts A A6 n n c c6 _ H9 (row2.keeps isPI.mono k29) (row8.keeps isPI.mono k89) (by omega)) ?_
      rintro v H10 ⟨rfl, k10⟩
      exact ⟨_, rfl, rfl, k10⟩
    rintro y _ H11 ⟨rfl, k11⟩
    have kk := k29.trans k11
    exact ⟨rfl, ct2.keeps kk, by rw [xsOf_len]; exact hlen, hbound, rs, own2.keeps kk, tws2.map fun x r h => h.keeps kk⟩
end Go.Proofs.Ytkkjjjgcfnhabaa.Eng
namespace Go.Proofs.Ytkkjjjgcfnhabaa.Eng
open Go Go.Proofs
theorem infosOk_plain {parts : Int} : ∀ (xs : List PI) (last : Int), infosOk parts last xs = true → plainOk xs
  | [], _, _ => fun x hx => by simp at hx
  | p :: r, last, h => by
    simp only [infosOk, Bool.and_eq_true] at h
    intro x hx
    rcases List.mem_cons.1 hx with e | e
    · subst e; exact blksOk_plain _ _ h.1.2
    · exact infosOk_plain r _ h.2 x e
theorem f3.spec (φ : Fx) (parts : Int) (A : Option Addr) (n c : Nat) (part : Int) (key : ByteArray) (xs : List PI) (H : Hp) (hr : rowR isPI 5 H A n xs) (hn : n * 72 ≤ 140737488351232) :
    HCalls cx.P φ 3 [.agg #[.int .i64 parts, .slice A n c], .int .i64 part, .string key] H fun v H' => v = .bool true ∧ Keeps H H' := by
  apply f3.of
  unfold f3.VC
  intro H1
  have e0 : cel H1 H.size 0 = some (.int .i64 parts) := cel_new ..
  have e1 : cel H1 H.size (0 + 1) = some (.slice A n c) := cel_new ..
  have k1 : Keeps H H1 := Keeps.push ..
  clear_value H1
  simp -zeta only [xI e0, xL e1]
  refine HCalls.mono (f16.spec φ parts A n c xs H1 (hr.keeps isPI.mono k1)) ?_
  rintro v H2 ⟨rfl, k12⟩
  have k2 := k1.trans k12
  have e0 := k12.cel e0
  have e1 := k12.cel e1
  have hr2 := hr.keeps isPI.mono k2
  refine ⟨_, rfl, fun h => ?_, fun h => ?_⟩
  · simp -zeta only [xI e0, xL e1]
    refine HCalls.mono (f17.spec φ parts A n c xs H2 hr2) ?_
    rintro v2 H3 ⟨rfl, k3⟩
    refine ⟨_, rfl, ?_, k2.trans k3⟩
    cases hf : footRight parts xs with
    | true => rw [hf] at h; simp at h
    | false => rfl
  · have hf : footRight parts xs = true := by
      cases hf : footRight parts xs with
      | true => rfl
      | false => rw [hf] at h; simp at h
    have hinf : infosOk parts (-1) xs = true := by
      simp only [footRight, Bool.and_eq_true] at hf; exact hf.1.2
    have hplain := infosOk_plain xs _ hinf
    have hsort : ∀ (i : Nat) (x : PI), xs[i]? = some x → blksOk ⟨#[]⟩ x.bs = true := fun i x hx => infosOk_blks hinf hx
    simp -zeta only [xI e0, xL e1]
    refine HCalls.mono (f18.spec φ parts A n c xs H2 hr2 hn) ?_
    rintro v H4 ⟨A', c', rfl, k24, tw⟩
    refine ⟨_, _, _, _, rfl, ?_⟩
    intro H5
    refine ⟨canPut_new _ _ _ _ _ (by simp) (by simp [Value.oneCell']), ?_⟩
    intro H6
    have hH6 : H6 = H4.push (.cells #[.int .i64 parts, .slice A' n c'] 24 (0, 0)) := hput_new _ _ _ _ _ (by simp)
    have o6 : objAt H6 H4.size #[.int .i64 parts, .slice A' n c'] 24 := by rw [hH6]; exact objAt_new ..
    have k46 : Keeps H4 H6 := by rw [hH6]; exact Keeps.push ..
    clear hH6
    clear_value H6 H5
    have d0 : cel H6 H4.size 0 = some (.int .i64 parts) := by rw [objAt_cel o6]; rfl
    have d1 : cel H6 H4.size (0 + 1) = some (.slice A' n c') := by rw [objAt_cel o6]; rfl
    have k26 := k24.trans k46
    have tw6 := tw.keeps k46
    simp -zeta only [xI d0, xL d1]
    refine HCalls.mono (f19.spec φ parts A' n c' part key xs H6 tw6.row (by omega) hsort) ?_
    rintro v H7 ⟨rfl, k67⟩
    refine ⟨_, _, rfl, ?_⟩
    have k27 := k26.trans k67
    simp -zeta only [xI (k27.cel e0), xL (k27.cel e1)]
    refine HCalls.mono (f20.spec φ parts A n c part key xs H7 (hr2.keeps isPI.mono k27) (by omega)) ?_
    rintro v H8 ⟨rfl, k78⟩
    refine ⟨_, _, rfl, ?_⟩
    have k28 := k27.trans k78
    have k68 := k67.trans k78
    refine joinR (fun y H' => y = false ∧ Keeps H8 H') ?_ ?_
    · refine ⟨fun h => by simp at h, fun _ => ⟨fun h => by simp at h, fun _ => ?_⟩⟩
      simp -zeta only [xI (k68.cel d0), xL (k68.cel d1), xI (k28.cel e0), xL (k28.cel e1)]
      refine HCalls.mono (f21.spec φ parts A' A n c' c _ xs H8 (tw6.keeps k68) (hr2.keeps isPI.mono k28)) ?_
      rintro v H9 ⟨rfl, k9⟩
      exact ⟨_, rfl, rfl, k9⟩
    rintro y _ H10 ⟨rfl, k810⟩
    have k10 := k28.trans k810
    have k610 := k68.trans k810
    have o10 := k610.obj o6
    refine ⟨fun h => (nomatch h), fun _ => ?_⟩
    simp -zeta only [xL (k610.cel d1)]
    refine ⟨fun _ => ⟨trivial, k2.trans k10⟩, fun _ => ?_⟩
    have tw10 := tw6.keeps k610
    refine joinR (fun y H' => y = true ∧ Keeps H2 H') ?_ ?_
    · simp -zeta only [xI (k610.cel d0), xL (k610.cel d1)]
      refine HCalls.mono (f22.spec φ parts A' n c' part key ⟨#[]⟩ _ xs H10 tw10 hplain (Nat.zero_le _)) ?_
      rintro v H11 ⟨rfl, ct11, tw11⟩
      have ks : Keeps H2 H11 := ⟨Nat.le_trans k10.size ct11.size, fun q hq => by
        rw [ct11.old q (Nat.lt_of_lt_of_le hq k10.size) (Or.inl hq)]; exact k10.old q hq⟩
      have o11 := ct11.obj o10 (by decide)
      have g0 : cel H11 H4.size 0 = some (.int .i64 parts) := by rw [objAt_cel o11]; rfl
      have g1 : cel H11 H4.size (0 + 1) = some (.slice A' n c') := by rw [objAt_cel o11]; rfl
      refine ⟨_, rfl, fun _ => ?_, fun h => (nomatch h)⟩
      simp -zeta only [xI g0, xL g1]
      refine HCalls.mono (f23.spec φ H11) ?_
      rintro v H12 ⟨s, rfl, hs, k12'⟩
      refine ⟨_, rfl, ?_, ?_⟩
      · intro q v hv
        match q, hv with
        | 0, hv => simp at hv; subst hv; exact k12'.cel g0
        | 1, hv => simp at hv; subst hv; exact k12'.cel g1
      refine HCalls.mono (f22.spec φ parts A' n c' part key s _ _ H12 (tw11.keeps k12') (xsOf_plain (by rw [hr.1]) hplain) (by omega)) ?_
      rintro v H13 ⟨rfl, ct13, _⟩
      have ks2 := ks.trans k12'
      exact ⟨_, rfl, rfl, ⟨Nat.le_trans ks2.size ct13.size, fun q hq => by
        rw [ct13.old q (Nat.lt_of_lt_of_le hq ks2.size) (Or.inl hq)]; exact ks2.old q hq⟩⟩
    rintro y _ H14 ⟨rfl, k14⟩
    exact ⟨rfl, k2.trans k14⟩
end Go.Proofs.Ytkkjjjgcfnhabaa.Eng
namespace Go.Proofs.Ytkkjjjgcfnhabaa.Eng
open Go Go.Proofs
theorem cells3 : Try.prog.cellsOf 3 = 1 := by kernel_rfl
theorem cells4 : Try.prog.cellsOf 4 = 1 := by kernel_rfl
theorem cells5 : Try.prog.cellsOf 5 = 1 := by kernel_rfl
theorem cells9 : Try.prog.cellsOf 9 = 1 := by kernel_rfl
theorem cells22 : Try.prog.cellsOf 22 = 1 := by kernel_rfl
theorem cells59 : Try.prog.cellsOf 59 = 1 := by kernel_rfl
theorem cells142 : Try.prog.cellsOf 142 = 1 := by kernel_rfl
theorem cells24 : Try.prog.cellsOf 24 = 2 := by kernel_rfl
theorem cells144 : Try.prog.cellsOf 144 = 3 := by kernel_rfl
theorem cells146 : Try.prog.cellsOf 146 = 5 := by kernel_rfl
theorem cells150 : Try.prog.cellsOf 150 = 4 := by kernel_rfl
theorem bytes5 : Try.prog.bytesOf 5 = 1 := by kernel_rfl
theorem bytes146 : Try.prog.bytesOf 146 = 72 := by kernel_rfl
theorem bytes150 : Try.prog.bytesOf 150 = 40 := by kernel_rfl
theorem okc_int {P : Program} {H : Hp} {d : Nat} {t : TypeId} {k : IntKind} {cs : List Value} (hu : P.underlying t = some (.int k)) (h : Okc P H (d + 1) t cs) : ∃ n, cs = [.int k n] ∧ iMin k ≤ n ∧ n ≤ iMax k := by
  unfold Okc at h; rw [hu] at h; exact h
theorem okc_bool {P : Program} {H : Hp} {d : Nat} {t : TypeId} {cs : List Value} (hu : P.underlying t = some .bool) (h : Okc P H (d + 1) t cs) : ∃ b, cs = [.bool b] := by
  unfold Okc at h; rw [hu] at h; exact h
theorem okc_str {P : Program} {H : Hp} {d : Nat} {t : TypeId} {cs : List Value} (hu : P.underlying t = some .string) (h : Okc P H (d + 1) t cs) : ∃ s, cs = [.string s] ∧ s.size ≤ 140737488351232 := by
  unfold Okc at h; rw [hu] at h; exact h
theorem ok_i64 {H : Hp} {d : Nat} {cs : List Value} (h : Okc Try.prog H (d + 1) 3 cs) : ∃ n, cs = [.int .i64 n] ∧ -9223372036854775808 ≤ n ∧ n ≤ 9223372036854775807 := okc_int Try.underlying3 h
theorem ok_bool {H : Hp} {d : Nat} {cs : List Value} (h : Okc Try.prog H (d + 1) 4 cs) : ∃ b, cs = [.bool b] := okc_bool Try.underlying4 h
theorem ok_u8 {H : Hp} {d : Nat} {cs : List Value} (h : Okc Try.prog H (d + 1) 5 cs) : ∃ n, cs = [.int .u8 n] ∧ 0 ≤ n ∧ n ≤ 255 := okc_int Try.underlying5 h
theorem ok_str {H : Hp} {d : Nat} {cs : List Value} (h : Okc Try.prog H (d + 1) 9 cs) : ∃ s, cs = [.string s] ∧ s.size ≤ 140737488351232 := okc_str Try.underlying9 h
/-- A slice that came in: a row of its first elements. -/
theorem ok_slice {P : Program} {H : Hp} {d : Nat} {t e : TypeId} {cs : List Value} (hu : P.underlying t = some (.slice e)) (h : Okc P H (d + 1) t cs) {α : Type} {E : Hp → Nat → Nat → α → Prop} (hp : 0 < P.cellsOf e)
    (hE : ∀ b o vs, vs.length = P.cellsOf e → (∀ j v, vs[j]? = some v → cel H b (o + j) = some v) → Okc P H d e vs → ∃ x, E H b o x) :
    ∃ A n c xs, cs = [.slice A n c] ∧ n ≤ c ∧ c * P.bytesOf e ≤ 140737488351232 ∧ rowR E (P.cellsOf e) H A n xs := by
  unfold Okc at h; rw [hu] at h
  obtain ⟨A, n, c, rfl, hnc, _, hb, hel⟩ := h
  have : ∀ i, i < n → ∃ x, ∃ b o, A = some ⟨b, o, none⟩ ∧ E H b (o + i * P.cellsOf e) x := by
    intro i hi
    obtain ⟨b, o, vs, hA, hl, hc, ho⟩ := hel i (by omega)
    obtain ⟨x, hx⟩ := hE b (o + i * P.cellsOf e) vs hl hc ho
    exact ⟨x, b, o, hA hp, hx⟩
  refine ⟨A, n, c, (List.range n).attach.map fun i => (this i.1 (List.mem_range.1 i.2)).choose, rfl, hnc, hb, by simp, fun i x hx => ?_⟩
  simp only [List.getElem?_map, Option.map_eq_some_iff] at hx
  obtain ⟨⟨k, hk⟩, h1, rfl⟩ := hx
  have hki : k = i := by
    have := congrArg (Option.map Subtype.val) h1
    rw [← List.getElem?_map] at this
    simp only [List.attach_map_val, Option.map_some] at this
    have h2 := (List.getElem?_eq_some_iff.1 this).2
    simpa using h2.symm
  subst hki
  exact (this k (List.mem_range.1 hk)).choose_spec
theorem ok_bytes {H : Hp} {d : Nat} {cs : List Value} (h : Okc Try.prog H (d + 2) 59 cs) : ∃ A n c xs, cs = [.slice A n c] ∧ n ≤ c ∧ c ≤ 140737488351232 ∧ bytesR H A n xs := by
  obtain ⟨A, n, c, xs, h1, h2, h3, h4⟩ := ok_slice (E := isU8) Try.underlying59 h (by rw [cells5]; decide) fun b o vs hl hc ho => by
    obtain ⟨x, rfl, u1, u2⟩ := ok_u8 ho
    exact ⟨x, hc 0 _ rfl, u1, by omega⟩
  rw [cells5] at h4; rw [bytes5] at h3
  exact ⟨A, n, c, xs, h1, h2, by omega, h4⟩
theorem ok_struct {P : Program} {H : Hp} {d : Nat} {t : TypeId} {fs : Array Field} {cs : List Value} (hu : P.underlying t = some (.struct fs)) (h : Okc P H (d + 1) t cs) : cs.length = P.cellsOf t ∧ okF (Okc P H d) P.cellsOf cs fs.toList := by
  unfold Okc at h; rw [hu] at h; exact h
theorem ok_blk {H : Hp} {d : Nat} {cs : List Value} (h : Okc Try.prog H (d + 2) 150 cs) : ∃ x : Blk, cs = encB x ∧ x.cut.size ≤ 140737488351232 := by
  obtain ⟨hl, hf⟩ := ok_struct Try.underlying150 h
  rw [cells150] at hl
  match cs, hl with
  | [a, b, c, d], _ =>
    simp only [okF, cells3, cells9] at hf
    obtain ⟨f0, f1, f2, f3, _⟩ := hf
    obtain ⟨x0, e0, _⟩ := ok_i64 f0
    obtain ⟨x1, e1, _⟩ := ok_i64 f1
    obtain ⟨x2, e2, _⟩ := ok_i64 f2
    obtain ⟨x3, e3, e4⟩ := ok_str f3
    simp at e0 e1 e2 e3
    subst e0; subst e1; subst e2; subst e3
    exact ⟨⟨x0, x1, x2, x3⟩, rfl, e4⟩
theorem ok_blks {H : Hp} {d : Nat} {cs : List Value} (h : Okc Try.prog H (d + 3) 142 cs) : ∃ A n c xs, cs = [.slice A n c] ∧ n ≤ c ∧ c * 40 ≤ 140737488351232 ∧ rowR isBlk 4 H A n xs := by
  obtain ⟨A, n, c, xs, h1, h2, h3, h4⟩ := ok_slice (E := isBlk) Try.underlying142 h (by rw [cells150]; decide) fun b o vs hl hc ho => by
    obtain ⟨x, rfl, u⟩ := ok_blk ho
    exact ⟨x, encB_is u hc⟩
  rw [cells150] at h4; rw [bytes150] at h3
  exact ⟨A, n, c, xs, h1, h2, h3, h4⟩
theorem ok_pi {H : Hp} {d : Nat} {b o : Nat} {cs : List Value} (hc : ∀ j v, cs[j]? = some v → cel H b (o + j) = some v) (h : Okc Try.prog H (d + 4) 146 cs) : ∃ x : PI, isPI H b o x := by
  obtain ⟨hl, hf⟩ := ok_struct Try.underlying146 h
  rw [cells146] at hl
  match cs, hl with
  | [v0, v1, v2, v3, v4], _ =>
    simp only [okF, cells3, cells142, cells144] at hf
    obtain ⟨f0, f1, f2, _⟩ := hf
    obtain ⟨x0, e0, _⟩ := ok_i64 f0
    obtain ⟨BA, Bn, Bc, bs, e1, b1, b2, b3⟩ := ok_blks f1
    obtain ⟨hl2, g⟩ := ok_struct Try.underlying144 f2
    simp only [okF, cells4, cells3, cells59] at g
    obtain ⟨g0, g1, g2, _⟩ := g
    obtain ⟨y0, q0⟩ := ok_bool g0
    obtain ⟨y1, q1, _⟩ := ok_i64 g1
    obtain ⟨DA, Dn, Dc, ds, q2, d1, d2, d3⟩ := ok_bytes g2
    simp at e0 e1 q0 q1 q2
    subst e0; subst e1; subst q0; subst q1; subst q2
    exact ⟨⟨x0, bs, y0, y1, ds⟩, BA, Bn, Bc, DA, Dn, Dc, hc 0 _ rfl, hc 1 _ rfl, hc 2 _ rfl, hc 3 _ rfl, hc 4 _ rfl, b3, d3, by omega, by omega⟩
theorem ok_pis {H : Hp} {d : Nat} {cs : List Value} (h : Okc Try.prog H (d + 5) 22 cs) : ∃ A n c xs, cs = [.slice A n c] ∧ n ≤ c ∧ c * 72 ≤ 140737488351232 ∧ rowR isPI 5 H A n xs := by
  obtain ⟨A, n, c, xs, h1, h2, h3, h4⟩ := ok_slice (E := isPI) Try.underlying22 h (by rw [cells146]; decide) fun b o vs hl hc ho => ok_pi hc ho
  rw [cells146] at h4; rw [bytes146] at h3
  exact ⟨A, n, c, xs, h1, h2, h3, h4⟩
theorem arg_foot {H : Hp} {v : Value} (h : Argv Try.prog H 24 v) : ∃ parts A n c xs, v = .agg #[.int .i64 parts, .slice A n c] ∧ n ≤ c ∧ c * 72 ≤ 140737488351232 ∧ rowR isPI 5 H A n xs := by
  obtain ⟨hs, ho⟩ := h
  obtain ⟨hl, hf⟩ := ok_struct Try.underlying24 ho
  rw [cells24] at hl
  rcases hs with ⟨_, cs, rfl⟩ | ⟨_, hs⟩
  · obtain ⟨cs⟩ := cs
    simp only [vcells] at hl hf
    match cs, hl with
    | [a, b], _ =>
      simp only [okF, cells3, cells22] at hf
      obtain ⟨f0, f1, _⟩ := hf
      obtain ⟨x0, e0, _⟩ := ok_i64 f0
      obtain ⟨A, n, c, xs, e1, h1, h2, h3⟩ := ok_pis f1
      simp at e0 e1; subst e0; subst e1
      exact ⟨x0, A, n, c, xs, rfl, h1, h2, h3⟩
  · rw [hs] at hl; simp at hl
theorem arg_scalar {P : Program} {H : Hp} {t : TypeId} {v : Value} (h : Argv P H t v) (ha : isAggD (P.underlying t) = false) : vcells v = [v] := by
  rcases h.shape with ⟨e, _⟩ | ⟨_, e⟩
  · rw [ha] at e; cases e
  · exact e
theorem arg_i64 {H : Hp} {v : Value} (h : Argv Try.prog H 3 v) : ∃ n, v = .int .i64 n ∧ -9223372036854775808 ≤ n ∧ n ≤ 9223372036854775807 := by
  obtain ⟨p, e, r⟩ := ok_i64 h.ok
  rw [arg_scalar h (by rw [Try.underlying3]; rfl)] at e
  simp at e; exact ⟨p, e, r⟩
theorem arg_str {H : Hp} {v : Value} (h : Argv Try.prog H 9 v) : ∃ s, v = .string s ∧ s.size ≤ 140737488351232 := by
  obtain ⟨p, e, r⟩ := ok_str h.ok
  rw [arg_scalar h (by rw [Try.underlying9]; rfl)] at e
  simp at e; exact ⟨p, e, r⟩
end Go.Proofs.Ytkkjjjgcfnhabaa.Eng
