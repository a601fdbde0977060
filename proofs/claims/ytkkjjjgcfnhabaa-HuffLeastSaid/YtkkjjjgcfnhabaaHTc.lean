/- Part HTc of the proof of the claim in this folder: a way to walk code, and the contracts of the functions that the law reaches. Conditions: none. -/
import Derived.Test.YtkkjjjgcfnhabaaHTb
set_option linter.unusedVariables false
set_option linter.unusedSimpArgs false
set_option maxRecDepth 10000
namespace Go.Proofs.Ytkkjjjgcfnhabaa.Eng
open Go Go.Proofs
theorem flat_setE {α : Type} (enc : α → List Value) (sz : Nat) (hl : ∀ x, (enc x).length = sz) (y : α) : ∀ (xs : List α) (i : Nat), i < xs.length → lspl (xs.flatMap enc) (i * sz) (enc y) = (xs.set i y).flatMap enc
  | x :: xs, 0, _ => by
    have h1 := hl x
    have h2 := hl y
    simp only [lspl, Nat.zero_mul, List.take_zero, List.nil_append, Nat.zero_add, List.flatMap_cons, List.set_cons_zero]
    rw [h2, ← h1, List.drop_left]
  | x :: xs, i + 1, hi => by
    have ih := flat_setE enc sz hl y xs i (by simpa using hi)
    have h1 := hl x
    simp only [List.flatMap_cons, List.set_cons_succ, ← ih, lspl]
    rw [Nat.succ_mul, Nat.add_comm (i * sz) sz, List.take_append, List.drop_append, h1]
    rw [List.take_of_length_le (by omega), List.drop_eq_nil_of_le (by omega)]
    simp only [List.nil_append, List.append_assoc]
    congr 3
    · omega
    · congr 2; omega
theorem own_set {α : Type} (enc : α → List Value) {sz : Nat} (hl : ∀ x, (enc x).length = sz) (h1 : ∀ x, ∀ v ∈ enc x, v.oneCell' = true) {H : Hp} {base : Nat} {t : TypeId} {b n c : Nat} {xs : List α}
    (h : ownC H base t sz (some ⟨b, 0, none⟩) n c (xs.flatMap enc)) {i : Nat} (hi : i < xs.length) (hn : xs.length = n) (y : α) :
    canPut H b (0 + i * sz) (enc y) ∧ ownC (hput H b (0 + i * sz) (enc y)) base t sz (some ⟨b, 0, none⟩) n c ((xs.set i y).flatMap enc) := by
  have hle : 0 + i * sz + (enc y).length ≤ n * sz := by
    rw [hl, Nat.zero_add, ← hn]
    have : (i + 1) * sz ≤ xs.length * sz := Nat.mul_le_mul_right _ hi
    rw [Nat.succ_mul] at this; exact this
  refine ⟨own_canPut h hle (h1 y), ?_⟩
  have := own_put h (o := 0 + i * sz) (ws := enc y) hle
  rw [Nat.zero_add] at this ⊢
  rw [flat_setE enc sz hl y xs i hi] at this
  exact this
theorem offA.refl (A : Option Addr) (H : Hp) : offA A H H := ⟨Nat.le_refl _, fun _ _ _ => rfl⟩
theorem offA.put {H H' : Hp} {b : Nat} (h : offA (some ⟨b, 0, none⟩) H H') (o : Nat) (vs : List Value) : offA (some ⟨b, 0, none⟩) H (hput H' b o vs) :=
  ⟨by rw [hput_size]; exact h.1, fun k hk hne => by rw [hput_other (fun e => hne (by rw [e]))]; exact h.2 k hk hne⟩
/-- A change behind a change of the same list, grown or not. -/
theorem offA.step {A A' : Option Addr} {H H' H'' : Hp} (h : offA A H H') (ha : A' = A ∨ ∃ q, H.size ≤ q ∧ A' = some ⟨q, 0, none⟩) (h2 : offA A' H' H'') : offA A H H'' :=
  ⟨Nat.le_trans h.1 h2.1, fun k hk hne => by
    rw [h2.2 k (Nat.lt_of_lt_of_le hk h.1) ?_]
    · exact h.2 k hk hne
    · rcases ha with e | ⟨q, hq, e⟩
      · rw [e]; exact hne
      · rw [e]; intro e2; cases e2; omega⟩
theorem offA.keep {A : Option Addr} {H H' H'' : Hp} (h : offA A H H') (k : Keeps H' H'') : offA A H H'' :=
  ⟨Nat.le_trans h.1 k.size, fun q hq hne => (k.old q (Nat.lt_of_lt_of_le hq h.1)).trans (h.2 q hq hne)⟩
theorem ownC.some_of {H : Hp} {base : Nat} {t : TypeId} {sz : Nat} {A : Option Addr} {n c : Nat} {vs : List Value} (h : ownC H base t sz A n c vs) (hn : 0 < n) : ∃ b, A = some ⟨b, 0, none⟩ ∧ base ≤ b ∧ b < H.size := by
  have := h.2.1
  obtain ⟨_, _, q | ⟨b, cs, h1, h2, h3, _⟩⟩ := h
  · omega
  · exact ⟨b, h2, h1, objAt_lt h3⟩
end Go.Proofs.Ytkkjjjgcfnhabaa.Eng

namespace Go.Proofs.Ytkkjjjgcfnhabaa.Eng
open Go Go.Proofs
theorem objAt.frame {H H' : Hp} {b : Nat} {cs : Array Value} {t : TypeId} (h : objAt H b cs t) (hf : H'[b]? = H[b]?) : objAt H' b cs t := by unfold objAt at h ⊢; rw [hf]; exact h
theorem objAt_put {H : Hp} {b : Nat} {cs : Array Value} {t : TypeId} (h : objAt H b cs t) (o : Nat) (vs : List Value) (cs' : Array Value) (he : spl cs o vs = cs') : objAt (hput H b o vs) b cs' t := by
  rw [← he]; exact objAt_hput h o vs
end Go.Proofs.Ytkkjjjgcfnhabaa.Eng




namespace Go.Proofs.Ytkkjjjgcfnhabaa.Eng
open Go Go.Proofs
/-- As app_own; and where the list moved, nothing that was there has turned. -/
theorem app_own' {C : Ctx} {t tx : TypeId} {i : TI} {e : TypeId} {ie : TI} (hi : tget C.T t = some i) (hk : i.k = .slc e) (hie : tget C.T e = some ie)
    {x : Value} (hb : (srcB C tx x && Nat.blt 0 ie.size && Nat.blt 0 ie.bytes && Nat.beq ie.zero.length ie.size) = true) {H : Hp} {base : Nat} {A : Option Addr} {n c : Nat} {vs : List Value}
    (h : ownC H base e ie.size A n c vs) {m : Nat} {ys : List Value} (hs : srcC H ie.size x m ys) (hy : ys.length = m * ie.size) (hv : ∀ v ∈ ys, v.oneCell' = true) (hn : (n + m) * ie.bytes ≤ 140737488355328)
    (hbase : base ≤ H.size) {K : Value → Hp → Prop}
    (hK : ∀ A' c' H', ownC H' base e ie.size A' (n + m) c' (vs ++ ys) → offA A H H' → ((A' = A ∧ c' = c) ∨ (A' = some ⟨H.size, 0, none⟩ ∧ Keeps H H')) → (m = 0 ∨ A' ≠ none) → K (.slice A' (n + m) c') H') :
    appW C t tx (.slice A n c) x H K := by
  obtain ⟨hl, hnc, ho⟩ := h
  have hsz : 0 < ie.size := by
    simp only [Bool.and_eq_true] at hb; exact Nat.le_of_ble_eq_true hb.1.1.2
  have hzl : ie.zero.length = ie.size := by
    simp only [Bool.and_eq_true] at hb; exact Nat.eq_of_beq_eq_true hb.2
  unfold appW
  simp only [hi, hk, hie]
  rw [hb]
  refine ⟨m, ys, hs, fun hc => ?_, fun hc => ⟨hn, vs, ?_, fun cap h1 h2 => ?_⟩⟩
  · rcases ho with ⟨rfl, rfl⟩ | ⟨b, cs, h3, rfl, h5, h6, h7⟩
    · have : m = 0 := by omega
      subst this
      have : ys = [] := List.eq_nil_of_length_eq_zero (by omega)
      subst this
      refine ⟨Or.inl rfl, ?_⟩
      have := hK none 0 H ⟨by simp [hl], by omega, Or.inl ⟨rfl, rfl⟩⟩ ⟨Nat.le_refl _, fun _ _ _ => rfl⟩ (Or.inl ⟨rfl, rfl⟩) (Or.inl rfl)
      simpa [hputA] using this
    · have hle : n * ie.size + ys.length ≤ cs.size := by
        rw [hy, h6, ← Nat.add_mul]; exact Nat.mul_le_mul_right _ hc
      refine ⟨Or.inr ⟨b, 0, rfl, cs, e, 0, 0, h5, by simpa using hle, by omega, hv⟩, ?_⟩
      have ho' := objAt_hput h5 (0 + n * ie.size) ys
      rw [Nat.zero_add] at ho'
      refine hK _ _ _ ⟨by simp [hl, hy, Nat.add_mul], hc, Or.inr ⟨b, _, h3, rfl, ?_, by rw [size_spl _ _ _ hle]; exact h6, ?_⟩⟩ ⟨by simp [hputA, hput_size], fun k hk hne => ?_⟩ (Or.inl ⟨rfl, rfl⟩) (Or.inr (by simp))
      · simpa [hputA] using ho'
      · rw [Nat.add_mul, ← hy, spl_take hle, h7]
      · simp only [hputA]
        exact hput_other (fun e => hne (by rw [e]))
  · have h : ownC H base e ie.size A n c vs := ⟨hl, hnc, ho⟩
    exact h.rd
  · refine hK _ _ _ ⟨by simp [hl, hy, Nat.add_mul], h1, Or.inr ⟨H.size, _, hbase, rfl, objAt_new _ _ _, ?_, ?_⟩⟩ ⟨by simp, fun k hk _ => ?_⟩ (Or.inr ⟨rfl, Keeps.push ..⟩) (Or.inr (by simp))
    · simp only [List.size_toArray, List.length_append, hl, hy, zrow_length, hzl]
      rw [← Nat.add_mul, ← Nat.add_mul]; congr 1; omega
    · simp only [List.toList_toArray]
      rw [List.take_append_of_le_length (by simp [hl, hy, Nat.add_mul])]
      rw [List.take_of_length_le (by simp [hl, hy, Nat.add_mul])]
    · rw [Array.getElem?_push, if_neg (by omega)]
end Go.Proofs.Ytkkjjjgcfnhabaa.Eng
namespace Go.Proofs.Ytkkjjjgcfnhabaa.Eng
open Go Go.Proofs
def encTh (x : Th) : List Value := Value.int .i64 x.w :: (List.map (Value.int .u8) x.o ++ [])
theorem encTh_len (x : Th) : (encTh x).length = 257 := by simp [encTh, x.len]
theorem encTh_one (x : Th) : ∀ v ∈ encTh x, v.oneCell' = true := by
  intro v hv
  rcases List.mem_cons.1 hv with e | e
  · subst e; rfl
  · rw [List.append_nil] at e
    obtain ⟨y, _, rfl⟩ := List.mem_map.1 e
    rfl
def isTh (H : Hp) (b o : Nat) (x : Th) : Prop := ∀ r v, (encTh x)[r]? = some v → cel H b (o + r) = some v
theorem isTh.mono : Mono isTh := fun _ _ _ _ _ k h r v hv => k.cel (h r v hv)
theorem isTh.w {H : Hp} {b o : Nat} {x : Th} (h : isTh H b o x) : cel H b o = some (.int .i64 x.w) := h 0 _ rfl
theorem isTh.o {H : Hp} {b o : Nat} {x : Th} (h : isTh H b o x) {j : Nat} (hj : j < 256) : cel H b (o + 1 + j) = some (.int .u8 (x.o.getD j 0)) := by
  have : (encTh x)[j + 1]? = some (.int .u8 (x.o.getD j 0)) := by
    simp only [encTh, List.getElem?_cons_succ, List.append_nil, List.getElem?_map]
    rw [List.getD_eq_getElem?_getD, List.getElem?_eq_getElem (by rw [x.len]; exact hj)]; rfl
  have := h (j + 1) _ this
  rw [show o + (j + 1) = o + 1 + j by omega] at this; exact this
theorem list256 {a b : List Int} (ha : a.length = 256) (hb : b.length = 256) (h : ∀ j, j < 256 → a.getD j 0 = b.getD j 0) : a = b := by
  apply List.ext_getElem?
  intro j
  by_cases hj : j < 256
  · have := h j hj
    rw [List.getD_eq_getElem?_getD, List.getD_eq_getElem?_getD, List.getElem?_eq_getElem (by omega), List.getElem?_eq_getElem (by omega)] at this
    rw [List.getElem?_eq_getElem (by omega), List.getElem?_eq_getElem (by omega)]
    simpa using this
  · rw [List.getElem?_eq_none (by omega), List.getElem?_eq_none (by omega)]
/-- A thing is read. -/
theorem xT {H : Hp} {b o : Nat} {x : Th} (h : isTh H b o x) (P : Int → List Int → Prop) :
    (∃ w : Int, cel H b o = some (.int .i64 w) ∧ ∃ of : List Int, (of.length = 256 ∧ ∀ j, j < 256 → cel H b (o + 1 + j) = some (.int .u8 (of.getD j 0))) ∧ P w of) = P x.w x.o := by
  apply propext; constructor
  · rintro ⟨w, e1, of, ⟨hl, e2⟩, p⟩
    rw [h.w] at e1; cases e1
    have : of = x.o := list256 hl x.len fun j hj => by
      have a := e2 j hj
      rw [h.o hj] at a
      injection a with a; injection a with _ a; exact a.symm
    rw [← this]; exact p
  · intro p
    exact ⟨_, h.w, _, ⟨x.len, fun j hj => h.o hj⟩, p⟩
theorem fitsTh (x : Th) (p : Prop) : fitsN (List.map (Value.int .u8) x.o ++ [] : List Value) 256 p = p := by
  apply propext; rw [fitsN_iff]; simp [x.len]
abbrev thR := rowR isTh 257
def ownTh (H : Hp) (base : Nat) (A : Option Addr) (n c : Nat) (xs : List Th) : Prop := ownC H base 180 257 A n c (xs.flatMap encTh)
theorem ownTh.len {H : Hp} {base : Nat} {A : Option Addr} {n c : Nat} {xs : List Th} (h : ownTh H base A n c xs) : xs.length = n := by
  have h1 := h.1
  have h2 := (flatMap_get encTh 257 xs fun x _ => encTh_len x).1
  rw [h2] at h1
  exact Nat.eq_of_mul_eq_mul_right (by decide) h1
theorem ownTh.row {H : Hp} {base : Nat} {A : Option Addr} {n c : Nat} {xs : List Th} (h : ownTh H base A n c xs) : thR H A n xs :=
  ownC.row encTh encTh_len h (by decide) fun b o x _ hc => hc
theorem ownTh.keeps {H H' : Hp} {base : Nat} {A : Option Addr} {n c : Nat} {xs : List Th} (h : ownTh H base A n c xs) (k : Keeps H H') : ownTh H' base A n c xs := ownC.keeps h k
theorem ownTh.at {H : Hp} {base b n c : Nat} {xs : List Th} (h : ownTh H base (some ⟨b, 0, none⟩) n c xs) {i : Nat} (hi : i < n) : ∃ x, xs[i]? = some x ∧ isTh H b (0 + i * 257) x := by
  obtain ⟨x, b', o', h1, h2, h3⟩ := h.row.at (i := (i : Int)) (by omega) (by omega)
  cases h2
  exact ⟨x, h1, h3⟩
theorem ownTh.set {H : Hp} {base b n c : Nat} {xs : List Th} (h : ownTh H base (some ⟨b, 0, none⟩) n c xs) {i : Nat} (hi : i < n) (y : Th) :
    canPut H b (0 + i * 257) (encTh y) ∧ ownTh (hput H b (0 + i * 257) (encTh y)) base (some ⟨b, 0, none⟩) n c (xs.set i y) := by
  have hl := h.len
  exact own_set encTh encTh_len encTh_one h (i := i) (by omega) hl y
def cmpW (x y : Th) : Int := if x.w < y.w then -1 else if y.w < x.w then 1 else 0
theorem cmpW_neg (x y : Th) : cmpW x y < 0 ↔ x.w < y.w := by unfold cmpW; split <;> (try split) <;> omega
abbrev cmpV : Value := .func (.func 171) #[] #[]
theorem f171.spec (φ : Fx) (x y : Th) (H : Hp) : HCalls cx.P φ 171 [.agg (encTh x).toArray, .agg (encTh y).toArray] H fun r H' => r = .int .i64 (cmpW x y) ∧ Keeps H H' := by
  apply f171.of
  unfold f171.VC
  intro H1
  have o1 : objAt H1 H.size (encTh x).toArray 180 := objAt_new ..
  have k1 : Keeps H H1 := Keeps.push ..
  clear_value H1
  intro H2
  have o2 : objAt H2 H1.size (encTh y).toArray 180 := objAt_new ..
  have k12 : Keeps H1 H2 := Keeps.push ..
  clear_value H2
  have e1 : cel H2 H.size 0 = some (.int .i64 x.w) := by rw [objAt_cel (k12.obj o1)]; rfl
  have e2 : cel H2 H1.size 0 = some (.int .i64 y.w) := by rw [objAt_cel o2]; rfl
  simp -zeta only [xI e1, xI e2]
  have k := k1.trans k12
  refine ⟨fun h => ⟨?_, k⟩, fun h => ⟨fun h2 => ⟨?_, k⟩, fun h2 => ⟨?_, k⟩⟩⟩ <;> simp only [decide_eq_true_eq, decide_eq_false_iff_not] at * <;> simp [cmpW, *]
theorem cmp_call (φ : Fx) (x y : Th) (H : Hp) {K : Value → Hp → Prop} (hK : ∀ H', Keeps H H' → K (.int .i64 (cmpW x y)) H') :
    callW cx φ cmpV [.agg (Value.int .i64 x.w :: (List.map (Value.int .u8) x.o ++ [])).toArray, .agg (Value.int .i64 y.w :: (List.map (Value.int .u8) y.o ++ [])).toArray] H K := by
  show HCalls cx.P φ 171 [.agg (encTh x).toArray, .agg (encTh y).toArray] H K
  refine HCalls.mono (f171.spec φ x y H) ?_
  rintro v H' ⟨rfl, k⟩
  exact hK H' k
theorem f198.spec (φ : Fx) {b n c base : Nat} {xs : List Th} {H : Hp} (own : ownTh H base (some ⟨b, 0, none⟩) n c xs) (hn : n ≤ 1099511627776) (i0 k0 m : Nat) (h1 : i0 + m ≤ k0) (h2 : k0 + m ≤ n) (cv : Value) :
    HCalls cx.P φ 198 [.slice (some ⟨b, 0, none⟩) n c, .int .i64 (i0 : Int), .int .i64 (k0 : Int), .int .i64 (m : Int), cv] H fun r H' => r = .tuple #[] ∧ offA (some ⟨b, 0, none⟩) H H' ∧ ∃ ys, isSw xs ys i0 k0 m ∧ ownTh H' base (some ⟨b, 0, none⟩) n c ys := by
  apply f198.of
  unfold f198.VC
  have hl := own.len
  refine ⟨fun i H' => 0 ≤ i ∧ i ≤ m ∧ offA (some ⟨b, 0, none⟩) H H' ∧ ∃ ys, isSw xs ys i0 k0 i.toNat ∧ ownTh H' base (some ⟨b, 0, none⟩) n c ys, fun i _ => (m - i).toNat,
    ⟨by omega, by omega, offA.refl .., xs, ⟨rfl, fun k => by rw [if_neg (by simp), if_neg (by simp)]⟩, own⟩, ?_⟩
  rintro i _ H1 ⟨h0, hm, f, ys, sw, ow⟩
  refine ⟨fun hi => ?_, fun hi => ?_⟩
  · simp only [decide_eq_true_eq] at hi
    have e1 : Int.toNat ((k0 : Int) + i) = k0 + i.toNat := by omega
    have e2 : Int.toNat ((i0 : Int) + i) = i0 + i.toNat := by omega
    obtain ⟨x, hx, tx⟩ := ow.at (i := k0 + i.toNat) (by omega)
    obtain ⟨y, hy, ty⟩ := ow.at (i := i0 + i.toNat) (by omega)
    obtain ⟨p1, p2⟩ := ow.set (i := i0 + i.toNat) (by omega) x
    obtain ⟨q1, q2⟩ := p2.set (i := k0 + i.toNat) (by omega) y
    simp -zeta only [xA, e1, e2, xT tx, xT ty, fitsTh]
    refine ⟨by omega, by omega, by omega, ⟨by omega, by omega⟩, by omega, ⟨by omega, by omega⟩, ⟨by omega, by omega⟩, p1, ?_⟩
    intro H2
    refine ⟨⟨by omega, by omega⟩, q1, ?_⟩
    intro H3
    refine ⟨by omega, ⟨by omega, by omega, (f.put _ _).put _ _, _, ?_, q2⟩, by omega⟩
    rw [show (i + 1).toNat = i.toNat + 1 by omega]
    exact isSw_step sw (by omega) hx hy
  · simp only [decide_eq_false_iff_not] at hi
    rw [show i.toNat = m by omega] at sw
    exact ⟨rfl, f, ys, sw, ow⟩
theorem f197.spec (φ : Fx) {b n c base : Nat} {p U V s : List Th} {H : Hp} (own : ownTh H base (some ⟨b, 0, none⟩) n c (p ++ U ++ V ++ s)) (hn : n ≤ 1099511627776) (hU : 0 < U.length) (hV : 0 < V.length) {a m e : Nat} (ha : a = p.length) (hm : m = p.length + U.length) (he : e = p.length + U.length + V.length) (cv : Value) :
    HCalls cx.P φ 197 [.slice (some ⟨b, 0, none⟩) n c, .int .i64 (a : Int), .int .i64 (m : Int), .int .i64 (e : Int), cv] H fun r H' => r = .tuple #[] ∧ offA (some ⟨b, 0, none⟩) H H' ∧ ownTh H' base (some ⟨b, 0, none⟩) n c (p ++ V ++ U ++ s) := by
  apply f197.of
  unfold f197.VC
  have hl := own.len
  simp only [List.length_append] at hl
  subst ha; subst hm; subst he
  refine ⟨by omega, by omega, ?_⟩
  -- p' ++ U' ++ V' ++ s' with |p' ++ U'| = m; the end is p' ++ V' ++ U' ++ s'
  refine ⟨fun i j H' => offA (some ⟨b, 0, none⟩) H H' ∧ ∃ p' U' V' s', ownTh H' base (some ⟨b, 0, none⟩) n c (p' ++ U' ++ V' ++ s') ∧ (p'.length + U'.length = p.length + U.length) ∧ (U'.length : Int) = i ∧ (V'.length : Int) = j ∧ 0 < i ∧ 0 < j ∧ p' ++ V' ++ U' ++ s' = p ++ V ++ U ++ s, fun i j _ => (i + j).toNat,
    ⟨offA.refl .., p, U, V, s, own, rfl, by omega, by omega, by omega, by omega, rfl⟩, ?_⟩
  rintro i j _ H1 ⟨f, p', U', V', s', ow, hpu, hi, hj, hi0, hj0, heq⟩
  have hl' := ow.len
  simp only [List.length_append] at hl'
  refine ⟨fun hne => ?_, fun hq => ?_⟩
  · have hne : i ≠ j := by simpa using hne
    refine ⟨fun i2 j2 H' => (offA (some ⟨b, 0, none⟩) H H' ∧ ∃ p' U' V' s', ownTh H' base (some ⟨b, 0, none⟩) n c (p' ++ U' ++ V' ++ s') ∧ (p'.length + U'.length = p.length + U.length) ∧ (U'.length : Int) = i2 ∧ (V'.length : Int) = j2 ∧ 0 < i2 ∧ 0 < j2 ∧ p' ++ V' ++ U' ++ s' = p ++ V ++ U ++ s) ∧ (i2 + j2).toNat < (i + j).toNat, ⟨fun hlt => ?_, fun hlt => ?_⟩, fun i2 j2 _ H2 h => h⟩
    · simp only [decide_eq_true_eq] at hlt
      have c1 : ((p.length + U.length : Nat) : Int) - i = ((p'.length : Nat) : Int) := by omega
      have c2 : j = ((V'.length : Nat) : Int) := by omega
      rw [c1, c2]
      refine ⟨by omega, HCalls.mono (f198.spec φ ow hn p'.length (p.length + U.length) V'.length (by omega) (by omega) cv) ?_⟩
      rintro r H2 ⟨rfl, f2, ys, sw, ow2⟩
      have dec : p' ++ U' ++ V' ++ s' = p' ++ U'.take V'.length ++ U'.drop V'.length ++ V' ++ s' := by
        rw [List.append_assoc p' (U'.take _), List.take_append_drop]
      rw [dec] at sw
      have hm1 : (U'.take V'.length).length = V'.length := by simp; omega
      have hb : (p' ++ U'.take V'.length ++ U'.drop V'.length).length = p.length + U.length := by simp; omega
      rw [← hb] at sw
      have := isSw_parts hm1 rfl sw
      rw [this] at ow2
      refine ⟨rfl, by omega, ⟨f.step (Or.inl rfl) f2, p' ++ V', U'.drop V'.length, U'.take V'.length, s', ow2, by simp; omega, by simp; omega, by simp; omega, by omega, by omega, ?_⟩, by omega⟩
      rw [← heq, List.append_assoc (p' ++ V'), List.take_append_drop]
    · simp only [decide_eq_false_iff_not] at hlt
      have c1 : ((p.length + U.length : Nat) : Int) - i = ((p'.length : Nat) : Int) := by omega
      have c3 : ((p.length + U.length : Nat) : Int) + j - i = ((p.length + U.length + V'.length - U'.length : Nat) : Int) := by omega
      have c2 : i = ((U'.length : Nat) : Int) := by omega
      refine ⟨by omega, by omega, by omega, ?_⟩
      rw [c1, c3, c2]
      refine HCalls.mono (f198.spec φ ow hn p'.length (p.length + U.length + V'.length - U'.length) U'.length (by omega) (by omega) cv) ?_
      rintro r H2 ⟨rfl, f2, ys, sw, ow2⟩
      have dec : p' ++ U' ++ V' ++ s' = p' ++ U' ++ V'.take (V'.length - U'.length) ++ V'.drop (V'.length - U'.length) ++ s' := by
        rw [List.append_assoc (p' ++ U') (V'.take _), List.take_append_drop]
      rw [dec] at sw
      have hm1 : (V'.drop (V'.length - U'.length)).length = U'.length := by simp; omega
      have hb : (p' ++ U' ++ V'.take (V'.length - U'.length)).length = p.length + U.length + V'.length - U'.length := by simp; omega
      rw [← hb] at sw
      have := isSw_parts rfl hm1 sw
      rw [this] at ow2
      refine ⟨rfl, by omega, ⟨f.step (Or.inl rfl) f2, p', V'.drop (V'.length - U'.length), V'.take (V'.length - U'.length), U' ++ s', by simpa using ow2, by simp; omega, by simp; omega, by simp; omega, by omega, by omega, ?_⟩, by omega⟩
      rw [← heq, List.append_assoc p' (V'.take _), List.take_append_drop]
      simp
  · have hq : i = j := by simpa using hq
    have c1 : ((p.length + U.length : Nat) : Int) - i = ((p'.length : Nat) : Int) := by omega
    have c2 : i = ((V'.length : Nat) : Int) := by omega
    rw [c1, c2]
    refine ⟨by omega, HCalls.mono (f198.spec φ ow hn p'.length (p.length + U.length) V'.length (by omega) (by omega) cv) ?_⟩
    rintro r H2 ⟨rfl, f2, ys, sw, ow2⟩
    have dec : p' ++ U' ++ V' ++ s' = p' ++ U' ++ [] ++ V' ++ s' := by simp
    rw [dec] at sw
    have hb : (p' ++ U' ++ []).length = p.length + U.length := by simp; omega
    rw [← hb] at sw
    have := isSw_parts (by omega) rfl sw
    rw [this] at ow2
    refine ⟨rfl, rfl, f.step (Or.inl rfl) f2, ?_⟩
    rw [← heq]; simpa using ow2
end Go.Proofs.Ytkkjjjgcfnhabaa.Eng
namespace Go.Proofs.Ytkkjjjgcfnhabaa.Eng
open Go Go.Proofs
theorem swap_adj {α : Type} (x y : α) (post : List α) : ∀ (pre : List α), ((pre ++ y :: x :: post).set (pre.length + 1) y).set pre.length x = pre ++ x :: y :: post
  | [] => rfl
  | a :: r => by simp [swap_adj x y post r]
theorem swap_adj' {α : Type} (x y : α) (post : List α) : ∀ (pre : List α), ((pre ++ y :: x :: post).set pre.length x).set (pre.length + 1) y = pre ++ x :: y :: post
  | [] => rfl
  | a :: r => by simp [swap_adj' x y post r]
theorem at_len {α : Type} (pre : List α) (x : α) (post : List α) : (pre ++ x :: post)[pre.length]? = some x := by simp
theorem at_len1 {α : Type} (pre : List α) (x y : α) (post : List α) : (pre ++ x :: y :: post)[pre.length + 1]? = some y := by
  rw [List.getElem?_append_right (by omega)]; simp
section
variable (rk : Th → Nat)
theorem srt_w {l : List Th} (h : srt rk l) {i j : Nat} {x y : Th} (hij : i ≤ j) (hx : l[i]? = some x) (hy : l[j]? = some y) : x.w ≤ y.w := by
  rcases Nat.eq_or_lt_of_le hij with e | e
  · subst e; rw [hx] at hy; cases hy; omega
  · have hi := (List.getElem?_eq_some_iff.1 hx)
    have hj := (List.getElem?_eq_some_iff.1 hy)
    obtain ⟨h1, rfl⟩ := hi
    obtain ⟨h2, rfl⟩ := hj
    have := List.pairwise_iff_getElem.1 h i j h1 h2 e
    unfold lx at this; omega
theorem srt_short {l : List Th} (h : l.length ≤ 1) : srt rk l := by
  match l, h with
  | [], _ => exact List.Pairwise.nil
  | [x], _ => exact List.pairwise_singleton ..
theorem half (i j : Int) (h0 : 0 ≤ i + j) (h1 : i + j ≤ 9223372036854775807) : IntKind.wrap .i64 ((IntKind.wrap .u64 (i + j)) / 2) = (i + j) / 2 := by
  rw [wrap_u64, Int.emod_eq_of_lt h0 (by omega), wrap_in .i64 _ ⟨by show (-9223372036854775808 : Int) ≤ _; omega, by show _ ≤ (9223372036854775807 : Int); omega⟩]
theorem f194.spec (φ : Fx) {b n c base : Nat} {p q s : List Th} {H : Hp} (own : ownTh H base (some ⟨b, 0, none⟩) n c (p ++ q ++ s)) (hn : n ≤ 1099511627776) (hr : rin rk q) {a e : Nat} (ha : a = p.length) (he : e = p.length + q.length) :
    HCalls cx.P φ 194 [.slice (some ⟨b, 0, none⟩) n c, .int .i64 (a : Int), .int .i64 (e : Int), cmpV] H fun r H' => r = .tuple #[] ∧ offA (some ⟨b, 0, none⟩) H H' ∧ ∃ q', q'.Perm q ∧ srt rk q' ∧ ownTh H' base (some ⟨b, 0, none⟩) n c (p ++ q' ++ s) := by
  apply f194.of
  unfold f194.VC
  have hl := own.len
  simp only [List.length_append] at hl
  subst ha; subst he
  refine ⟨by omega, ?_⟩
  refine ⟨fun i H' => (p.length : Int) + 1 ≤ i ∧ offA (some ⟨b, 0, none⟩) H H' ∧ ∃ q1, q1.Perm (q.take (i - p.length).toNat) ∧ srt rk q1 ∧ ownTh H' base (some ⟨b, 0, none⟩) n c (p ++ q1 ++ q.drop (i - p.length).toNat ++ s), fun i _ => (((p.length + q.length : Nat) : Int) - i).toNat,
    ⟨by omega, offA.refl .., q.take 1, by rw [show ((p.length : Int) + 1 - p.length).toNat = 1 by omega], srt_short rk (by simp; omega), by rw [show ((p.length : Int) + 1 - p.length).toNat = 1 by omega, List.append_assoc p, List.take_append_drop]; exact own⟩, ?_⟩
  rintro i _ H1 ⟨hi0, f1, q1, pm, st, ow⟩
  refine ⟨fun hi => ?_, fun hi => ?_⟩
  · simp only [decide_eq_true_eq] at hi
    generalize hk : (i - p.length).toNat = k at pm ow
    have hkq : k < q.length := by omega
    have hx := List.getElem?_eq_getElem hkq
    generalize q[k] = x at hx
    rw [drop_at hx] at ow
    have lq1 := pm.length_eq
    simp only [List.length_take] at lq1
    have hrk : ∀ y ∈ q1, rk y < rk x := by
      intro y hy
      have hy' := pm.mem_iff.1 hy
      obtain ⟨j, hj⟩ := List.mem_iff_getElem?.1 hy'
      rw [List.getElem?_take] at hj
      split at hj
      · rename_i hjk
        obtain ⟨h1, rfl⟩ := List.getElem?_eq_some_iff.1 hj
        obtain ⟨h2, rfl⟩ := List.getElem?_eq_some_iff.1 hx
        exact List.pairwise_iff_getElem.1 hr j k h1 h2 hjk
      · cases hj
    refine ⟨fun j H' => offA (some ⟨b, 0, none⟩) H H' ∧ ∃ u v, u ++ v = q1 ∧ j = p.length + u.length ∧ (∀ y ∈ v, lx rk x y) ∧ ownTh H' base (some ⟨b, 0, none⟩) n c (p ++ u ++ x :: (v ++ (q.drop (k + 1) ++ s))), fun j _ => j.toNat,
      ⟨f1, q1, [], by simp, by omega, by simp, by simpa using ow⟩, ?_⟩
    rintro j _ H2 ⟨f2, u, v, huv, hj, hv, ow2⟩
    have hl2 := ow2.len
    simp only [List.length_append, List.length_cons, List.length_drop] at hl2
    have huvl := congrArg List.length huv
    simp only [List.length_append] at huvl
    -- the next round
    have done : (∀ y ∈ u, lx rk y x) → ∀ H4, offA (some ⟨b, 0, none⟩) H H4 → ownTh H4 base (some ⟨b, 0, none⟩) n c (p ++ u ++ x :: (v ++ (q.drop (k + 1) ++ s))) →
        (p.length : Int) + 1 ≤ i + 1 ∧ offA (some ⟨b, 0, none⟩) H H4 ∧ ∃ q1, q1.Perm (q.take (i + 1 - p.length).toNat) ∧ srt rk q1 ∧ ownTh H4 base (some ⟨b, 0, none⟩) n c (p ++ q1 ++ q.drop (i + 1 - p.length).toNat ++ s) := by
      intro hu H4 f4 o4
      have e1 : (i + 1 - p.length).toNat = k + 1 := by omega
      rw [e1]
      refine ⟨by omega, f4, u ++ x :: v, ?_, srt_insert rk (by rw [huv]; exact st) hu hv, by simpa using o4⟩
      have t1 : q.take (k + 1) = q.take k ++ [x] := by rw [List.take_add_one, hx]; rfl
      rw [t1]
      have a1 : (u ++ x :: v).Perm (x :: (u ++ v)) := List.perm_middle
      rw [huv] at a1
      exact a1.trans ((List.Perm.cons x pm).trans (List.perm_append_singleton x _).symm)
    refine ⟨fun y H' => (y = true → ∃ u' z, u = u' ++ [z] ∧ x.w < z.w) ∧ (y = false → ∀ z ∈ u, lx rk z x) ∧ Keeps H2 H', ⟨fun hlt => ?_, fun hlt => ?_⟩, ?_⟩
    · simp only [decide_eq_true_eq] at hlt
      obtain ⟨u', z, rfl⟩ : ∃ u' z, u = u' ++ [z] := by
        rcases List.eq_nil_or_concat u with e | ⟨u', z, e⟩
        · subst e; simp at hj; omega
        · exact ⟨u', z, by simpa using e⟩
      simp only [List.length_append, List.length_cons, List.length_nil] at hj hl2 huvl
      have ow2' : ownTh H2 base (some ⟨b, 0, none⟩) n c ((p ++ u') ++ z :: x :: (v ++ (q.drop (k + 1) ++ s))) := by simpa using ow2
      obtain ⟨x', hx', tx⟩ := ow2'.at (i := p.length + u'.length + 1) (by omega)
      have g1 := at_len1 (p ++ u') z x (v ++ (q.drop (k + 1) ++ s))
      rw [List.length_append, hx'] at g1
      cases g1
      obtain ⟨z', hz', tz⟩ := ow2'.at (i := p.length + u'.length) (by omega)
      have g2 := at_len (p ++ u') z (x :: (v ++ (q.drop (k + 1) ++ s)))
      rw [List.length_append, hz'] at g2
      cases g2
      have e1 : Int.toNat j = p.length + u'.length + 1 := by omega
      have e2 : Int.toNat (j - 1) = p.length + u'.length := by omega
      simp -zeta only [xA, e1, e2, xT tx, xT tz]
      refine ⟨⟨by omega, by omega⟩, by omega, ⟨by omega, by omega⟩, cmp_call φ x z H2 fun H3 k3 => ⟨_, rfl, fun h => ?_, fun h => ?_, k3⟩⟩
      · simp only [decide_eq_true_eq] at h
        exact ⟨u', z, rfl, (cmpW_neg x z).1 h⟩
      · simp only [decide_eq_false_iff_not] at h
        have hw : ¬ x.w < z.w := fun q => h ((cmpW_neg x z).2 q)
        have hz := hrk z (by rw [← huv]; simp)
        have su : srt rk (u' ++ [z]) := ((srt_app rk).1 (by rw [huv]; exact st)).1
        exact srt_last rk su (by unfold lx; omega)
    · simp only [decide_eq_false_iff_not] at hlt
      have : u = [] := List.eq_nil_of_length_eq_zero (by omega)
      subst this
      exact ⟨fun h => (nomatch h), fun _ z hz => by simp at hz, Keeps.refl _⟩
    · rintro y _ H4 ⟨ht, hf, k4⟩
      have f4 := f2.keep k4
      have ow4 := ow2.keeps k4
      refine ⟨fun hy => ?_, fun hy => ⟨by omega, done (hf hy) H4 f4 ow4, by dsimp only; omega⟩⟩
      obtain ⟨u', z, rfl, hw⟩ := ht hy
      simp only [List.length_append, List.length_cons, List.length_nil] at hj hl2 huvl
      have ow4' : ownTh H4 base (some ⟨b, 0, none⟩) n c ((p ++ u') ++ z :: x :: (v ++ (q.drop (k + 1) ++ s))) := by simpa using ow4
      obtain ⟨x', hx', tx⟩ := ow4'.at (i := p.length + u'.length + 1) (by omega)
      have g1 := at_len1 (p ++ u') z x (v ++ (q.drop (k + 1) ++ s))
      rw [List.length_append, hx'] at g1
      cases g1
      obtain ⟨z', hz', tz⟩ := ow4'.at (i := p.length + u'.length) (by omega)
      have g2 := at_len (p ++ u') z (x :: (v ++ (q.drop (k + 1) ++ s)))
      rw [List.length_append, hz'] at g2
      cases g2
      have e1 : Int.toNat j = p.length + u'.length + 1 := by omega
      have e2 : Int.toNat (j - 1) = p.length + u'.length := by omega
      obtain ⟨p1, p2⟩ := ow4'.set (i := p.length + u'.length + 1) (by omega) z
      obtain ⟨r1, r2⟩ := p2.set (i := p.length + u'.length) (by omega) x
      have sw := swap_adj x z (v ++ (q.drop (k + 1) ++ s)) (p ++ u')
      rw [List.length_append] at sw
      rw [sw] at r2
      simp -zeta only [xA, e1, e2, xT tx, xT tz, fitsTh]
      refine ⟨by omega, by omega, ⟨by omega, by omega⟩, ⟨by omega, by omega⟩, ⟨by omega, by omega⟩, p1, ?_⟩
      intro H5
      refine ⟨⟨by omega, by omega⟩, r1, ?_⟩
      intro H6
      refine ⟨by omega, ⟨(f4.put _ _).put _ _, u', z :: v, by rw [← huv]; simp, by omega, fun y hy => ?_, r2⟩, by omega⟩
      rcases List.mem_cons.1 hy with e | e
      · subst e; exact Or.inl hw
      · exact hv y e
  · simp only [decide_eq_false_iff_not] at hi
    have e1 : q.length ≤ (i - p.length).toNat := by omega
    rw [List.take_of_length_le e1] at pm
    rw [List.drop_eq_nil_of_le e1] at ow
    exact ⟨rfl, f1, q1, pm, st, by simpa using ow⟩
end
end Go.Proofs.Ytkkjjjgcfnhabaa.Eng
namespace Go.Proofs.Ytkkjjjgcfnhabaa.Eng
open Go Go.Proofs
section
variable (rk : Th → Nat)
theorem getA {p A B s : List Th} {c : Nat} (h : c < p.length + A.length) (h0 : p.length ≤ c) : (p ++ A ++ B ++ s)[c]? = A[c - p.length]? := by
  rw [List.getElem?_append_left (by simp; omega), List.getElem?_append_left (by simp; omega), List.getElem?_append_right (by omega)]
theorem getB {p A B s : List Th} {c : Nat} (h0 : p.length + A.length ≤ c) (h : c < p.length + A.length + B.length) : (p ++ A ++ B ++ s)[c]? = B[c - (p.length + A.length)]? := by
  rw [List.getElem?_append_left (by simp; omega), List.getElem?_append_right (by simp; omega)]; simp
theorem snoc_of {l : List Th} {x : Th} {k : Nat} (h : l[k]? = some x) : l.take (k + 1) = l.take k ++ [x] := by rw [List.take_add_one, h]; rfl
/-- The one thing on the left goes to its place. -/
theorem merge1 {x : Th} {B : List Th} {i : Nat} (hB : srt rk B) (hr : rbe rk [x] B) (h1 : ∀ (k : Nat) (y : Th), k < i → B[k]? = some y → y.w < x.w) (h2 : ∀ (k : Nat) (y : Th), i ≤ k → B[k]? = some y → ¬ y.w < x.w) :
    srt rk (B.take i ++ x :: B.drop i) := by
  refine srt_insert rk (by rw [List.take_append_drop]; exact hB) (fun y hy => ?_) (fun y hy => ?_)
  · obtain ⟨k, hk⟩ := List.mem_iff_getElem?.1 hy
    rw [List.getElem?_take] at hk
    split at hk
    · rename_i hki; exact Or.inl (h1 k y hki hk)
    · cases hk
  · obtain ⟨k, hk⟩ := List.mem_iff_getElem?.1 hy
    rw [List.getElem?_drop] at hk
    have a := h2 _ y (Nat.le_add_right i k) hk
    have b := hr x (by simp) y (List.mem_iff_getElem?.2 ⟨_, hk⟩)
    unfold lx; omega
theorem merge2 {x : Th} {A : List Th} {i : Nat} (hA : srt rk A) (hr : rbe rk A [x]) (h1 : ∀ (k : Nat) (y : Th), k < i → A[k]? = some y → ¬ x.w < y.w) (h2 : ∀ (k : Nat) (y : Th), i ≤ k → A[k]? = some y → x.w < y.w) :
    srt rk (A.take i ++ x :: A.drop i) := by
  refine srt_insert rk (by rw [List.take_append_drop]; exact hA) (fun y hy => ?_) (fun y hy => ?_)
  · obtain ⟨k, hk⟩ := List.mem_iff_getElem?.1 hy
    rw [List.getElem?_take] at hk
    split at hk
    · rename_i hki
      have a := h1 k y hki hk
      have b := hr y (List.mem_iff_getElem?.2 ⟨_, hk⟩) x (by simp)
      unfold lx; omega
    · cases hk
  · obtain ⟨k, hk⟩ := List.mem_iff_getElem?.1 hy
    rw [List.getElem?_drop] at hk
    exact Or.inl (h2 _ y (Nat.le_add_right i k) hk)
theorem f195.left (φ : Fx) {b n c base : Nat} {p A B s : List Th} {H : Hp} (own : ownTh H base (some ⟨b, 0, none⟩) n c (p ++ A ++ B ++ s)) (hn : n ≤ 1099511627776) (hAl : 0 < A.length) (hBl : 0 < B.length) (hA : srt rk A) (hB : srt rk B) (hr : rbe rk A B)
    {a m e : Nat} (ha : a = p.length) (hm : m = p.length + A.length) (he : e = p.length + A.length + B.length) (h1 : A.length = 1) :
    HCalls cx.P φ 195 [.slice (some ⟨b, 0, none⟩) n c, .int .i64 (a : Int), .int .i64 (m : Int), .int .i64 (e : Int), cmpV] H fun r H' => r = .tuple #[] ∧ offA (some ⟨b, 0, none⟩) H H' ∧ ∃ C, C.Perm (A ++ B) ∧ srt rk C ∧ ownTh H' base (some ⟨b, 0, none⟩) n c (p ++ C ++ s) := by
  apply f195.of
  unfold f195.VC
  have hl := own.len
  simp only [List.length_append] at hl
  subst ha
  refine ⟨by omega, fun hone => ?_, fun hone => ?_⟩
  · -- one thing on the left
    simp only [decide_eq_true_eq] at hone
    obtain ⟨x, rfl⟩ : ∃ x, A = [x] := by
      match A, hAl with
      | [x], _ => exact ⟨x, rfl⟩
      | x :: y :: r, _ => simp at hm; omega
    simp only [List.length_cons, List.length_nil] at *
    have hx0 : (p ++ [x] ++ B ++ s)[p.length]? = some x := by simp
    refine ⟨fun i j H' => (m : Int) ≤ i ∧ i ≤ j ∧ j ≤ e ∧ offA (some ⟨b, 0, none⟩) H H' ∧ ownTh H' base (some ⟨b, 0, none⟩) n c (p ++ [x] ++ B ++ s) ∧
        (∀ (k : Nat) (y : Th), (k : Int) < i - m → B[k]? = some y → y.w < x.w) ∧ (∀ (k : Nat) (y : Th), j - m ≤ (k : Int) → B[k]? = some y → ¬ y.w < x.w), fun i j _ => (j - i).toNat,
      ⟨by omega, by omega, by omega, offA.refl .., own, fun k y hk => by omega, fun k y hk hy => by have := (List.getElem?_eq_some_iff.1 hy).1; omega⟩, ?_⟩
    rintro i j _ H1 ⟨i0, ij, je, f1, ow, L, R⟩
    refine ⟨fun hij => ?_, fun hij => ?_⟩
    · simp only [decide_eq_true_eq] at hij
      have hh := half i j (by omega) (by omega)
      obtain ⟨h, hh2⟩ : ∃ h : Nat, (i + j) / 2 = (h : Int) := ⟨((i + j) / 2).toNat, by omega⟩
      rw [hh, hh2]
      have hb1 : m ≤ h ∧ h < e := by omega
      obtain ⟨y, hy, ty⟩ := ow.at (i := h) (by omega)
      have gy := hy
      rw [getB (p := p) (A := [x]) (by simp; omega) (by simp; omega)] at gy
      simp only [List.length_cons, List.length_nil] at gy
      obtain ⟨x', hx', tx⟩ := ow.at (i := p.length) (by omega)
      rw [hx0] at hx'; cases hx'
      simp -zeta only [xA, Int.toNat_natCast, xT ty, xT tx]
      refine ⟨by omega, by omega, ⟨by omega, by omega⟩, ⟨by omega, by omega⟩, cmp_call φ y x H1 fun H2 k2 => ⟨_, rfl, ?_⟩⟩
      have mono : ∀ (k : Nat) (z : Th), B[k]? = some z → (k ≤ h - (p.length + (0 + 1)) → z.w ≤ y.w) ∧ (h - (p.length + (0 + 1)) ≤ k → y.w ≤ z.w) := fun k z hz => ⟨fun q => srt_w rk hB q hz gy, fun q => srt_w rk hB q gy hz⟩
      refine ⟨fun i2 j2 H' => ((m : Int) ≤ i2 ∧ i2 ≤ j2 ∧ j2 ≤ e ∧ offA (some ⟨b, 0, none⟩) H H' ∧ ownTh H' base (some ⟨b, 0, none⟩) n c (p ++ [x] ++ B ++ s) ∧
        (∀ (k : Nat) (y : Th), (k : Int) < i2 - m → B[k]? = some y → y.w < x.w) ∧ (∀ (k : Nat) (y : Th), j2 - m ≤ (k : Int) → B[k]? = some y → ¬ y.w < x.w)) ∧ (j2 - i2).toNat < (j - i).toNat, ⟨fun hc => ?_, fun hc => ?_⟩, fun i2 j2 _ H' h => h⟩
      · simp only [decide_eq_true_eq] at hc
        have hw := (cmpW_neg y x).1 hc
        exact ⟨by omega, ⟨by omega, by omega, by omega, f1.keep k2, ow.keeps k2, fun k z hk hz => by have := (mono k z hz).1 (by omega); omega, R⟩, by omega⟩
      · simp only [decide_eq_false_iff_not] at hc
        have hw : ¬ y.w < x.w := fun q => hc ((cmpW_neg y x).2 q)
        exact ⟨⟨by omega, by omega, by omega, f1.keep k2, ow.keeps k2, L, fun k z hk hz => by have := (mono k z hz).2 (by omega); omega⟩, by omega⟩
    · simp only [decide_eq_false_iff_not] at hij
      obtain ⟨t, ht⟩ : ∃ t : Nat, i - m = (t : Int) := ⟨(i - m).toNat, by omega⟩
      have htB : t ≤ B.length := by omega
      have S := merge1 rk hB hr (i := t) (fun k y hk hy => L k y (by omega) hy) (fun k y hk hy => R k y (by omega) hy)
      have lt1 : (B.take t).length = t := by simp; omega
      refine ⟨fun k H' => (p.length : Int) ≤ k ∧ k ≤ p.length + t ∧ offA (some ⟨b, 0, none⟩) H H' ∧ ownTh H' base (some ⟨b, 0, none⟩) n c ((p ++ B.take (k - p.length).toNat) ++ x :: (B.drop (k - p.length).toNat ++ s)), fun k _ => (i - 1 - k).toNat,
        ⟨by omega, by omega, f1, by simpa using ow⟩, ?_⟩
      rintro k _ H4 ⟨k0, k1, f4, o4⟩
      refine ⟨by omega, fun hk => ?_, fun hk => ?_⟩
      · simp only [decide_eq_true_eq] at hk
        obtain ⟨d, hd⟩ : ∃ d : Nat, k - p.length = (d : Int) := ⟨(k - p.length).toNat, by omega⟩
        have hdt : (k - p.length).toNat = d := by omega
        rw [hdt] at o4
        have hdB : d < B.length := by omega
        have hz := List.getElem?_eq_getElem hdB
        generalize B[d] = z at hz
        rw [drop_at hz] at o4
        have o4' : ownTh H4 base (some ⟨b, 0, none⟩) n c ((p ++ B.take d) ++ x :: z :: (B.drop (d + 1) ++ s)) := o4
        have lpre : (p ++ B.take d).length = p.length + d := by simp; omega
        obtain ⟨z', hz', tz⟩ := o4'.at (i := p.length + d + 1) (by omega)
        have g1 := at_len1 (p ++ B.take d) x z (B.drop (d + 1) ++ s)
        rw [lpre, hz'] at g1; cases g1
        obtain ⟨x', hx', tx⟩ := o4'.at (i := p.length + d) (by omega)
        have g2 := at_len (p ++ B.take d) x (z :: (B.drop (d + 1) ++ s))
        rw [lpre, hx'] at g2; cases g2
        obtain ⟨p1, p2⟩ := o4'.set (i := p.length + d) (by omega) z
        obtain ⟨r1, r2⟩ := p2.set (i := p.length + d + 1) (by omega) x
        have sw := swap_adj' z x (B.drop (d + 1) ++ s) (p ++ B.take d)
        rw [lpre] at sw
        rw [sw] at r2
        have e1 : Int.toNat (k + 1) = p.length + d + 1 := by omega
        have e2 : Int.toNat k = p.length + d := by omega
        simp -zeta only [xA, e1, e2, xT tx, xT tz, fitsTh]
        refine ⟨by omega, by omega, ⟨by omega, by omega⟩, ⟨by omega, by omega⟩, ⟨by omega, by omega⟩, p1, ?_⟩
        try intro H5
        refine ⟨⟨by omega, by omega⟩, r1, ?_⟩
        try intro H6
        refine ⟨by omega, ⟨by omega, by omega, (f4.put _ _).put _ _, ?_⟩, by omega⟩
        rw [show (k + 1 - p.length).toNat = d + 1 by omega, snoc_of hz]
        have : p ++ (B.take d ++ [z]) ++ x :: (B.drop (d + 1) ++ s) = (p ++ B.take d) ++ z :: x :: (B.drop (d + 1) ++ s) := by simp
        rw [this]; exact r2
      · simp only [decide_eq_false_iff_not] at hk
        rw [show (k - p.length).toNat = t by omega] at o4
        refine ⟨trivial, f4, B.take t ++ x :: B.drop t, ?_, S, by simpa using o4⟩
        have := List.perm_middle (a := x) (l₁ := B.take t) (l₂ := B.drop t)
        rw [List.take_append_drop] at this
        exact this
  · simp only [decide_eq_false_iff_not] at hone; omega
theorem f195.right (φ : Fx) {b n c base : Nat} {p A B s : List Th} {H : Hp} (own : ownTh H base (some ⟨b, 0, none⟩) n c (p ++ A ++ B ++ s)) (hn : n ≤ 1099511627776) (hAl : 0 < A.length) (hBl : 0 < B.length) (hA : srt rk A) (hB : srt rk B) (hr : rbe rk A B)
    {a m e : Nat} (ha : a = p.length) (hm : m = p.length + A.length) (he : e = p.length + A.length + B.length) (h0 : A.length ≠ 1) (h1 : B.length = 1) :
    HCalls cx.P φ 195 [.slice (some ⟨b, 0, none⟩) n c, .int .i64 (a : Int), .int .i64 (m : Int), .int .i64 (e : Int), cmpV] H fun r H' => r = .tuple #[] ∧ offA (some ⟨b, 0, none⟩) H H' ∧ ∃ C, C.Perm (A ++ B) ∧ srt rk C ∧ ownTh H' base (some ⟨b, 0, none⟩) n c (p ++ C ++ s) := by
  apply f195.of
  unfold f195.VC
  have hl := own.len
  simp only [List.length_append] at hl
  subst ha
  refine ⟨by omega, fun hone => ?_, fun hone => ?_⟩
  · simp only [decide_eq_true_eq] at hone; omega
  · simp only [decide_eq_false_iff_not] at hone
    refine ⟨by omega, fun hone2 => ?_, fun hone2 => ?_⟩
    · -- one thing on the right
      simp only [decide_eq_true_eq] at hone2
      obtain ⟨x, rfl⟩ : ∃ x, B = [x] := by
        match B, hBl with
        | [x], _ => exact ⟨x, rfl⟩
        | x :: y :: r, _ => simp at he; omega
      simp only [List.length_cons, List.length_nil] at *
      have hx0 : (p ++ A ++ [x] ++ s)[m]? = some x := by
        rw [getB (by omega) (by simp; omega)]; simp [hm]
      refine ⟨fun i j H' => (p.length : Int) ≤ i ∧ i ≤ j ∧ j ≤ m ∧ offA (some ⟨b, 0, none⟩) H H' ∧ ownTh H' base (some ⟨b, 0, none⟩) n c (p ++ A ++ [x] ++ s) ∧
          (∀ (k : Nat) (y : Th), (k : Int) < i - p.length → A[k]? = some y → ¬ x.w < y.w) ∧ (∀ (k : Nat) (y : Th), j - p.length ≤ (k : Int) → A[k]? = some y → x.w < y.w), fun i j _ => (j - i).toNat,
        ⟨by omega, by omega, by omega, offA.refl .., own, fun k y hk => by omega, fun k y hk hy => by have := (List.getElem?_eq_some_iff.1 hy).1; omega⟩, ?_⟩
      rintro i j _ H1 ⟨i0, ij, je, f1, ow, L, R⟩
      refine ⟨fun hij => ?_, fun hij => ?_⟩
      · simp only [decide_eq_true_eq] at hij
        have hh := half i j (by omega) (by omega)
        obtain ⟨h, hh2⟩ : ∃ h : Nat, (i + j) / 2 = (h : Int) := ⟨((i + j) / 2).toNat, by omega⟩
        rw [hh, hh2]
        have hb1 : p.length ≤ h ∧ h < m := by omega
        obtain ⟨y, hy, ty⟩ := ow.at (i := h) (by omega)
        have gy := hy
        rw [getA (by omega) (by omega)] at gy
        obtain ⟨x', hx', tx⟩ := ow.at (i := m) (by omega)
        rw [hx0] at hx'; cases hx'
        simp -zeta only [xA, Int.toNat_natCast, xT ty, xT tx]
        refine ⟨by omega, by omega, ⟨by omega, by omega⟩, ⟨by omega, by omega⟩, cmp_call φ x y H1 fun H2 k2 => ⟨_, rfl, ?_⟩⟩
        have mono : ∀ (k : Nat) (z : Th), A[k]? = some z → (k ≤ h - p.length → z.w ≤ y.w) ∧ (h - p.length ≤ k → y.w ≤ z.w) := fun k z hz => ⟨fun q => srt_w rk hA q hz gy, fun q => srt_w rk hA q gy hz⟩
        refine ⟨fun i2 j2 H' => ((p.length : Int) ≤ i2 ∧ i2 ≤ j2 ∧ j2 ≤ m ∧ offA (some ⟨b, 0, none⟩) H H' ∧ ownTh H' base (some ⟨b, 0, none⟩) n c (p ++ A ++ [x] ++ s) ∧
          (∀ (k : Nat) (y : Th), (k : Int) < i2 - p.length → A[k]? = some y → ¬ x.w < y.w) ∧ (∀ (k : Nat) (y : Th), j2 - p.length ≤ (k : Int) → A[k]? = some y → x.w < y.w)) ∧ (j2 - i2).toNat < (j - i).toNat, ⟨fun hc => ?_, fun hc => ?_⟩, fun i2 j2 _ H' h => h⟩
        · have hw : ¬ x.w < y.w := fun q => by have := (cmpW_neg x y).2 q; simp [this] at hc
          exact ⟨by omega, ⟨by omega, by omega, by omega, f1.keep k2, ow.keeps k2, fun k z hk hz => by have := (mono k z hz).1 (by omega); omega, R⟩, by omega⟩
        · have hw : x.w < y.w := (cmpW_neg x y).1 (by simpa using hc)
          exact ⟨⟨by omega, by omega, by omega, f1.keep k2, ow.keeps k2, L, fun k z hk hz => by have := (mono k z hz).2 (by omega); omega⟩, by omega⟩
      · simp only [decide_eq_false_iff_not] at hij
        obtain ⟨t, ht⟩ : ∃ t : Nat, i - p.length = (t : Int) := ⟨(i - p.length).toNat, by omega⟩
        have htB : t ≤ A.length := by omega
        have S := merge2 rk hA hr (i := t) (fun k y hk hy => L k y (by omega) hy) (fun k y hk hy => R k y (by omega) hy)
        refine ⟨fun k H' => i ≤ k ∧ k ≤ m ∧ offA (some ⟨b, 0, none⟩) H H' ∧ ownTh H' base (some ⟨b, 0, none⟩) n c ((p ++ A.take (k - p.length).toNat) ++ x :: (A.drop (k - p.length).toNat ++ s)), fun k _ => k.toNat,
          ⟨by omega, by omega, f1, by
            rw [show ((m : Int) - p.length).toNat = A.length by omega, List.take_length, List.drop_length]
            simpa using ow⟩, ?_⟩
        rintro k _ H4 ⟨k0, k1, f4, o4⟩
        refine ⟨fun hk => ?_, fun hk => ?_⟩
        · simp only [decide_eq_true_eq] at hk
          obtain ⟨d, hd⟩ : ∃ d : Nat, k - p.length = (d : Int) + 1 := ⟨(k - p.length).toNat - 1, by omega⟩
          have hdt : (k - p.length).toNat = d + 1 := by omega
          rw [hdt] at o4
          have hdB : d < A.length := by omega
          have hz := List.getElem?_eq_getElem hdB
          generalize A[d] = z at hz
          rw [snoc_of hz] at o4
          have o4' : ownTh H4 base (some ⟨b, 0, none⟩) n c ((p ++ A.take d) ++ z :: x :: (A.drop (d + 1) ++ s)) := by simpa using o4
          have lpre : (p ++ A.take d).length = p.length + d := by simp; omega
          obtain ⟨x', hx', tx⟩ := o4'.at (i := p.length + d + 1) (by omega)
          have g1 := at_len1 (p ++ A.take d) z x (A.drop (d + 1) ++ s)
          rw [lpre, hx'] at g1; cases g1
          obtain ⟨z', hz', tz⟩ := o4'.at (i := p.length + d) (by omega)
          have g2 := at_len (p ++ A.take d) z (x :: (A.drop (d + 1) ++ s))
          rw [lpre, hz'] at g2; cases g2
          obtain ⟨p1, p2⟩ := o4'.set (i := p.length + d + 1) (by omega) z
          obtain ⟨r1, r2⟩ := p2.set (i := p.length + d) (by omega) x
          have sw := swap_adj x z (A.drop (d + 1) ++ s) (p ++ A.take d)
          rw [lpre] at sw
          rw [sw] at r2
          have e1 : Int.toNat k = p.length + d + 1 := by omega
          have e2 : Int.toNat (k - 1) = p.length + d := by omega
          simp -zeta only [xA, e1, e2, xT tx, xT tz, fitsTh]
          refine ⟨by omega, by omega, ⟨by omega, by omega⟩, ⟨by omega, by omega⟩, ⟨by omega, by omega⟩, p1, ?_⟩
          try intro H5
          refine ⟨⟨by omega, by omega⟩, r1, ?_⟩
          try intro H6
          refine ⟨by omega, ⟨by omega, by omega, (f4.put _ _).put _ _, ?_⟩, by omega⟩
          rw [show (k - 1 - p.length).toNat = d by omega, drop_at hz]
          exact r2
        · simp only [decide_eq_false_iff_not] at hk
          rw [show (k - p.length).toNat = t by omega] at o4
          refine ⟨trivial, f4, A.take t ++ x :: A.drop t, ?_, S, by simpa using o4⟩
          have := List.perm_middle (a := x) (l₁ := A.take t) (l₂ := A.drop t)
          rw [List.take_append_drop] at this
          exact this.trans (List.perm_append_singleton x A).symm
    · simp only [decide_eq_false_iff_not] at hone2; omega
theorem f195.gen (φ : Fx) (N : Nat) (ih : ∀ {b n c base : Nat} {p A B s : List Th} {H : Hp} (own : ownTh H base (some ⟨b, 0, none⟩) n c (p ++ A ++ B ++ s)) (hn : n ≤ 1099511627776) (hAl : 0 < A.length) (hBl : 0 < B.length) (hA : srt rk A) (hB : srt rk B) (hr : rbe rk A B)
    {a m e : Nat} (ha : a = p.length) (hm : m = p.length + A.length) (he : e = p.length + A.length + B.length) (hN : A.length + B.length ≤ N),
    HCalls cx.P φ 195 [.slice (some ⟨b, 0, none⟩) n c, .int .i64 (a : Int), .int .i64 (m : Int), .int .i64 (e : Int), cmpV] H fun r H' => r = .tuple #[] ∧ offA (some ⟨b, 0, none⟩) H H' ∧ ∃ C, C.Perm (A ++ B) ∧ srt rk C ∧ ownTh H' base (some ⟨b, 0, none⟩) n c (p ++ C ++ s)) {b n c base : Nat} {p A B s : List Th} {H : Hp} (own : ownTh H base (some ⟨b, 0, none⟩) n c (p ++ A ++ B ++ s)) (hn : n ≤ 1099511627776) (hAl : 0 < A.length) (hBl : 0 < B.length) (hA : srt rk A) (hB : srt rk B) (hr : rbe rk A B)
    {a m e : Nat} (ha : a = p.length) (hm : m = p.length + A.length) (he : e = p.length + A.length + B.length) (hN : A.length + B.length ≤ N + 1) (h0 : A.length ≠ 1) (h1 : B.length ≠ 1) :
    HCalls cx.P φ 195 [.slice (some ⟨b, 0, none⟩) n c, .int .i64 (a : Int), .int .i64 (m : Int), .int .i64 (e : Int), cmpV] H fun r H' => r = .tuple #[] ∧ offA (some ⟨b, 0, none⟩) H H' ∧ ∃ C, C.Perm (A ++ B) ∧ srt rk C ∧ ownTh H' base (some ⟨b, 0, none⟩) n c (p ++ C ++ s) := by
  apply f195.of
  unfold f195.VC
  have hl := own.len
  simp only [List.length_append] at hl
  subst ha
  refine ⟨by omega, fun hone => ?_, fun hone => ?_⟩
  · simp only [decide_eq_true_eq] at hone; omega
  · simp only [decide_eq_false_iff_not] at hone
    refine ⟨by omega, fun hone2 => ?_, fun hone2 => ?_⟩
    · simp only [decide_eq_true_eq] at hone2; omega
    · simp only [decide_eq_false_iff_not] at hone2
      have hh := half (p.length : Int) e (by omega) (by omega)
      obtain ⟨mid, hmid⟩ : ∃ mid : Nat, ((p.length : Int) + e) / 2 = (mid : Int) := ⟨(((p.length : Int) + e) / 2).toNat, by omega⟩
      rw [hh, hmid]
      have hm1 : p.length < mid ∧ mid < e := by omega
      refine ⟨by omega, by omega, by omega, ?_⟩
      refine ⟨fun st r H' => H' = H ∧ ∃ s0 r0 : Nat, st = s0 ∧ r = r0 ∧ ((mid < m ∧ s0 + e = mid + m ∧ r0 = mid) ∨ (m ≤ mid ∧ s0 = p.length ∧ r0 = m)), ⟨fun hlt => ?_, fun hlt => ?_⟩, ?_⟩
      · simp only [decide_eq_true_eq] at hlt
        exact ⟨by omega, rfl, mid + m - e, mid, by omega, rfl, Or.inl ⟨by omega, by omega, rfl⟩⟩
      · simp only [decide_eq_false_iff_not] at hlt
        exact ⟨rfl, _, _, rfl, rfl, Or.inr ⟨by omega, rfl, rfl⟩⟩
      rintro _ _ _ H13 ⟨rfl, s0, r0, rfl, rfl, hcase⟩
      have hrange : p.length ≤ s0 ∧ s0 ≤ r0 ∧ r0 ≤ m ∧ r0 ≤ mid ∧ mid + m ≤ e + s0 := by omega
      refine ⟨by omega, ?_⟩
      refine ⟨fun i j H' => (s0 : Int) ≤ i ∧ i ≤ j ∧ j ≤ r0 ∧ offA (some ⟨b, 0, none⟩) H13 H' ∧ ownTh H' base (some ⟨b, 0, none⟩) n c (p ++ A ++ B ++ s) ∧
          (i = s0 ∨ ∃ x y, A[(i - 1 - p.length).toNat]? = some x ∧ B[(mid - i).toNat]? = some y ∧ x.w ≤ y.w) ∧ (j = r0 ∨ ∃ x y, A[(j - p.length).toNat]? = some x ∧ B[(mid - 1 - j).toNat]? = some y ∧ y.w < x.w), fun i j _ => (j - i).toNat,
        ⟨by omega, by omega, by omega, offA.refl .., own, Or.inl rfl, Or.inl rfl⟩, ?_⟩
      rintro i j _ H1 ⟨i0, ij, je, f1, ow, L, R⟩
      refine ⟨fun hij => ?_, fun hij => ?_⟩
      · simp only [decide_eq_true_eq] at hij
        have hh2 := half i j (by omega) (by omega)
        obtain ⟨h, hh3⟩ : ∃ h : Nat, (i + j) / 2 = (h : Int) := ⟨((i + j) / 2).toNat, by omega⟩
        rw [hh2, hh3]
        have hb1 : s0 ≤ h ∧ h < r0 := by omega
        obtain ⟨x, hx, tx⟩ := ow.at (i := h) (by omega)
        have gx := hx
        rw [getA (by omega) (by omega)] at gx
        obtain ⟨y, hy, ty⟩ := ow.at (i := mid + m - 1 - h) (by omega)
        have gy := hy
        rw [getB (by omega) (by omega), show mid + m - 1 - h - (p.length + A.length) = mid - 1 - h by omega] at gy
        have e1 : Int.toNat ((mid : Int) + m - 1 - h) = mid + m - 1 - h := by omega
        simp -zeta only [xA, e1, Int.toNat_natCast, xT ty, xT tx]
        refine ⟨by omega, by omega, by omega, ⟨by omega, by omega⟩, ⟨by omega, by omega⟩, cmp_call φ y x H1 fun H2 k2 => ⟨_, rfl, ?_⟩⟩
        refine ⟨fun i2 j2 H' => ((s0 : Int) ≤ i2 ∧ i2 ≤ j2 ∧ j2 ≤ r0 ∧ offA (some ⟨b, 0, none⟩) H13 H' ∧ ownTh H' base (some ⟨b, 0, none⟩) n c (p ++ A ++ B ++ s) ∧
          (i2 = s0 ∨ ∃ x y, A[(i2 - 1 - p.length).toNat]? = some x ∧ B[(mid - i2).toNat]? = some y ∧ x.w ≤ y.w) ∧ (j2 = r0 ∨ ∃ x y, A[(j2 - p.length).toNat]? = some x ∧ B[(mid - 1 - j2).toNat]? = some y ∧ y.w < x.w)) ∧ (j2 - i2).toNat < (j - i).toNat, ⟨fun hc => ?_, fun hc => ?_⟩, fun i2 j2 _ H' h => h⟩
        · have hw : ¬ y.w < x.w := fun q => by have := (cmpW_neg y x).2 q; simp [this] at hc
          refine ⟨by omega, ⟨by omega, by omega, by omega, f1.keep k2, ow.keeps k2, Or.inr ⟨x, y, ?_, ?_, by omega⟩, R⟩, by omega⟩
          · rw [show ((h : Int) + 1 - 1 - p.length).toNat = h - p.length by omega]; exact gx
          · rw [show ((mid : Int) - (h + 1)).toNat = mid - 1 - h by omega]; exact gy
        · have hw : y.w < x.w := (cmpW_neg y x).1 (by simpa using hc)
          refine ⟨⟨by omega, by omega, by omega, f1.keep k2, ow.keeps k2, L, Or.inr ⟨x, y, ?_, ?_, hw⟩⟩, by omega⟩
          · rw [show ((h : Int) - p.length).toNat = h - p.length by omega]; exact gx
          · rw [show ((mid : Int) - 1 - h).toNat = mid - 1 - h by omega]; exact gy
      · simp only [decide_eq_false_iff_not] at hij
        obtain ⟨st, hst⟩ : ∃ st : Nat, i = (st : Int) := ⟨i.toNat, by omega⟩
        have hjs : j = (st : Int) := by omega
        subst hst
        rw [hjs] at R
        obtain ⟨A1, A2, hA12⟩ : ∃ A1 A2, A1 = A.take (st - p.length) ∧ A2 = A.drop (st - p.length) := ⟨_, _, rfl, rfl⟩
        obtain ⟨B1, B2, hB12⟩ : ∃ B1 B2, B1 = B.take (mid - st) ∧ B2 = B.drop (mid - st) := ⟨_, _, rfl, rfl⟩
        have eA : A = A1 ++ A2 := by rw [hA12.1, hA12.2, List.take_append_drop]
        have eB : B = B1 ++ B2 := by rw [hB12.1, hB12.2, List.take_append_drop]
        have lA1 : A1.length = st - p.length := by rw [hA12.1]; simp; omega
        have lB1 : B1.length = mid - st := by rw [hB12.1]; simp; omega
        have lA : A.length = A1.length + A2.length := by rw [eA, List.length_append]
        have lB : B.length = B1.length + B2.length := by rw [eB, List.length_append]
        have h1 : A1 = [] ∨ B2 = [] ∨ ∃ a u b v, A1 = u ++ [a] ∧ B2 = b :: v ∧ a.w ≤ b.w := by
          rcases L with h | ⟨x, y, hx, hy, hw⟩
          · rcases hcase with hc | hc
            · exact Or.inr (Or.inl (List.eq_nil_of_length_eq_zero (by omega)))
            · exact Or.inl (List.eq_nil_of_length_eq_zero (by omega))
          · by_cases q : st = p.length
            · exact Or.inl (List.eq_nil_of_length_eq_zero (by omega))
            · refine Or.inr (Or.inr ⟨x, A.take ((st : Int) - 1 - p.length).toNat, y, B.drop (((mid : Int) - st).toNat + 1), ?_, ?_, hw⟩)
              · rw [hA12.1, show st - p.length = ((st : Int) - 1 - p.length).toNat + 1 by omega]; exact snoc_of hx
              · rw [hB12.2, show mid - st = ((mid : Int) - st).toNat by omega]; exact drop_at hy
        have h2 : B1 = [] ∨ A2 = [] ∨ ∃ b u a v, B1 = u ++ [b] ∧ A2 = a :: v ∧ b.w < a.w := by
          rcases R with h | ⟨x, y, hx, hy, hw⟩
          · rcases hcase with hc | hc
            · exact Or.inl (List.eq_nil_of_length_eq_zero (by omega))
            · exact Or.inr (Or.inl (List.eq_nil_of_length_eq_zero (by omega)))
          · by_cases q : mid = st
            · exact Or.inl (List.eq_nil_of_length_eq_zero (by omega))
            · refine Or.inr (Or.inr ⟨y, B.take ((mid : Int) - 1 - st).toNat, x, A.drop (((st : Int) - p.length).toNat + 1), ?_, ?_, hw⟩)
              · rw [hB12.1, show mid - st = ((mid : Int) - 1 - st).toNat + 1 by omega]; exact snoc_of hy
              · rw [hA12.2, show st - p.length = ((st : Int) - p.length).toNat by omega]; exact drop_at hx
        rw [eA] at hA hr
        rw [eB] at hB hr
        have X := cross rk hA hB hr h1 h2
        have ow1 : ownTh H1 base (some ⟨b, 0, none⟩) n c (p ++ (A1 ++ A2) ++ (B1 ++ B2) ++ s) := by rw [← eA, ← eB]; exact ow
        have hen : (mid : Int) + m - st = ((mid + m - st : Nat) : Int) := by omega
        rw [hen]
        refine ⟨by omega, ?_⟩
        refine join1 (decide ((st : Int) < m) && decide ((m : Int) < ((mid + m - st : Nat) : Int))) H1 ?_ ?_
        · exact ⟨fun h => ⟨by rw [h, Bool.true_and], rfl⟩, fun h => ⟨by rw [h, Bool.false_and], rfl⟩⟩
        intro _
        refine ⟨fun H' => offA (some ⟨b, 0, none⟩) H13 H' ∧ ownTh H' base (some ⟨b, 0, none⟩) n c (p ++ A1 ++ B1 ++ A2 ++ B2 ++ s), ⟨fun hx => ?_, fun hx => ?_⟩, ?_⟩
        · simp only [Bool.and_eq_true, decide_eq_true_eq] at hx
          have o : ownTh H1 base (some ⟨b, 0, none⟩) n c ((p ++ A1) ++ A2 ++ B1 ++ (B2 ++ s)) := by simpa using ow1
          refine HCalls.mono (f197.spec φ o hn (by omega) (by omega) (a := st) (m := m) (e := mid + m - st) (by simp; omega) (by simp; omega) (by simp; omega) cmpV) ?_
          rintro r H2 ⟨rfl, f2, o2⟩
          exact ⟨rfl, f1.step (Or.inl rfl) f2, by simpa using o2⟩
        · refine ⟨f1, ?_⟩
          have : A2 = [] ∨ B1 = [] := by
            simp only [Bool.and_eq_false_iff, decide_eq_false_iff_not] at hx
            rcases hx with hx | hx
            · exact Or.inl (List.eq_nil_of_length_eq_zero (by omega))
            · exact Or.inr (List.eq_nil_of_length_eq_zero (by omega))
          rcases this with h | h
          · rw [h] at ow1 ⊢; simpa using ow1
          · rw [h] at ow1 ⊢; simpa using ow1
        rintro _ H3 ⟨f3, o3⟩
        have pAB : rbe rk A1 B1 ∧ rbe rk A2 B2 := ⟨fun x hx y hy => hr x (by simp [hx]) y (by simp [hy]), fun x hx y hy => hr x (by simp [hx]) y (by simp [hy])⟩
        have sA := (srt_app rk).1 hA
        have sB := (srt_app rk).1 hB
        refine join1 (decide ((p.length : Int) < st) && decide ((st : Int) < mid)) H3 ?_ ?_
        · exact ⟨fun h => ⟨by rw [h, Bool.true_and], rfl⟩, fun h => ⟨by rw [h, Bool.false_and], rfl⟩⟩
        intro _
        refine ⟨fun H' => offA (some ⟨b, 0, none⟩) H13 H' ∧ ∃ C1, C1.Perm (A1 ++ B1) ∧ srt rk C1 ∧ ownTh H' base (some ⟨b, 0, none⟩) n c (p ++ C1 ++ A2 ++ B2 ++ s), ⟨fun hx => ?_, fun hx => ?_⟩, ?_⟩
        · simp only [Bool.and_eq_true, decide_eq_true_eq] at hx
          have o : ownTh H3 base (some ⟨b, 0, none⟩) n c (p ++ A1 ++ B1 ++ (A2 ++ B2 ++ s)) := by simpa using o3
          refine HCalls.mono (ih o hn (by omega) (by omega) sA.1 sB.1 pAB.1 (a := p.length) (m := st) (e := mid) rfl (by omega) (by omega) (by omega)) ?_
          rintro r H4 ⟨rfl, f4, C1, pm, sr, o4⟩
          exact ⟨rfl, f3.step (Or.inl rfl) f4, C1, pm, sr, by simpa using o4⟩
        · refine ⟨f3, A1 ++ B1, List.Perm.refl _, ?_, by simpa using o3⟩
          simp only [Bool.and_eq_false_iff, decide_eq_false_iff_not] at hx
          rcases hx with hx | hx
          · rw [List.eq_nil_of_length_eq_zero (show A1.length = 0 by omega)]; exact sB.1
          · rw [List.eq_nil_of_length_eq_zero (show B1.length = 0 by omega), List.append_nil]; exact sA.1
        rintro _ H5 ⟨f5, C1, pm1, sr1, o5⟩
        have lC1 := pm1.length_eq
        rw [List.length_append] at lC1
        refine join1 (decide ((mid : Int) < ((mid + m - st : Nat) : Int)) && decide (((mid + m - st : Nat) : Int) < e)) H5 ?_ ?_
        · exact ⟨fun h => ⟨by rw [h, Bool.true_and], rfl⟩, fun h => ⟨by rw [h, Bool.false_and], rfl⟩⟩
        intro _
        refine ⟨fun H' => offA (some ⟨b, 0, none⟩) H13 H' ∧ ∃ C2, C2.Perm (A2 ++ B2) ∧ srt rk C2 ∧ ownTh H' base (some ⟨b, 0, none⟩) n c (p ++ C1 ++ C2 ++ s), ⟨fun hx => ?_, fun hx => ?_⟩, ?_⟩
        · simp only [Bool.and_eq_true, decide_eq_true_eq] at hx
          have o : ownTh H5 base (some ⟨b, 0, none⟩) n c ((p ++ C1) ++ A2 ++ B2 ++ s) := o5
          refine HCalls.mono (ih o hn (by omega) (by omega) sA.2.1 sB.2.1 pAB.2 (a := mid) (m := mid + m - st) (e := e) (by rw [List.length_append]; omega) (by rw [List.length_append]; omega) (by rw [List.length_append]; omega) (by omega)) ?_
          rintro r H6 ⟨rfl, f6, C2, pm, sr, o6⟩
          exact ⟨rfl, f5.step (Or.inl rfl) f6, C2, pm, sr, o6⟩
        · refine ⟨f5, A2 ++ B2, List.Perm.refl _, ?_, by simpa using o5⟩
          simp only [Bool.and_eq_false_iff, decide_eq_false_iff_not] at hx
          rcases hx with hx | hx
          · rw [List.eq_nil_of_length_eq_zero (show A2.length = 0 by omega)]; exact sB.2.1
          · rw [List.eq_nil_of_length_eq_zero (show B2.length = 0 by omega), List.append_nil]; exact sA.2.1
        rintro _ H7 ⟨f7, C2, pm2, sr2, o7⟩
        refine ⟨rfl, f7, C1 ++ C2, ?_, (srt_app rk).2 ⟨sr1, sr2, allx_perm rk X pm1 pm2⟩, by simpa using o7⟩
        rw [eA, eB]
        refine (List.Perm.append pm1 pm2).trans ?_
        have : (A1 ++ B1 ++ (A2 ++ B2)).Perm (A1 ++ (A2 ++ B1) ++ B2) := by
          have q : (B1 ++ A2).Perm (A2 ++ B1) := List.perm_append_comm
          have := (q.append_left A1).append_right B2
          simpa using this
        refine this.trans ?_
        simp
theorem f195.spec (φ : Fx) : ∀ (N : Nat) {b n c base : Nat} {p A B s : List Th} {H : Hp} (own : ownTh H base (some ⟨b, 0, none⟩) n c (p ++ A ++ B ++ s)) (hn : n ≤ 1099511627776) (hAl : 0 < A.length) (hBl : 0 < B.length) (hA : srt rk A) (hB : srt rk B) (hr : rbe rk A B)
    {a m e : Nat} (ha : a = p.length) (hm : m = p.length + A.length) (he : e = p.length + A.length + B.length) (hN : A.length + B.length ≤ N),
    HCalls cx.P φ 195 [.slice (some ⟨b, 0, none⟩) n c, .int .i64 (a : Int), .int .i64 (m : Int), .int .i64 (e : Int), cmpV] H fun r H' => r = .tuple #[] ∧ offA (some ⟨b, 0, none⟩) H H' ∧ ∃ C, C.Perm (A ++ B) ∧ srt rk C ∧ ownTh H' base (some ⟨b, 0, none⟩) n c (p ++ C ++ s) := by
  intro N
  induction N with
  | zero => intros; omega
  | succ N ih =>
    intro b n c base p A B s H own hn hAl hBl hA hB hr a m e ha hm he hN
    by_cases h0 : A.length = 1
    · exact f195.left rk φ own hn hAl hBl hA hB hr ha hm he h0
    · by_cases h1 : B.length = 1
      · exact f195.right rk φ own hn hAl hBl hA hB hr ha hm he h0 h1
      · exact f195.gen rk φ N ih own hn hAl hBl hA hB hr ha hm he hN h0 h1
end
end Go.Proofs.Ytkkjjjgcfnhabaa.Eng
namespace Go.Proofs.Ytkkjjjgcfnhabaa.Eng
open Go Go.Proofs
def seg {α : Type} (l : List α) (x y : Nat) : List α := (l.drop x).take (y - x)
theorem seg_split {α : Type} (l : List α) {x y : Nat} (h : x ≤ y) : l = l.take x ++ seg l x y ++ l.drop y := by
  have : l.drop x = seg l x y ++ l.drop y := by
    rw [seg]
    have := (List.take_append_drop (y - x) (l.drop x)).symm
    rw [List.drop_drop, show x + (y - x) = y by omega] at this
    exact this
  rw [List.append_assoc, ← this, List.take_append_drop]
theorem seg_len {α : Type} (l : List α) {x y : Nat} (h : y ≤ l.length) : (seg l x y).length = y - x := by simp [seg]; omega
theorem seg_mid {α : Type} (p q s : List α) : seg (p ++ q ++ s) p.length (p.length + q.length) = q := by
  rw [seg, List.append_assoc, List.drop_left, show p.length + q.length - p.length = q.length by omega, List.take_left]
theorem seg_get {α : Type} (l : List α) (x y k : Nat) : (seg l x y)[k]? = if k < y - x then l[x + k]? else none := by
  rw [seg, List.getElem?_take, List.getElem?_drop]
theorem seg_same {α : Type} (p q q' s : List α) (hq : q'.length = q.length) {x y : Nat} (h : y ≤ p.length ∨ p.length + q.length ≤ x) : seg (p ++ q' ++ s) x y = seg (p ++ q ++ s) x y := by
  apply List.ext_getElem?
  intro k
  rw [seg_get, seg_get]
  split
  · rename_i hk
    rcases h with h | h
    · rw [List.append_assoc, List.append_assoc, List.getElem?_append_left (by omega), List.getElem?_append_left (by omega)]
    · rw [List.getElem?_append_right (by simp; omega), List.getElem?_append_right (by simp; omega)]
      simp [hq]
  · rfl
theorem seg_app {α : Type} (l : List α) {x y z : Nat} (h1 : x ≤ y) (h2 : y ≤ z) : seg l x z = seg l x y ++ seg l y z := by
  apply List.ext_getElem?
  intro k
  by_cases hl : y ≤ l.length
  · have e := seg_len l (x := x) hl
    rw [List.getElem?_append, e, seg_get, seg_get, seg_get]
    by_cases q : k < y - x
    · rw [if_pos q, if_pos (by omega), if_pos (by omega)]
    · rw [if_neg q]
      by_cases r : k < z - x
      · rw [if_pos r, if_pos (by omega)]; congr 1; omega
      · rw [if_neg r, if_neg (by omega)]
  · have e1 : seg l y z = [] := by rw [seg, List.drop_eq_nil_of_le (by omega), List.take_nil]
    rw [e1, List.append_nil, seg_get, seg_get]
    by_cases r : k < y - x
    · rw [if_pos r, if_pos (by omega)]
    · rw [if_neg r]
      split
      · rw [List.getElem?_eq_none (by omega)]
      · rfl
theorem seg_all {α : Type} (l : List α) {y : Nat} (h : l.length ≤ y) : seg l 0 y = l := by
  rw [seg, List.drop_zero]; exact List.take_of_length_le (by omega)
theorem seg_over {α : Type} (l : List α) {x y z : Nat} (hy : l.length ≤ y) (hz : l.length ≤ z) : seg l x y = seg l x z := by
  rw [seg, seg, List.take_of_length_le (by simp; omega), List.take_of_length_le (by simp; omega)]
section
variable (rk : Th → Nat)
/-- A part holds what it held, sorted. -/
def sortedP (l0 l : List Th) (x y : Nat) : Prop := (seg l x y).Perm (seg l0 x y) ∧ srt rk (seg l x y)
theorem rin_seg {l : List Th} (h : rin rk l) (x y : Nat) : rin rk (seg l x y) := List.Pairwise.sublist ((List.take_sublist _ _).trans (List.drop_sublist _ _)) h
theorem rin_rbe {l : List Th} (h : rin rk l) {x y z : Nat} (h1 : x ≤ y) (h2 : y ≤ z) : rbe rk (seg l x y) (seg l y z) := by
  have := rin_seg rk h x z
  rw [seg_app l h1 h2] at this
  exact (List.pairwise_append.1 this).2.2
theorem f190.spec (φ : Fx) {b n c base : Nat} {l0 : List Th} {H : Hp} (own : ownTh H base (some ⟨b, 0, none⟩) n c l0) (hn : n ≤ 1099511627776) (hr : rin rk l0) :
    HCalls cx.P φ 190 [.slice (some ⟨b, 0, none⟩) n c, .int .i64 (n : Int), cmpV] H fun r H' => r = .tuple #[] ∧ offA (some ⟨b, 0, none⟩) H H' ∧ ∃ l, l.Perm l0 ∧ srt rk l ∧ ownTh H' base (some ⟨b, 0, none⟩) n c l := by
  apply f190.of
  unfold f190.VC
  have hl0 := own.len
  -- the blocks of twenty
  refine ⟨fun a e H' => ∃ t : Nat, a = ((20 * t : Nat) : Int) ∧ e = a + 20 ∧ (a : Int) ≤ n ∧ offA (some ⟨b, 0, none⟩) H H' ∧ ∃ l, ownTh H' base (some ⟨b, 0, none⟩) n c l ∧ (∀ k, k < t → sortedP rk l0 l (20 * k) (20 * k + 20)) ∧ l.drop (20 * t) = l0.drop (20 * t), fun a _ _ => (n - a).toNat,
    ⟨0, by omega, by omega, by omega, offA.refl .., l0, own, fun k hk => by omega, rfl⟩, ?_⟩
  rintro a e _ H1 ⟨t, rfl, rfl, han, f1, l, ow, hb, hd⟩
  have hl := ow.len
  refine ⟨fun hi => ?_, fun hi => ?_⟩
  · simp only [decide_eq_true_eq] at hi
    have sp := seg_split l (x := 20 * t) (y := 20 * t + 20) (by omega)
    have sl := seg_len l (x := 20 * t) (y := 20 * t + 20) (by omega)
    have tl : (l.take (20 * t)).length = 20 * t := by simp; omega
    have se : seg l (20 * t) (20 * t + 20) = seg l0 (20 * t) (20 * t + 20) := by rw [seg, seg, hd]
    have o : ownTh H1 base (some ⟨b, 0, none⟩) n c (l.take (20 * t) ++ seg l (20 * t) (20 * t + 20) ++ l.drop (20 * t + 20)) := by rw [← sp]; exact ow
    have call := f194.spec rk φ o hn (by rw [se]; exact rin_seg rk hr ..) (a := 20 * t) (e := 20 * t + 20) tl.symm (by rw [tl, sl]; omega)
    have e1 : ((20 * t : Nat) : Int) + 20 = ((20 * t + 20 : Nat) : Int) := by omega
    rw [e1]
    refine HCalls.mono call ?_
    rintro r H2 ⟨rfl, f2, q', pm, sr, o2⟩
    have lq := pm.length_eq
    refine ⟨rfl, by omega, ⟨t + 1, by omega, by omega, by omega, f1.step (Or.inl rfl) f2, _, o2, fun k hk => ?_, ?_⟩, by dsimp only; omega⟩
    · by_cases q : k < t
      · have := hb k q
        unfold sortedP
        rw [seg_same (l.take (20 * t)) (seg l (20 * t) (20 * t + 20)) q' _ lq (Or.inl (by rw [tl]; omega)), ← sp]
        exact this
      · obtain rfl : k = t := by omega
        have m := seg_mid (l.take (20 * k)) q' (l.drop (20 * k + 20))
        rw [tl, lq, sl, show 20 * k + (20 * k + 20 - 20 * k) = 20 * k + 20 by omega] at m
        unfold sortedP
        rw [m, ← se]
        exact ⟨pm, sr⟩
    · rw [show 20 * (t + 1) = 20 * t + 20 by omega, List.drop_append_of_le_length (by simp [lq, sl]; omega)]
      rw [List.drop_eq_nil_of_le (by simp [lq, sl]; omega), List.nil_append]
      have := congrArg (List.drop 20) hd
      rw [List.drop_drop, List.drop_drop] at this
      exact this
  · simp only [decide_eq_false_iff_not] at hi
    have tl : (l.take (20 * t)).length = 20 * t := by simp; omega
    have o : ownTh H1 base (some ⟨b, 0, none⟩) n c (l.take (20 * t) ++ l.drop (20 * t) ++ []) := by rw [List.append_nil, List.take_append_drop]; exact ow
    have hrd : rin rk (l.drop (20 * t)) := by rw [hd]; exact List.Pairwise.sublist (List.drop_sublist _ _) hr
    refine HCalls.mono (f194.spec rk φ o hn hrd (a := 20 * t) (e := n) tl.symm (by simp; omega)) ?_
    rintro r H2 ⟨rfl, f2, q', pm, sr, o2⟩
    have lq := pm.length_eq
    simp only [List.length_drop] at lq
    rw [List.append_nil] at o2
    -- all blocks of twenty
    have all20 : ∀ k, sortedP rk l0 (l.take (20 * t) ++ q') (20 * k) (20 * k + 20) := by
      intro k
      by_cases q : k < t
      · have := hb k q
        unfold sortedP
        have e := seg_same (l.take (20 * t)) (l.drop (20 * t)) q' [] (by simp; omega) (x := 20 * k) (y := 20 * k + 20) (Or.inl (by rw [tl]; omega))
        simp only [List.append_nil, List.take_append_drop] at e
        rw [e]; exact this
      · by_cases q2 : k = t
        · subst q2
          have m := seg_mid (l.take (20 * k)) q' []
          rw [List.append_nil, tl, lq] at m
          have ov := seg_over (l.take (20 * k) ++ q') (x := 20 * k) (y := 20 * k + 20) (z := 20 * k + (l.length - 20 * k)) (by simp; omega) (by simp; omega)
          have : seg l0 (20 * k) (20 * k + 20) = l.drop (20 * k) := by rw [hd, seg]; exact List.take_of_length_le (by simp; omega)
          unfold sortedP
          rw [ov, m, this]
          exact ⟨pm, sr⟩
        · have e1 : seg (l.take (20 * t) ++ q') (20 * k) (20 * k + 20) = [] := by rw [seg, List.drop_eq_nil_of_le (by simp; omega), List.take_nil]
          have e2 : seg l0 (20 * k) (20 * k + 20) = [] := by rw [seg, List.drop_eq_nil_of_le (by omega), List.take_nil]
          unfold sortedP
          rw [e1, e2]; exact ⟨List.Perm.refl _, List.Pairwise.nil⟩
    refine ⟨rfl, ?_⟩
    refine ⟨fun w H' => ∃ z : Nat, w = (z : Int) ∧ 1 ≤ z ∧ z ≤ 2199023255552 ∧ offA (some ⟨b, 0, none⟩) H H' ∧ ∃ l, ownTh H' base (some ⟨b, 0, none⟩) n c l ∧ ∀ k, sortedP rk l0 l (z * k) (z * k + z), fun w _ => (n - w).toNat,
      ⟨20, rfl, by omega, by omega, f1.step (Or.inl rfl) f2, _, o2, all20⟩, ?_⟩
    clear all20 o2 f2 sr pm lq q' hrd o tl hi hd hb ow hl
    rintro w _ H4 ⟨z, rfl, hz1, hz2, f4, l, ow, hb⟩
    have hl := ow.len
    refine ⟨fun hzn => ?_, fun hzn => ?_⟩
    · simp only [decide_eq_true_eq] at hzn
      refine ⟨by omega, ?_⟩
      refine ⟨fun a e H' => ∃ t : Nat, a = ((2 * z * t : Nat) : Int) ∧ e = a + 2 * z ∧ a ≤ n ∧ offA (some ⟨b, 0, none⟩) H H' ∧ ∃ l, ownTh H' base (some ⟨b, 0, none⟩) n c l ∧ (∀ k, k < t → sortedP rk l0 l (2 * z * k) (2 * z * k + 2 * z)) ∧ ∀ k, 2 * t ≤ k → sortedP rk l0 l (z * k) (z * k + z), fun a _ _ => (n - a).toNat,
        ⟨0, by simp, by omega, by omega, f4, l, ow, fun k hk => by omega, fun k _ => hb k⟩, ?_⟩
      clear hb ow f4 hl
      rintro a e _ H5 ⟨t, rfl, rfl, han, f5, l, ow, hb1, hb2⟩
      have hl := ow.len
      -- one merge
      have merge : ∀ (y : Nat), 2 * z * t + z < y → y ≤ n → (y = 2 * z * t + 2 * z ∨ (y = n ∧ n ≤ 2 * z * t + 2 * z)) → ∀ K : Value → Hp → Prop,
          (∀ H', offA (some ⟨b, 0, none⟩) H H' → ∀ l', ownTh H' base (some ⟨b, 0, none⟩) n c l' → (∀ k, k < t + 1 → sortedP rk l0 l' (2 * z * k) (2 * z * k + 2 * z)) → (∀ k, 2 * (t + 1) ≤ k → sortedP rk l0 l' (z * k) (z * k + z)) → K (.tuple #[]) H') →
          HCalls cx.P φ 195 [.slice (some ⟨b, 0, none⟩) n c, .int .i64 ((2 * z * t : Nat) : Int), .int .i64 ((2 * z * t + z : Nat) : Int), .int .i64 (y : Int), cmpV] H5 K := by
        intro y hy1 hy2 hy3 K hK
        have ex : z * (2 * t) = 2 * z * t := by rw [Nat.mul_left_comm, ← Nat.mul_assoc]
        have ex2 : z * (2 * t + 1) = 2 * z * t + z := by rw [Nat.mul_add, ex, Nat.mul_one]
        have bA := hb2 (2 * t) (Nat.le_refl _)
        have bB := hb2 (2 * t + 1) (by omega)
        rw [ex] at bA
        rw [ex2] at bB
        have eB : seg l (2 * z * t + z) (2 * z * t + z + z) = seg l (2 * z * t + z) y := by
          rcases hy3 with h | ⟨h, h2⟩
          · rw [h]; congr 1; omega
          · exact seg_over l (by omega) (by omega)
        have eB0 : seg l0 (2 * z * t + z) (2 * z * t + z + z) = seg l0 (2 * z * t + z) y := by
          rcases hy3 with h | ⟨h, h2⟩
          · rw [h]; congr 1; omega
          · exact seg_over l0 (by omega) (by omega)
        unfold sortedP at bA bB
        rw [eB, eB0] at bB
        have lA := seg_len l (x := 2 * z * t) (y := 2 * z * t + z) (by omega)
        have lB := seg_len l (x := 2 * z * t + z) (y := y) (by omega)
        have tl : (l.take (2 * z * t)).length = 2 * z * t := by simp; omega
        have sp : l = l.take (2 * z * t) ++ seg l (2 * z * t) (2 * z * t + z) ++ seg l (2 * z * t + z) y ++ l.drop y := by
          have := seg_split l (x := 2 * z * t) (y := y) (by omega)
          rw [seg_app l (y := 2 * z * t + z) (by omega) (by omega)] at this
          simpa using this
        have sp2 : l = l.take (2 * z * t) ++ (seg l (2 * z * t) (2 * z * t + z) ++ seg l (2 * z * t + z) y) ++ l.drop y := by
          rw [← List.append_assoc]; exact sp
        have o : ownTh H5 base (some ⟨b, 0, none⟩) n c (l.take (2 * z * t) ++ seg l (2 * z * t) (2 * z * t + z) ++ seg l (2 * z * t + z) y ++ l.drop y) := by rw [← sp]; exact ow
        have rb : rbe rk (seg l (2 * z * t) (2 * z * t + z)) (seg l (2 * z * t + z) y) := rbe_perm rk (rin_rbe rk hr (by omega) (by omega)) bA.1 bB.1
        refine HCalls.mono (f195.spec rk φ _ o hn (by omega) (by omega) bA.2 bB.2 rb (a := 2 * z * t) (m := 2 * z * t + z) (e := y) tl.symm (by omega) (by omega) (Nat.le_refl _)) ?_
        rintro r H6 ⟨rfl, f6, C, pm, sr, o6⟩
        have lC := pm.length_eq
        rw [List.length_append, lA, lB] at lC
        have mid := seg_mid (l.take (2 * z * t)) C (l.drop y)
        rw [tl, lC, show 2 * z * t + (2 * z * t + z - 2 * z * t + (y - (2 * z * t + z))) = y by omega] at mid
        have same : ∀ {x w : Nat}, (w ≤ 2 * z * t ∨ y ≤ x) → seg (l.take (2 * z * t) ++ C ++ l.drop y) x w = seg l x w := by
          intro x w h
          have := seg_same (l.take (2 * z * t)) (seg l (2 * z * t) (2 * z * t + z) ++ seg l (2 * z * t + z) y) C (l.drop y) (by rw [lC, List.length_append, lA, lB]) (x := x) (y := w) (by rw [tl, List.length_append, lA, lB]; omega)
          rw [this, ← sp2]
        have lnew : (l.take (2 * z * t) ++ C ++ l.drop y).length = l.length := by simp; omega
        refine hK H6 (f5.step (Or.inl rfl) f6) _ o6 (fun k hk => ?_) (fun k hk => ?_)
        · by_cases q : k < t
          · have hkt : 2 * z * k + 2 * z ≤ 2 * z * t := by
              have := Nat.mul_le_mul_left (2 * z) (show k + 1 ≤ t by omega)
              rw [Nat.mul_add, Nat.mul_one] at this; exact this
            unfold sortedP
            rw [same (Or.inl hkt)]
            exact hb1 k q
          · obtain rfl : k = t := by omega
            have e1 : seg (l.take (2 * z * k) ++ C ++ l.drop y) (2 * z * k) (2 * z * k + 2 * z) = C := by
              rcases hy3 with h | ⟨h, h2⟩
              · rw [← h]; exact mid
              · rw [seg_over _ (z := y) (by omega) (by omega)]; exact mid
            have e2 : seg l0 (2 * z * k) (2 * z * k + 2 * z) = seg l0 (2 * z * k) (2 * z * k + z) ++ seg l0 (2 * z * k + z) y := by
              rw [← seg_app l0 (by omega) (by omega)]
              rcases hy3 with h | ⟨h, h2⟩
              · rw [h]
              · exact seg_over _ (by omega) (by omega)
            unfold sortedP
            rw [e1, e2]
            exact ⟨pm.trans (List.Perm.append bA.1 bB.1), sr⟩
        · have hkt : 2 * z * t + 2 * z ≤ z * k := by
            have := Nat.mul_le_mul_left z hk
            rw [← Nat.mul_assoc, Nat.mul_comm z 2, Nat.mul_add, Nat.mul_one] at this; exact this
          by_cases q : y ≤ z * k
          · unfold sortedP
            rw [same (Or.inr q)]
            exact hb2 k (by omega)
          · omega
      have e2 : ((2 * z * t : Nat) : Int) + z = ((2 * z * t + z : Nat) : Int) := by omega
      have e3 : ((2 * z * t : Nat) : Int) + 2 * z = ((2 * z * t + 2 * z : Nat) : Int) := by omega
      have e5 : 2 * z * (t + 1) = 2 * z * t + 2 * z := by rw [Nat.mul_add, Nat.mul_one]
      rw [e2, e3]
      refine ⟨fun hi => ?_, fun hi => ?_⟩
      · simp only [decide_eq_true_eq] at hi
        refine ⟨by omega, merge (2 * z * t + 2 * z) (by omega) (by omega) (Or.inl rfl) _ fun H6 f6 l' o6 g1 g2 => ⟨rfl, by omega, by omega, ⟨t + 1, by rw [e5], by omega, by omega, f6, l', o6, g1, g2⟩, by dsimp only; omega⟩⟩
      · simp only [decide_eq_false_iff_not] at hi
        refine ⟨by omega, ?_⟩
        refine ⟨fun H' => offA (some ⟨b, 0, none⟩) H H' ∧ ∃ l, ownTh H' base (some ⟨b, 0, none⟩) n c l ∧ ∀ k, sortedP rk l0 l (2 * z * k) (2 * z * k + 2 * z), ⟨fun hm => ?_, fun hm => ?_⟩, ?_⟩
        · simp only [decide_eq_true_eq] at hm
          refine merge n (by omega) (Nat.le_refl _) (Or.inr ⟨rfl, by omega⟩) _ fun H6 f6 l' o6 g1 g2 => ⟨rfl, f6, l', o6, fun k => ?_⟩
          by_cases q : k < t + 1
          · exact g1 k q
          · have : 2 * z * t + 2 * z ≤ 2 * z * k := by
              have := Nat.mul_le_mul_left (2 * z) (show t + 1 ≤ k by omega)
              rw [e5] at this; exact this
            have l6 := o6.len
            have e1 : seg l' (2 * z * k) (2 * z * k + 2 * z) = [] := by rw [seg, List.drop_eq_nil_of_le (by omega), List.take_nil]
            have e2 : seg l0 (2 * z * k) (2 * z * k + 2 * z) = [] := by rw [seg, List.drop_eq_nil_of_le (by omega), List.take_nil]
            unfold sortedP
            rw [e1, e2]; exact ⟨List.Perm.refl _, List.Pairwise.nil⟩
        · simp only [decide_eq_false_iff_not] at hm
          refine ⟨f5, l, ow, fun k => ?_⟩
          by_cases q : k < t
          · exact hb1 k q
          · by_cases q2 : k = t
            · subst q2
              have ex : z * (2 * k) = 2 * z * k := by rw [Nat.mul_left_comm, ← Nat.mul_assoc]
              have := hb2 (2 * k) (Nat.le_refl _)
              rw [ex] at this
              unfold sortedP at this ⊢
              rw [seg_over l (y := 2 * z * k + 2 * z) (z := 2 * z * k + z) (by omega) (by omega), seg_over l0 (y := 2 * z * k + 2 * z) (z := 2 * z * k + z) (by omega) (by omega)]
              exact this
            · have : 2 * z * t + 2 * z ≤ 2 * z * k := by
                have := Nat.mul_le_mul_left (2 * z) (show t + 1 ≤ k by omega)
                rw [e5] at this; exact this
              have e1 : seg l (2 * z * k) (2 * z * k + 2 * z) = [] := by rw [seg, List.drop_eq_nil_of_le (by omega), List.take_nil]
              have e2 : seg l0 (2 * z * k) (2 * z * k + 2 * z) = [] := by rw [seg, List.drop_eq_nil_of_le (by omega), List.take_nil]
              unfold sortedP
              rw [e1, e2]; exact ⟨List.Perm.refl _, List.Pairwise.nil⟩
        · rintro _ H8 ⟨f8, l8, o8, g8⟩
          exact ⟨by omega, ⟨2 * z, by omega, by omega, by omega, f8, l8, o8, g8⟩, by dsimp only; omega⟩
    · simp only [decide_eq_false_iff_not] at hzn
      have := hb 0
      unfold sortedP at this
      rw [Nat.mul_zero, Nat.zero_add, seg_all l (by omega), seg_all l0 (by omega)] at this
      exact ⟨rfl, f4, l, this.1, this.2, ow⟩
end
end Go.Proofs.Ytkkjjjgcfnhabaa.Eng
namespace Go.Proofs.Ytkkjjjgcfnhabaa.Eng
open Go
def eV (i : Nat) : List Int := (List.range 256).map fun j => if j = i then 1 else 0
theorem eV_len (i : Nat) : (eV i).length = 256 := by simp [eV]
def one (w : Int) (i : Nat) : Th := ⟨w, eV i, eV_len i⟩
theorem eV_get (i j : Nat) : (eV i).getD j 0 = if j = i ∧ j < 256 then 1 else 0 := by
  rw [eV, List.getD_eq_getElem?_getD, List.getElem?_map]
  by_cases h : j < 256
  · rw [List.getElem?_range h]; simp [h]
  · rw [List.getElem?_eq_none (by simp; omega)]; simp [h]
/-- The symbol's place, the highest first. -/
def rkS (x : Th) : Nat := 255 - x.o.idxOf 1
theorem idx_eV (i : Nat) (hi : i < 256) : (eV i).idxOf 1 = i := by
  have hl := eV_len i
  have h1 : (1 : Int) ∈ eV i := List.mem_iff_getElem?.2 ⟨i, by
    rw [eV, List.getElem?_map, List.getElem?_range hi]; simp⟩
  have h2 := List.idxOf_lt_length_of_mem h1
  have h3 := List.getElem_idxOf h2
  have : (eV i).getD ((eV i).idxOf 1) 0 = 1 := by
    rw [List.getD_eq_getElem?_getD, List.getElem?_eq_getElem h2]; simp
  rw [eV_get] at this
  split at this
  · rename_i h; exact h.1
  · exact absurd this (by decide)
theorem rkS_one (w : Int) (i : Nat) (hi : i < 256) : rkS (one w i) = 255 - i := by
  rw [rkS]
  show 255 - (eV i).idxOf 1 = 255 - i
  rw [idx_eV i hi]
/-- The things, the highest symbol first: of the last d symbols. -/
def rawU (cs : List Int) : Nat → List Th
  | 0 => []
  | d + 1 => rawU cs d ++ (if 0 < cs.getD (cs.length - (d + 1)) 0 then [one (cs.getD (cs.length - (d + 1)) 0) (cs.length - (d + 1))] else [])
theorem rawU_mem {cs : List Int} : ∀ {d : Nat} {x : Th}, d ≤ cs.length → x ∈ rawU cs d → ∃ i, cs.length - d ≤ i ∧ i < cs.length ∧ x = one (cs.getD i 0) i ∧ 0 < cs.getD i 0
  | 0, x, _, h => by simp [rawU] at h
  | d + 1, x, hd, h => by
    rw [rawU] at h
    rcases List.mem_append.1 h with h | h
    · obtain ⟨i, a, b, c, e⟩ := rawU_mem (by omega) h
      exact ⟨i, by omega, b, c, e⟩
    · split at h
      · rename_i q
        simp at h
        exact ⟨_, Nat.le_refl _, by omega, h, q⟩
      · simp at h
theorem rawU_rin {cs : List Int} (h256 : cs.length ≤ 256) : ∀ (d : Nat), d ≤ cs.length → rin rkS (rawU cs d)
  | 0, _ => List.Pairwise.nil
  | d + 1, hd => by
    rw [rawU]
    refine List.pairwise_append.2 ⟨rawU_rin h256 d (by omega), ?_, fun x hx y hy => ?_⟩
    · split
      · exact List.pairwise_singleton ..
      · exact List.Pairwise.nil
    · obtain ⟨i, a, b, c, _⟩ := rawU_mem (by omega) hx
      split at hy
      · simp at hy
        rw [c, hy, rkS_one _ _ (by omega), rkS_one _ _ (by omega)]
        omega
      · simp at hy
/-- A thing goes behind all that weigh no more. -/
def insT (x : Th) (l : List Th) : List Th := l.takeWhile (fun y => decide (y.w ≤ x.w)) ++ x :: l.dropWhile (fun y => decide (y.w ≤ x.w))
def refU (cs : List Int) : Nat → List Th
  | 0 => []
  | d + 1 => if 0 < cs.getD (cs.length - (d + 1)) 0 then insT (one (cs.getD (cs.length - (d + 1)) 0) (cs.length - (d + 1))) (refU cs d) else refU cs d
theorem insT_perm (x : Th) (l : List Th) : (insT x l).Perm (x :: l) := by
  have := List.perm_middle (a := x) (l₁ := l.takeWhile (fun y => decide (y.w ≤ x.w))) (l₂ := l.dropWhile (fun y => decide (y.w ≤ x.w)))
  rw [List.takeWhile_append_dropWhile] at this
  exact this
theorem takeWhile_all {α : Type} (p : α → Bool) : ∀ (l : List α), ∀ x ∈ l.takeWhile p, p x = true
  | [], x, h => by simp at h
  | y :: l, x, h => by
    rw [List.takeWhile_cons] at h
    split at h
    · rename_i q
      rcases List.mem_cons.1 h with e | e
      · subst e; exact q
      · exact takeWhile_all p l x e
    · simp at h
theorem dropWhile_head {α : Type} (p : α → Bool) : ∀ (l : List α) (x : α) (r : List α), l.dropWhile p = x :: r → p x = false
  | [], x, r, h => by simp at h
  | y :: l, x, r, h => by
    rw [List.dropWhile_cons] at h
    split at h
    · exact dropWhile_head p l x r h
    · rename_i q
      cases h; simpa using q
theorem insT_srt {x : Th} {l : List Th} (h : srt rkS l) (hr : ∀ y ∈ l, rkS y < rkS x) : srt rkS (insT x l) := by
  have hsub1 := List.takeWhile_sublist (l := l) (fun y => decide (y.w ≤ x.w))
  refine srt_insert rkS (by rw [List.takeWhile_append_dropWhile]; exact h) (fun y hy => ?_) ?_
  · have a := takeWhile_all _ _ y hy
    have b := hr y (hsub1.subset hy)
    simp only [decide_eq_true_eq] at a
    unfold lx; omega
  · have hsub2 := List.dropWhile_sublist (l := l) (fun y => decide (y.w ≤ x.w))
    cases hd : l.dropWhile (fun y => decide (y.w ≤ x.w)) with
    | nil => intro y hy; simp at hy
    | cons z r =>
      have := dropWhile_head _ _ _ _ hd
      have sz : srt rkS (z :: r) := by rw [← hd]; exact List.Pairwise.sublist hsub2 h
      exact srt_head rkS sz (Or.inl (by simpa using this))
theorem refU_spec {cs : List Int} (h256 : cs.length ≤ 256) : ∀ (d : Nat), d ≤ cs.length → (refU cs d).Perm (rawU cs d) ∧ srt rkS (refU cs d)
  | 0, _ => ⟨List.Perm.refl _, List.Pairwise.nil⟩
  | d + 1, hd => by
    obtain ⟨p, s⟩ := refU_spec h256 d (by omega)
    rw [refU, rawU]
    split
    · rename_i q
      refine ⟨(insT_perm _ _).trans ((List.Perm.cons _ p).trans (List.perm_append_singleton _ _).symm), insT_srt s fun y hy => ?_⟩
      obtain ⟨i, a, b, c, _⟩ := rawU_mem (by omega) (p.mem_iff.1 hy)
      rw [c, rkS_one _ _ (by omega), rkS_one _ _ (by omega)]
      omega
    · rw [List.append_nil]; exact ⟨p, s⟩
def thingsL (cs : List Int) : List Th := refU cs cs.length
/-- What the stable sort makes of the things. -/
theorem sorted_things {cs : List Int} (h256 : cs.length ≤ 256) {l : List Th} (hp : l.Perm (rawU cs cs.length)) (hs : srt rkS l) : l = thingsL cs := by
  obtain ⟨p, s⟩ := refU_spec h256 cs.length (Nat.le_refl _)
  exact srt_unique rkS (hp.trans p.symm) hs s
def bothT (x y : Th) : Th := ⟨x.w + y.w, List.zipWith (· + ·) x.o y.o, by simp [x.len, y.len]⟩
theorem bothT_get (x y : Th) (s : Nat) : (bothT x y).o.getD s 0 = x.o.getD s 0 + y.o.getD s 0 := by
  show (List.zipWith (· + ·) x.o y.o).getD s 0 = _
  simp only [List.getD_eq_getElem?_getD]
  by_cases h : s < 256
  · rw [List.getElem?_zipWith, List.getElem?_eq_getElem (by rw [x.len]; exact h), List.getElem?_eq_getElem (by rw [y.len]; exact h)]; rfl
  · rw [List.getElem?_eq_none (by simp [x.len, y.len]; omega), List.getElem?_eq_none (by rw [x.len]; omega), List.getElem?_eq_none (by rw [y.len]; omega)]; rfl
def pairL : List Th → List Th
  | x :: y :: r => bothT x y :: pairL r
  | _ => []
def mergeL (a : List Th) : List Th → List Th
  | [] => a
  | y :: r => a.takeWhile (fun x => decide (x.w ≤ y.w)) ++ y :: mergeL (a.dropWhile (fun x => decide (x.w ≤ y.w))) r
def rowL (first : List Th) : Nat → List Th
  | 0 => first
  | j + 1 => mergeL first (pairL (rowL first j))
def colS (s : Nat) : List Th → Int
  | [] => 0
  | x :: r => x.o.getD s 0 + colS s r
def wS : List Th → Int
  | [] => 0
  | x :: r => x.w + wS r
theorem colS_app (s : Nat) (a b : List Th) : colS s (a ++ b) = colS s a + colS s b := by
  induction a with
  | nil => simp [colS]
  | cons x r ih => simp only [List.cons_append, colS, ih]; omega
theorem wS_app (a b : List Th) : wS (a ++ b) = wS a + wS b := by
  induction a with
  | nil => simp [wS]
  | cons x r ih => simp only [List.cons_append, wS, ih]; omega
theorem colS_perm (s : Nat) {a b : List Th} (h : a.Perm b) : colS s a = colS s b := by
  induction h with
  | nil => rfl
  | cons x _ ih => simp only [colS, ih]
  | swap x y l => simp only [colS]; omega
  | trans _ _ h1 h2 => exact h1.trans h2
theorem wS_perm {a b : List Th} (h : a.Perm b) : wS a = wS b := by
  induction h with
  | nil => rfl
  | cons x _ ih => simp only [wS, ih]
  | swap x y l => simp only [wS]; omega
  | trans _ _ h1 h2 => exact h1.trans h2
def nnT (l : List Th) : Prop := ∀ x ∈ l, 0 ≤ x.w ∧ ∀ s, 0 ≤ x.o.getD s 0
theorem colS_nonneg (s : Nat) : ∀ (l : List Th), nnT l → 0 ≤ colS s l
  | [], _ => by simp [colS]
  | x :: r, h => by
    have := colS_nonneg s r fun y hy => h y (List.mem_cons_of_mem _ hy)
    have := (h x List.mem_cons_self).2 s
    simp only [colS]; omega
theorem wS_nonneg : ∀ (l : List Th), nnT l → 0 ≤ wS l
  | [], _ => by simp [wS]
  | x :: r, h => by
    have := wS_nonneg r fun y hy => h y (List.mem_cons_of_mem _ hy)
    have := (h x List.mem_cons_self).1
    simp only [wS]; omega
theorem col_le {s : Nat} {l : List Th} (h : nnT l) {x : Th} (hx : x ∈ l) : x.o.getD s 0 ≤ colS s l := by
  induction l with
  | nil => simp at hx
  | cons y r ih =>
    have a := colS_nonneg s r fun z hz => h z (List.mem_cons_of_mem _ hz)
    have b := (h y List.mem_cons_self).2 s
    rcases List.mem_cons.1 hx with e | e
    · subst e; simp only [colS]; omega
    · have := ih (fun z hz => h z (List.mem_cons_of_mem _ hz)) e
      simp only [colS]; omega
theorem pairL_nn : ∀ (l : List Th), nnT l → nnT (pairL l)
  | [], _ => by intro x hx; simp [pairL] at hx
  | [_], _ => by intro x hx; simp [pairL] at hx
  | x :: y :: r, h => by
    intro z hz
    rw [pairL] at hz
    have hx := h x (by simp)
    have hy := h y (by simp)
    rcases List.mem_cons.1 hz with e | e
    · subst e
      exact ⟨by have := hx.1; have := hy.1; show 0 ≤ x.w + y.w; omega, fun s => by rw [bothT_get]; have := hx.2 s; have := hy.2 s; omega⟩
    · exact pairL_nn r (fun w hw => h w (by simp [hw])) z e
theorem pairL_bd : ∀ (l : List Th), nnT l → (∀ s, colS s (pairL l) ≤ colS s l) ∧ wS (pairL l) ≤ wS l ∧ (pairL l).length = l.length / 2
  | [], _ => by simp [pairL]
  | [x], h => by
    have := (h x (by simp))
    refine ⟨fun s => ?_, ?_, by simp [pairL]⟩
    · have := this.2 s; simp [pairL, colS]; simpa using this
    · have := this.1; simp [pairL, wS]; omega
  | x :: y :: r, h => by
    obtain ⟨a, b, c⟩ := pairL_bd r fun w hw => h w (by simp [hw])
    refine ⟨fun s => ?_, ?_, ?_⟩
    · have := a s; simp only [pairL, colS, bothT_get]; omega
    · simp only [pairL, wS]; show x.w + y.w + wS (pairL r) ≤ _; omega
    · simp only [pairL, List.length_cons, c]; omega
theorem mergeL_perm : ∀ (b a : List Th), (mergeL a b).Perm (a ++ b)
  | [], a => by simp [mergeL]
  | y :: r, a => by
    rw [mergeL]
    have ih := mergeL_perm r (a.dropWhile (fun x => decide (x.w ≤ y.w)))
    have e : a = a.takeWhile (fun x => decide (x.w ≤ y.w)) ++ a.dropWhile (fun x => decide (x.w ≤ y.w)) := (List.takeWhile_append_dropWhile).symm
    have h1 : (a.takeWhile (fun x => decide (x.w ≤ y.w)) ++ y :: mergeL (a.dropWhile (fun x => decide (x.w ≤ y.w))) r).Perm (a.takeWhile (fun x => decide (x.w ≤ y.w)) ++ y :: (a.dropWhile (fun x => decide (x.w ≤ y.w)) ++ r)) :=
      List.Perm.append_left _ (List.Perm.cons _ ih)
    refine h1.trans ?_
    have h2 : (a.takeWhile (fun x => decide (x.w ≤ y.w)) ++ y :: (a.dropWhile (fun x => decide (x.w ≤ y.w)) ++ r)).Perm (a.takeWhile (fun x => decide (x.w ≤ y.w)) ++ (a.dropWhile (fun x => decide (x.w ≤ y.w)) ++ y :: r)) :=
      List.Perm.append_left _ List.perm_middle.symm
    refine h2.trans ?_
    rw [← List.append_assoc, ← e]
theorem nnT_perm {a b : List Th} (h : a.Perm b) (hb : nnT b) : nnT a := fun x hx => hb x (h.mem_iff.1 hx)
theorem nnT_app {a b : List Th} (ha : nnT a) (hb : nnT b) : nnT (a ++ b) := fun x hx => by
  rcases List.mem_append.1 hx with h | h
  · exact ha x h
  · exact hb x h
/-- Each row: no symbol oftener than the rows so far. -/
theorem rowL_bd {first : List Th} (h : nnT first) (hc : ∀ s, colS s first ≤ 1) : ∀ (j : Nat), nnT (rowL first j) ∧ (∀ s, colS s (rowL first j) ≤ j + 1) ∧ wS (rowL first j) ≤ (j + 1) * wS first
  | 0 => ⟨h, fun s => by have := hc s; simp only [rowL]; omega, by simp [rowL]⟩
  | j + 1 => by
    obtain ⟨a, b, c⟩ := rowL_bd h hc j
    obtain ⟨p, q, _⟩ := pairL_bd _ a
    have pm := mergeL_perm (pairL (rowL first j)) first
    refine ⟨nnT_perm pm (nnT_app h (pairL_nn _ a)), fun s => ?_, ?_⟩
    · rw [rowL, colS_perm s pm, colS_app]
      have := p s; have := b s; have := hc s
      push_cast
      omega
    · rw [rowL, wS_perm pm, wS_app]
      have e : ((j + 1 : Nat) : Int) + 1 = ((j : Int) + 1) + 1 := by push_cast; rfl
      rw [e, Int.add_mul _ 1, Int.one_mul]
      omega
theorem rowL_len (first : List Th) (h : nnT first) (hc : ∀ s, colS s first ≤ 1) (j : Nat) : (rowL first (j + 1)).length = first.length + (rowL first j).length / 2 := by
  have := (mergeL_perm (pairL (rowL first j)) first).length_eq
  rw [List.length_append, (pairL_bd _ (rowL_bd h hc j).1).2.2] at this
  exact this
/-- There are enough packages. -/
theorem rowL_enough (first : List Th) (h : nnT first) (hc : ∀ s, colS s first ≤ 1) : ∀ (j : Nat), (rowL first j).length ≤ 2 * first.length ∧ 2 * first.length ≤ (rowL first j).length + (first.length - 1) / 2 ^ j + 1
  | 0 => by
    rw [rowL, Nat.pow_zero, Nat.div_one]
    omega
  | j + 1 => by
    obtain ⟨a, b⟩ := rowL_enough first h hc j
    rw [rowL_len first h hc j, Nat.pow_succ, ← Nat.div_div_eq_div_mul]
    generalize (first.length - 1) / 2 ^ j = d at *
    omega
theorem rowL_last (first : List Th) (h : nnT first) (hc : ∀ s, colS s first ≤ 1) {L : Nat} (hL : 1 ≤ L) (hn : first.length ≤ 2 ^ L) : 2 * first.length - 2 ≤ (rowL first (L - 1)).length := by
  have := (rowL_enough first h hc (L - 1)).2
  have e : 2 ^ L = 2 ^ (L - 1) * 2 := by rw [← Nat.pow_succ]; congr 1; omega
  have hp : 0 < 2 ^ (L - 1) := Nat.two_pow_pos _
  have : (first.length - 1) / 2 ^ (L - 1) ≤ 1 := by
    have : (first.length - 1) / 2 ^ (L - 1) < 2 := Nat.div_lt_of_lt_mul (by omega)
    omega
  omega
def okCounts (cs : List Int) : Bool := cs.all fun c => decide (0 ≤ c) && decide (c ≤ 1099511627776)
theorem okCounts_at {cs : List Int} (h : okCounts cs = true) (i : Nat) : 0 ≤ cs.getD i 0 ∧ cs.getD i 0 ≤ 1099511627776 := by
  rw [List.getD_eq_getElem?_getD]
  cases hc : cs[i]? with
  | none => simp
  | some c =>
    have := List.all_eq_true.1 h c (List.mem_iff_getElem?.2 ⟨i, hc⟩)
    simpa using this
theorem rawU_bd {cs : List Int} (h : okCounts cs = true) : ∀ (d : Nat), d ≤ cs.length → nnT (rawU cs d) ∧ (∀ s, colS s (rawU cs d) ≤ if cs.length - d ≤ s then 1 else 0) ∧ wS (rawU cs d) ≤ 1099511627776 * d ∧ (rawU cs d).length ≤ d
  | 0, _ => by
    refine ⟨fun x hx => by simp [rawU] at hx, fun s => by simp only [rawU, colS]; split <;> omega, by simp [rawU, wS], by simp [rawU]⟩
  | d + 1, hd => by
    obtain ⟨a, b, c, e⟩ := rawU_bd h d (by omega)
    have hc := okCounts_at h (cs.length - (d + 1))
    rw [rawU]
    split
    · rename_i q
      refine ⟨nnT_app a fun x hx => ?_, fun s => ?_, ?_, by simp; omega⟩
      · simp at hx; subst hx
        refine ⟨by show 0 ≤ cs.getD _ 0; omega, fun s => ?_⟩
        show 0 ≤ (eV _).getD s 0
        rw [eV_get]; split <;> omega
      · rw [colS_app]
        have := b s
        show _ + ((eV _).getD s 0 + 0) ≤ _
        rw [eV_get]
        split at this <;> split <;> split <;> omega
      · rw [wS_app]
        show _ + (cs.getD _ 0 + 0) ≤ _
        push_cast
        omega
    · rw [List.append_nil]
      refine ⟨a, fun s => ?_, by push_cast; omega, by omega⟩
      have := b s
      split at this <;> split <;> omega
theorem things_bd {cs : List Int} (h : okCounts cs = true) (h256 : cs.length ≤ 256) : nnT (thingsL cs) ∧ (∀ s, colS s (thingsL cs) ≤ 1) ∧ wS (thingsL cs) ≤ 281474976710656 ∧ (thingsL cs).length ≤ cs.length := by
  obtain ⟨p, _⟩ := refU_spec h256 cs.length (Nat.le_refl _)
  obtain ⟨a, b, c, e⟩ := rawU_bd h cs.length (Nat.le_refl _)
  refine ⟨nnT_perm p a, fun s => ?_, ?_, ?_⟩
  · rw [thingsL, colS_perm s p]; have := b s; split at this <;> omega
  · rw [thingsL, wS_perm p]; omega
  · rw [thingsL, p.length_eq]; exact e
def lensOf (n : Nat) (l : List Th) : List Int := (List.range n).map fun i => colS i l
def lenRes (cs : List Int) (limit : Int) : List Int × Int :=
  if 256 < cs.length then ([], 2) else if okCounts cs = false ∨ limit < 1 ∨ 15 < limit then ([], 3) else if 2 ^ limit.toNat < (thingsL cs).length then ([], 41) else
  (lensOf cs.length ((rowL (thingsL cs) (limit.toNat - 1)).take (if (thingsL cs).length = 0 then 0 else max (2 * (thingsL cs).length - 2) 1)), 0)
end Go.Proofs.Ytkkjjjgcfnhabaa.Eng
namespace Go.Proofs.Ytkkjjjgcfnhabaa.Eng
open Go Go.Proofs
theorem f194.nil (φ : Fx) (A : Option Addr) (c : Nat) (H : Hp) : HCalls cx.P φ 194 [.slice A 0 c, .int .i64 0, .int .i64 0, cmpV] H fun r H' => r = .tuple #[] ∧ H' = H := by
  apply f194.of
  unfold f194.VC
  refine ⟨by omega, fun i H' => 1 ≤ i ∧ H' = H, fun _ _ => 0, ⟨by omega, rfl⟩, ?_⟩
  rintro i _ H' ⟨hi, rfl⟩
  exact ⟨fun h => by simp only [decide_eq_true_eq] at h; omega, fun _ => ⟨rfl, rfl⟩⟩
theorem f190.nil (φ : Fx) (A : Option Addr) (c : Nat) (H : Hp) : HCalls cx.P φ 190 [.slice A 0 c, .int .i64 0, cmpV] H fun r H' => r = .tuple #[] ∧ H' = H := by
  apply f190.of
  unfold f190.VC
  refine ⟨fun a b H' => a = 0 ∧ b = 20 ∧ H' = H, fun _ _ _ => 0, ⟨rfl, rfl, rfl⟩, ?_⟩
  rintro a b _ H' ⟨rfl, rfl, rfl⟩
  refine ⟨fun h => (nomatch h), fun _ => HCalls.mono (f194.nil φ A c H') ?_⟩
  rintro r H2 ⟨rfl, rfl⟩
  refine ⟨rfl, fun z H' => 0 ≤ z ∧ H' = H2, fun _ _ => 0, ⟨by omega, rfl⟩, ?_⟩
  rintro z _ H3 ⟨hz, rfl⟩
  exact ⟨fun h => by simp only [decide_eq_true_eq] at h; omega, fun _ => ⟨rfl, rfl⟩⟩
theorem f170.spec (φ : Fx) {A : Option Addr} {n c base : Nat} {l0 : List Th} {H : Hp} (own : ownTh H base A n c l0) (hn : n ≤ 1099511627776) (hr : rin rkS l0) :
    HCalls cx.P φ 170 [.slice A n c, cmpV] H fun r H' => r = .tuple #[] ∧ offA A H H' ∧ ∃ l, l.Perm l0 ∧ srt rkS l ∧ ownTh H' base A n c l := by
  apply f170.of
  unfold f170.VC
  by_cases h0 : n = 0
  · subst h0
    refine HCalls.mono (f190.nil φ A c H) ?_
    rintro r H' ⟨rfl, rfl⟩
    have := own.len
    have e : l0 = [] := List.eq_nil_of_length_eq_zero this
    subst e
    exact ⟨rfl, rfl, offA.refl .., [], List.Perm.refl _, List.Pairwise.nil, own⟩
  · obtain ⟨b, rfl, _, _⟩ := ownC.some_of own (by omega)
    refine HCalls.mono (f190.spec rkS φ own hn hr) ?_
    rintro r H' ⟨rfl, h⟩
    exact ⟨rfl, rfl, h⟩
def zeroTh : List Value := Value.int .i64 0 :: List.replicate 256 (Value.int .u8 0)
/-- A new thing: its weight is laid, then its one. -/
theorem one_new (H : Hp) (w : Int) (i : Nat) (hi : i < 256) (H2 : Hp) (k2 : Keeps H H2) (hb : H.size < H2.size) (o2 : objAt H2 H.size (Value.int .i64 w :: List.replicate 256 (Value.int .u8 0)).toArray 180) :
    canPut H2 H.size (0 + 1 + i * 1) [.int .u8 1] ∧ isTh (hput H2 H.size (0 + 1 + i * 1) [.int .u8 1]) H.size 0 (one w i) ∧ Keeps H (hput H2 H.size (0 + 1 + i * 1) [.int .u8 1]) := by
  refine ⟨objAt_canPut o2 (by simp; omega) (by simp [Value.oneCell']), fun r v hv => ?_, k2.hput (Nat.le_refl _)⟩
  have o3 := objAt_hput o2 (0 + 1 + i * 1) [.int .u8 1]
  have hr := (List.getElem?_eq_some_iff.1 hv).1
  rw [encTh_len] at hr
  rw [objAt_cel o3, getElem?_spl _ _ _ (by simp; omega)]
  match r, hv, hr with
  | 0, hv, _ =>
    rw [if_neg (by simp)]
    simp [encTh, one] at hv ⊢
    exact hv
  | r + 1, hv, hr =>
    have e : (one w i).o = (List.range 256).map fun j => if j = i then 1 else 0 := rfl
    simp only [encTh, List.getElem?_cons_succ, List.append_nil, List.getElem?_map, e] at hv
    rw [List.getElem?_range (by omega)] at hv
    simp only [Option.map_some, Option.some.injEq] at hv
    by_cases q : r = i
    · subst q
      rw [if_pos (by simp; omega)]
      simp at hv ⊢
      rw [show r + 1 - (1 + r) = 0 by omega]; simpa using hv
    · rw [if_neg (by simp; omega)]
      rw [if_neg q] at hv
      rw [Nat.zero_add]
      simp only [List.getElem?_toArray, List.getElem?_cons_succ]
      rw [List.getElem?_replicate, if_pos (by omega)]
      rw [← hv]
theorem app175 {H : Hp} {base : Nat} {A : Option Addr} {n c : Nat} {xs : List Th} (own : ownTh H base A n c xs) (hbase : base ≤ H.size) (hn : n ≤ 1073741824) (x : Th) (d : Nat) {K : Value → Hp → Prop}
    (hK : ∀ A' c' H', ownTh H' base A' (n + 1) c' (xs ++ [x]) → offA A H H' → (A' = A ∨ ∃ q, H.size ≤ q ∧ A' = some ⟨q, 0, none⟩) → K (.slice A' (n + 1) c') H') :
    appW cx 175 175 (.slice A n c) (.slice (some ⟨H.size, 0, none⟩) 1 d) (Array.push H (.cells (Value.int .i64 x.w :: (List.map (Value.int .u8) x.o ++ [])).toArray 180 (0, 0))) K := by
  have k : Keeps H (Array.push H (.cells (encTh x).toArray 180 (0, 0))) := Keeps.push ..
  have hs : rdC (Array.push H (.cells (encTh x).toArray 180 (0, 0))) (some ⟨H.size, 0, none⟩) (1 * 257) (encTh x) := rdC_new _ _ _ _ _ (encTh_len x)
  refine app_own' (i := ⟨175, .slc 180, 1, 24, [.slice none 0 0], [.slc], [(false, [.slc])], false⟩) (e := 180) (ie := ⟨180, .st [(0, 1, false), (1, 256, true)], 257, 264, Value.int .i64 0 :: List.replicate 256 (.int .u8 0), [.int .i64, .ints 256 .u8], [(true, [.int .i64, .ints 256 .u8])], false⟩) rfl rfl rfl rfl (ownTh.keeps own k) (m := 1) (ys := encTh x)
    (show srcC _ 257 (.slice (some ⟨H.size, 0, none⟩) 1 d) 1 _ from ⟨rfl, hs⟩) (by rw [encTh_len]; rfl) (encTh_one x) (by show (n + 1) * 264 ≤ _; omega) (by have := k.size; omega) ?_
  intro A' c' H' w f e _
  refine hK A' c' H' (by unfold ownTh; rw [List.flatMap_append]; simpa using w) ⟨Nat.le_trans k.size f.1, fun q hq hne => by rw [f.2 q (Nat.lt_of_lt_of_le hq k.size) hne]; exact k.old q hq⟩ ?_
  rcases e with e | e
  · exact Or.inl e.1
  · exact Or.inr ⟨_, k.size, e.1⟩
theorem f123.spec (φ : Fx) (A : Option Addr) (n c : Nat) (cs : List Int) (H : Hp) (hr : intsR H A n cs) (h256 : n ≤ 256) :
    HCalls cx.P φ 123 [.slice A n c] H fun r H' => ∃ A' m c', r = .slice A' m c' ∧ ownTh H' H.size A' m c' (thingsL cs) ∧ Keeps H H' := by
  apply f123.of
  unfold f123.VC
  have hl := hr.1
  refine ⟨by omega, ?_⟩
  refine ⟨fun lA ln lc i H' => -1 ≤ i ∧ i < n ∧ Keeps H H' ∧ ln ≤ n - (i + 1).toNat ∧ ownTh H' H.size lA ln lc (rawU cs (n - (i + 1).toNat)), fun _ _ _ i _ => (i + 1).toNat,
    ⟨by omega, by omega, Keeps.refl _, by omega, by rw [show n - ((n : Int) - 1 + 1).toNat = 0 by omega]; exact ownC_nil ..⟩, ?_⟩
  rintro lA ln lc i _ H1 ⟨h0, h1, k1, hln, own1⟩
  have s1 := k1.size
  refine ⟨fun hi => ?_, fun hi => ?_⟩
  · simp only [decide_eq_true_eq] at hi
    obtain ⟨x, b, o, hx, rfl, cx, _⟩ := hr.at hi h1
    simp -zeta only [xA, xI (k1.cel cx)]
    have hgd : cs.getD (cs.length - (n - (i + 1).toNat + 1)) 0 = x := by
      rw [List.getD_eq_getElem?_getD, show cs.length - (n - (i + 1).toNat + 1) = i.toNat by omega, hx]; rfl
    have hstep : rawU cs (n - (i - 1 + 1).toNat) = rawU cs (n - (i + 1).toNat) ++ (if 0 < x then [one x i.toNat] else []) := by
      rw [show n - (i - 1 + 1).toNat = (n - (i + 1).toNat) + 1 by omega, rawU, hgd, show cs.length - (n - (i + 1).toNat + 1) = i.toNat by omega]
    refine ⟨⟨hi, h1⟩, ?_⟩
    refine ⟨fun A' n' c' H' => Keeps H H' ∧ n' ≤ n - (i - 1 + 1).toNat ∧ ownTh H' H.size A' n' c' (rawU cs (n - (i - 1 + 1).toNat)), ⟨fun hp => ?_, fun hp => ?_⟩, fun A' n' c' _ H' h => ⟨by omega, ⟨by omega, by omega, h.1, h.2.1, h.2.2⟩, by omega⟩⟩
    · simp only [decide_eq_true_eq] at hp
      refine ⟨⟨hi, h1⟩, ?_⟩
      intro H2
      have o2 : objAt H2 H1.size zeroTh.toArray 180 := objAt_new ..
      have k12 : Keeps H1 H2 := Keeps.push ..
      have s12 : H2.size = H1.size + 1 := by simp [H2]
      clear_value H2
      change canPut H2 H1.size 0 (Value.int .i64 x :: List.replicate 256 (Value.int .u8 0)) ∧ _
      refine ⟨objAt_canPut o2 (by simp [zeroTh]) (by intro v hv; rcases List.mem_cons.1 hv with e | e; (subst e; rfl); (have := List.eq_of_mem_replicate e; subst this; rfl)), ?_⟩
      intro H3
      have o3 : objAt H3 H1.size (Value.int .i64 x :: List.replicate 256 (Value.int .u8 0)).toArray 180 := objAt_put o2 0 (Value.int .i64 x :: List.replicate 256 (Value.int .u8 0)) _ (by simp [spl, zeroTh])
      have k13 : Keeps H1 H3 := k12.hput (Nat.le_refl _)
      have s13 : H3.size = H2.size := hput_size ..
      clear_value H3
      obtain ⟨p1, p2, p3⟩ := one_new H1 x i.toNat (by omega) H3 k13 (by omega) o3
      refine ⟨⟨hi, by omega⟩, p1, ?_⟩
      intro H4
      have p2 : isTh H4 H1.size 0 (one x i.toNat) := p2
      have k14 : Keeps H1 H4 := p3
      clear_value H4
      simp -zeta only [xT p2, fitsTh]
      try intro H5
      have own4 := own1.keeps k14
      have s14 := k14.size
      refine app175 own4 (by omega) (by omega) (one x i.toNat) 1 ?_
      intro A5 c5 H6 w f e
      refine ⟨_, _, _, rfl, f.keeps (k1.trans k14) fun b hb => (ownC.lt own4 hb).1, by omega, ?_⟩
      rw [hstep, if_pos hp]; exact w
    · simp only [decide_eq_false_iff_not] at hp
      refine ⟨k1, by omega, ?_⟩
      rw [hstep, if_neg hp, List.append_nil]; exact own1
  · simp only [decide_eq_false_iff_not] at hi
    have e : n - (i + 1).toNat = cs.length := by omega
    rw [e] at own1
    refine HCalls.mono (f170.spec φ own1 (by omega) (rawU_rin (by omega) _ (Nat.le_refl _))) ?_
    rintro r H2 ⟨rfl, f, l, pm, sr, w⟩
    have := sorted_things (by omega) pm sr
    subst this
    exact ⟨rfl, _, _, _, rfl, w, f.keeps k1 fun b hb => (ownC.lt own1 hb).1⟩
end Go.Proofs.Ytkkjjjgcfnhabaa.Eng
namespace Go.Proofs.Ytkkjjjgcfnhabaa.Eng
open Go Go.Proofs
def Th.setO (z : Th) (i : Nat) (v : Int) : Th := ⟨z.w, z.o.set i v, by simp [z.len]⟩
def Th.setW (z : Th) (v : Int) : Th := ⟨v, z.o, z.len⟩
theorem spl_one (l : List Value) (o : Nat) (v : Value) (h : o < l.length) : spl l.toArray o [v] = (l.set o v).toArray := by
  have e1 : spl l.toArray o [v] = l.toArray.setIfInBounds o v := by rw [← spl_cons _ _ _ _ (by simp; omega), spl_nil]
  rw [e1, List.setIfInBounds_toArray]
theorem th_put {H : Hp} {b : Nat} {z : Th} (o : objAt H b (encTh z).toArray 180) {i : Nat} (hi : i < 256) (v : Int) :
    canPut H b (0 + 1 + i * 1) [.int .u8 v] ∧ objAt (hput H b (0 + 1 + i * 1) [.int .u8 v]) b (encTh (z.setO i v)).toArray 180 := by
  have hl := encTh_len z
  refine ⟨objAt_canPut o (by simp [hl]; omega) (by simp [Value.oneCell']), objAt_put o _ _ _ ?_⟩
  rw [spl_one _ _ _ (by rw [hl]; omega)]
  congr 1
  rw [show 0 + 1 + i * 1 = i + 1 by omega]
  simp only [encTh, Th.setO, List.set_cons_succ, List.append_nil, List.map_set]
theorem th_putW {H : Hp} {b : Nat} {z : Th} (o : objAt H b (encTh z).toArray 180) (v : Int) :
    canPut H b 0 [.int .i64 v] ∧ objAt (hput H b 0 [.int .i64 v]) b (encTh (z.setW v)).toArray 180 := by
  have hl := encTh_len z
  refine ⟨objAt_canPut o (by simp [hl]) (by simp [Value.oneCell']), objAt_put o _ _ _ ?_⟩
  rw [spl_one _ _ _ (by rw [hl]; omega)]
  rfl
theorem objAt_isTh {H : Hp} {b : Nat} {z : Th} (o : objAt H b (encTh z).toArray 180) : isTh H b 0 z := fun r v hv => by
  rw [Nat.zero_add, objAt_cel o]; simpa using hv
theorem getD_set (l : List Int) (i j : Nat) (v : Int) (hi : i < l.length) : (l.set i v).getD j 0 = if j = i then v else l.getD j 0 := by
  simp only [List.getD_eq_getElem?_getD, List.getElem?_set]
  by_cases h : j = i
  · subst h; simp [hi]
  · rw [if_neg (fun e => h e.symm), if_neg h]
theorem f172.spec (φ : Fx) (x y : Th) (H : Hp) (hx : ∀ s, 0 ≤ x.o.getD s 0 ∧ 0 ≤ y.o.getD s 0 ∧ x.o.getD s 0 + y.o.getD s 0 ≤ 255) (hw : 0 ≤ x.w ∧ 0 ≤ y.w ∧ x.w + y.w ≤ 1152921504606846976) :
    HCalls cx.P φ 172 [.agg (Value.int .i64 x.w :: (List.map (Value.int .u8) x.o ++ [])).toArray, .agg (Value.int .i64 y.w :: (List.map (Value.int .u8) y.o ++ [])).toArray] H fun r H' => r = .agg (encTh (bothT x y)).toArray ∧ Keeps H H' := by
  apply f172.of
  unfold f172.VC
  intro H1
  have o1 : objAt H1 H.size (encTh x).toArray 180 := objAt_new ..
  have k1 : Keeps H H1 := Keeps.push ..
  have s1 : H1.size = H.size + 1 := by simp [H1]
  clear_value H1
  intro H2
  have o2 : objAt H2 H1.size (encTh y).toArray 180 := objAt_new ..
  have k12 : Keeps H1 H2 := Keeps.push ..
  have s2 : H2.size = H1.size + 1 := by simp [H2]
  clear_value H2
  intro H3
  have o3 : objAt H3 H2.size zeroTh.toArray 180 := objAt_new ..
  have k23 : Keeps H2 H3 := Keeps.push ..
  have s3 : H3.size = H2.size + 1 := by simp [H3]
  clear_value H3
  have k03 := (k1.trans k12).trans k23
  have a3 := (k12.trans k23).obj o1
  have b3 := k23.obj o2
  simp -zeta only [xI (objAt_isTh a3).w, xI (objAt_isTh b3).w]
  obtain ⟨p1, p2⟩ := th_putW a3 (x.w + y.w)
  refine ⟨by omega, p1, ?_⟩
  intro H4
  have x4 : ∀ q, q ≠ H.size → H4[q]? = H3[q]? := fun q hq => hput_other (fun e => hq e.symm)
  have s4 : H4.size = H3.size := hput_size ..
  have p2 : objAt H4 H.size (encTh (x.setW (x.w + y.w))).toArray 180 := p2
  have k04 : Keeps H H4 := k03.hput (Nat.le_refl _)
  clear_value H4
  have b4 := b3.frame (x4 H1.size (by omega))
  have c4 := o3.frame (x4 H2.size (by omega))
  refine ⟨y.o, ⟨y.len, fun j hj => (objAt_isTh b4).o hj⟩, ?_⟩
  refine ⟨fun i H' => 0 ≤ i ∧ i ≤ 256 ∧ Keeps H H' ∧ H'.size = H4.size ∧ objAt H' H2.size zeroTh.toArray 180 ∧ ∃ z : Th, objAt H' H.size (encTh z).toArray 180 ∧ z.w = x.w + y.w ∧ ∀ j, j < 256 → z.o.getD j 0 = if (j : Int) < i then x.o.getD j 0 + y.o.getD j 0 else x.o.getD j 0, fun i _ => (256 - i).toNat,
    ⟨by omega, by omega, k04, rfl, c4, _, p2, rfl, fun j _ => by rw [if_neg (by omega)]; rfl⟩, ?_⟩
  rintro i _ H5 ⟨h0, h1, k05, s5, c5, z, oz, hzw, hz⟩
  refine ⟨fun hi => ?_, fun hi => ?_⟩
  · simp only [decide_eq_true_eq] at hi
    have hi2 : i.toNat < 256 := by omega
    have g := hz i.toNat hi2
    rw [if_neg (by omega)] at g
    have hb := hx i.toNat
    have gy : ((List.map (Value.int .u8) y.o ++ [] : List Value))[Int.toNat i]? = some (.int .u8 (y.o.getD i.toNat 0)) := by
      rw [List.append_nil, List.getElem?_map, List.getD_eq_getElem?_getD, List.getElem?_eq_getElem (by rw [y.len]; exact hi2)]; rfl
    have ez : cel H5 H.size (0 + 1 + Int.toNat i * 1) = some (.int .u8 (x.o.getD i.toNat 0)) := by
      have := (objAt_isTh oz).o hi2
      rw [g] at this; rw [Nat.mul_one]; exact this
    have ew : IntKind.wrap .u8 (x.o.getD i.toNat 0 + y.o.getD i.toNat 0) = x.o.getD i.toNat 0 + y.o.getD i.toNat 0 := by rw [wrap_u8]; omega
    obtain ⟨q1, q2⟩ := th_put oz hi2 (x.o.getD i.toNat 0 + y.o.getD i.toNat 0)
    refine ⟨⟨h0, by omega⟩, _, gy, ⟨h0, by omega⟩, ?_⟩
    simp -zeta only [xI ez, ew]
    refine ⟨⟨h0, by omega⟩, q1, by omega, ⟨by omega, by omega, k05.hput (Nat.le_refl _), by rw [hput_size]; exact s5, c5.frame (hput_other (by omega)), _, q2, hzw, fun j hj => ?_⟩, by omega⟩
    show (z.o.set i.toNat _).getD j 0 = _
    rw [getD_set _ _ _ _ (by rw [z.len]; exact hi2), hz j hj]
    by_cases q : j = i.toNat
    · subst q; rw [if_pos rfl, if_pos (by omega)]
    · rw [if_neg q]
      by_cases q2 : (j : Int) < i
      · rw [if_pos q2, if_pos (by omega)]
      · rw [if_neg q2, if_neg (by omega)]
  · simp only [decide_eq_false_iff_not] at hi
    have : z = bothT x y := Th.ext' hzw (list256 z.len (bothT x y).len fun j hj => by rw [hz j hj, if_pos (by omega), bothT_get])
    subst this
    refine Eq.mpr (xT (objAt_isTh oz) _) ?_
    simp -zeta only [fitsTh]
    refine ⟨objAt_canPut c5 (by simp [zeroTh, (bothT x y).len]) (fun v hv => encTh_one (bothT x y) v hv), ?_⟩
    have o7 : objAt (hput H5 H2.size 0 (encTh (bothT x y))) H2.size (encTh (bothT x y)).toArray 180 := objAt_put c5 _ _ _ (by simp [spl, zeroTh, encTh_len])
    have k7 : Keeps H (hput H5 H2.size 0 (encTh (bothT x y))) := k05.hput (by omega)
    have : isTh (hput H5 H2.size 0 (Value.int .i64 (bothT x y).w :: (List.map (Value.int .u8) (bothT x y).o ++ []))) H2.size 0 (bothT x y) := objAt_isTh o7
    exact Eq.mpr (xT this _) ⟨rfl, k7⟩
theorem rowR_part {α : Type} {E : Hp → Nat → Nat → α → Prop} {sz : Nat} {H : Hp} {A : Option Addr} {n c : Nat} {xs : List α} (h : rowR E sz H A n xs) {i : Nat} (hi : i ≤ n) (hc : n ≤ c) : rowR E sz H (slA A i c sz) (n - i) (xs.drop i) := by
  have hl := h.1
  refine ⟨by simp; omega, fun k x hx => ?_⟩
  rw [List.getElem?_drop] at hx
  have hk := (List.getElem?_eq_some_iff.1 hx).1
  obtain ⟨b, o, rfl, he⟩ := h.2 (i + k) x hx
  refine ⟨b, o + i * sz, ?_, ?_⟩
  · rw [slA, if_neg (by omega), Option.map_some, add_off]
  · have : o + (i + k) * sz = o + i * sz + k * sz := by rw [Nat.add_mul]; omega
    rw [this] at he; exact he
theorem mergeL_le {x p : Th} {fs r : List Th} (h : x.w ≤ p.w) : mergeL (x :: fs) (p :: r) = x :: mergeL fs (p :: r) := by
  rw [mergeL, mergeL, List.takeWhile_cons_of_pos (by simpa using h), List.dropWhile_cons_of_pos (by simpa using h)]; rfl
theorem mergeL_gt {p : Th} {fs r : List Th} (h : fs = [] ∨ ∃ x t, fs = x :: t ∧ ¬ x.w ≤ p.w) : mergeL fs (p :: r) = p :: mergeL fs r := by
  rcases h with h | ⟨x, t, h, hx⟩
  · subst h; rw [mergeL]; rfl
  · subst h
    rw [mergeL, List.takeWhile_cons_of_neg (by simpa using hx), List.dropWhile_cons_of_neg (by simpa using hx)]; rfl
theorem app175s {H : Hp} {base : Nat} {A : Option Addr} {n c : Nat} {xs : List Th} (own : ownTh H base A n c xs) (hbase : base ≤ H.size) {B : Option Addr} {m d : Nat} {ys : List Th} (hs : thR H B m ys) (hn : n + m ≤ 1073741824) {K : Value → Hp → Prop}
    (hK : ∀ A' c' H', ownTh H' base A' (n + m) c' (xs ++ ys) → offA A H H' → K (.slice A' (n + m) c') H') :
    appW cx 175 175 (.slice A n c) (.slice B m d) H K := by
  have hr := rowR.rd encTh encTh_len (fun _ _ _ _ h r v hv => h r v hv) hs
  refine app_own' (i := ⟨175, .slc 180, 1, 24, [.slice none 0 0], [.slc], [(false, [.slc])], false⟩) (e := 180) (ie := ⟨180, .st [(0, 1, false), (1, 256, true)], 257, 264, Value.int .i64 0 :: List.replicate 256 (.int .u8 0), [.int .i64, .ints 256 .u8], [(true, [.int .i64, .ints 256 .u8])], false⟩) rfl rfl rfl rfl own (m := m) (ys := ys.flatMap encTh)
    (show srcC _ 257 (.slice B m d) m _ from ⟨rfl, hr⟩) hr.1 (flat_one encTh encTh_one ys) (by show (n + m) * 264 ≤ _; omega) hbase ?_
  intro A' c' H' w f _ _
  exact hK A' c' H' (by unfold ownTh; rw [List.flatMap_append]; exact w) f
theorem drop2 {α : Type} {l : List α} {i : Nat} {x y : α} (hx : l[i]? = some x) (hy : l[i + 1]? = some y) : l.drop i = x :: y :: l.drop (i + 2) := by
  rw [drop_at hx, drop_at hy]
end Go.Proofs.Ytkkjjjgcfnhabaa.Eng
