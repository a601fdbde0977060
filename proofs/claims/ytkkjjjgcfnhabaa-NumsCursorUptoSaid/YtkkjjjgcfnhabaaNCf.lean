/- Part NCf of the proof of the claim in this folder: a way to walk code, and the contracts of the functions that the law reaches. Conditions: none. -/
import Derived.Test.YtkkjjjgcfnhabaaNCe
import Derived.Test.YtkkjjjgcfnhabaaNCb
import Derived.Test.YtkkjjjgcfnhabaaEngB
set_option linter.unusedVariables false
set_option linter.unusedSimpArgs false
set_option maxRecDepth 10000
set_option maxRecDepth 100000
namespace Go.Proofs.Ytkkjjjgcfnhabaa.Eng
open Go Go.Proofs
/-- As app_own; and where the list moved, nothing that was there has turned. -/
theorem app_own' {C : Ctx} {t tx : TypeId} {i : TI} {e : TypeId} {ie : TI} (hi : tget C.T t = some i) (hk : i.k = .slc e) (hie : tget C.T e = some ie)
    {x : Value} (hb : (srcB C tx x && Nat.blt 0 ie.size && Nat.blt 0 ie.bytes && Nat.beq ie.zero.length ie.size) = true) {H : Hp} {base : Nat} {A : Option Addr} {n c : Nat} {vs : List Value}
    (h : ownC H base e ie.size A n c vs) {m : Nat} {ys : List Value} (hs : srcC H ie.size x m ys) (hy : ys.length = m * ie.size) (hv : ∀ v ∈ ys, v.oneCell' = true) (hn : (n + m) * ie.bytes ≤ 140737488355328)
    (hbase : base ≤ H.size) {K : Value → Hp → Prop}
    (hK : ∀ A' c' H', ownC H' base e ie.size A' (n + m) c' (vs ++ ys) → offA A H H' → ((A' = A ∧ c' = c) ∨ (A' = some ⟨H.size, 0, none⟩ ∧ Keeps H H')) → (m = 0 ∨ A' ≠ none) → K (.slice A' (n + m) c') H') :
    appW C t tx (.slice A n c) x H K := by
  obtain ⟨hl, hnc, ho⟩ := h
  have hsz : 0 < ie.size := by
    simp only [Bool.and_eq_true] at hb; exact Nat.le_of_ble_eq_true hb.1.1.2
  have hzl : ie.zero.length = ie.size := by
    simp only [Bool.and_eq_true] at hb; exact Nat.eq_of_beq_eq_true hb.2
  unfold appW
  simp only [hi, hk, hie]
  rw [hb]
  refine ⟨m, ys, hs, fun hc => ?_, fun hc => ⟨hn, vs, ?_, fun cap h1 h2 => ?_⟩⟩
  · rcases ho with ⟨rfl, rfl⟩ | ⟨b, cs, h3, rfl, h5, h6, h7⟩
    · have : m = 0 := by omega
      subst this
      have : ys = [] := List.eq_nil_of_length_eq_zero (by omega)
      subst this
      refine ⟨Or.inl rfl, ?_⟩
      have := hK none 0 H ⟨by simp [hl], by omega, Or.inl ⟨rfl, rfl⟩⟩ ⟨Nat.le_refl _, fun _ _ _ => rfl⟩ (Or.inl ⟨rfl, rfl⟩) (Or.inl rfl)
      simpa [hputA] using this
    · have hle : n * ie.size + ys.length ≤ cs.size := by
        rw [hy, h6, ← Nat.add_mul]; exact Nat.mul_le_mul_right _ hc
      refine ⟨Or.inr ⟨b, 0, rfl, cs, e, 0, 0, h5, by simpa using hle, by omega, hv⟩, ?_⟩
      have ho' := objAt_hput h5 (0 + n * ie.size) ys
      rw [Nat.zero_add] at ho'
      refine hK _ _ _ ⟨by simp [hl, hy, Nat.add_mul], hc, Or.inr ⟨b, _, h3, rfl, ?_, by rw [size_spl _ _ _ hle]; exact h6, ?_⟩⟩ ⟨by simp [hputA, hput_size], fun k hk hne => ?_⟩ (Or.inl ⟨rfl, rfl⟩) (Or.inr (by simp))
      · simpa [hputA] using ho'
      · rw [Nat.add_mul, ← hy, spl_take hle, h7]
      · simp only [hputA]
        exact hput_other (fun e => hne (by rw [e]))
  · have h : ownC H base e ie.size A n c vs := ⟨hl, hnc, ho⟩
    exact h.rd
  · refine hK _ _ _ ⟨by simp [hl, hy, Nat.add_mul], h1, Or.inr ⟨H.size, _, hbase, rfl, objAt_new _ _ _, ?_, ?_⟩⟩ ⟨by simp, fun k hk _ => ?_⟩ (Or.inr ⟨rfl, Keeps.push ..⟩) (Or.inr (by simp))
    · simp only [List.size_toArray, List.length_append, hl, hy, zrow_length, hzl]
      rw [← Nat.add_mul, ← Nat.add_mul]; congr 1; omega
    · simp only [List.toList_toArray]
      rw [List.take_append_of_le_length (by simp [hl, hy, Nat.add_mul])]
      rw [List.take_of_length_le (by simp [hl, hy, Nat.add_mul])]
    · rw [Array.getElem?_push, if_neg (by omega)]
theorem app_byte' {H : Hp} {base : Nat} {A : Option Addr} {n c : Nat} {xs : List Int} (own : ownB H base A n c xs) (hbase : base ≤ H.size) (hn : n ≤ 140737488355327) {y : Int} (hy : 0 ≤ y ∧ y < 256) {d : Nat} {K : Value → Hp → Prop}
    (hK : ∀ A' c' H', ownB H' base A' (n + 1) c' (xs ++ [y]) → offA A H H' → ((A' = A ∧ c' = c) ∨ ((∃ q, H.size ≤ q ∧ A' = some ⟨q, 0, none⟩) ∧ Keeps H H')) → K (.slice A' (n + 1) c') H') :
    appW cx 59 59 (.slice A n c) (.slice (some ⟨H.size, 0, none⟩) 1 d) (Array.push H (.cells #[.int .u8 y] 5 (0, 0))) K := by
  have k : Keeps H (Array.push H (.cells #[.int .u8 y] 5 (0, 0))) := Keeps.push ..
  have r : bytesR (Array.push H (.cells #[.int .u8 y] 5 (0, 0))) (some ⟨H.size, 0, none⟩) 1 [y] := by
    have := bytes_new H [y] (by intro x hx; simp at hx; subst hx; exact hy) (0, 0) 1 rfl
    simpa using this
  have hr := bytesR_rd r
  refine app_own' (i := ⟨59, .slc 5, 1, 24, [.slice none 0 0], [.slc], [(false, [.slc])], false⟩) (e := 5) (ie := ⟨5, .int .u8, 1, 1, [.int .u8 0], [.int .u8], [(false, [.int .u8])], false⟩) rfl rfl rfl rfl (own.own.keeps k) (m := 1) (ys := [Value.int .u8 y])
    (show srcC _ 1 (.slice (some ⟨H.size, 0, none⟩) 1 d) 1 _ from ⟨rfl, hr⟩) rfl (by simp [Value.oneCell']) (by show (n + 1) * 1 ≤ _; omega) (by have := k.size; omega) ?_
  intro A' c' H' w f e _
  refine hK A' c' H' ⟨by rw [List.map_append]; exact w, fun x hx => ?_⟩ ⟨Nat.le_trans k.size f.1, fun q hq hne => by rw [f.2 q (Nat.lt_of_lt_of_le hq k.size) hne]; exact k.old q hq⟩ ?_
  · rcases List.mem_append.1 hx with q | q
    · exact own.rng x q
    · simp at q; subst q; exact hy
  · rcases e with e | ⟨e, k2⟩
    · exact Or.inl e
    · exact Or.inr ⟨⟨_, k.size, e⟩, k.trans k2⟩
theorem f105.same (φ : Fx) (A B : Option Addr) (n m c d : Nat) (xs : List Int) (H : Hp) (hx : bytesR H A n xs) (hy : bytesR H B m xs) (hn : n ≤ 140737488355328) :
    HCalls cx.P φ 105 [.slice A n c, .slice B m d] H fun v H' => v = .bool true ∧ H' = H := by
  apply f105.of
  unfold f105.VC
  have hl : n = m := by rw [← hx.1, ← hy.1]
  subst hl
  refine ⟨fun h => by simp at h, fun _ => ?_⟩
  refine ⟨fun i H' => H' = H ∧ 0 ≤ i ∧ i ≤ n, fun i _ => (n - i).toNat, ⟨rfl, by omega, by omega⟩, ?_⟩
  rintro i _ H' ⟨rfl, h0, h1⟩
  refine ⟨fun hi => ?_, fun hi => ⟨rfl, rfl⟩⟩
  simp only [decide_eq_true_eq] at hi
  obtain ⟨x, b, o, hx1, rfl, cx, _⟩ := hx.at h0 hi
  obtain ⟨y, b2, o2, hy1, rfl, cy, _⟩ := hy.at h0 hi
  rw [hx1] at hy1; cases hy1
  simp only [xA, xI cx, xI cy]
  simp
  omega
/-! ### Bytes in new memory, with marks behind them -/
theorem f38.same (φ : Fx) (A B : Option Addr) (n c d : Nat) (xs : List Int) (H : Hp) (hx : bytesR H A (n + 64) (xs ++ List.replicate 64 150)) (hy : bytesR H B n xs) (hn : n ≤ 140737488355264) :
    HCalls cx.P φ 38 [.slice A (n + 64) c, .slice B n d] H fun v H' => v = .bool true ∧ H' = H := by
  apply f38.of
  unfold f38.VC
  have hl := hy.1
  refine ⟨by omega, fun h => ?_, fun _ => ?_⟩
  · simp at h
  refine ⟨fun i H' => H' = H ∧ 0 ≤ i ∧ i ≤ n + 64, fun i _ => (n + 64 - i).toNat, ⟨rfl, by omega, by omega⟩, ?_⟩
  rintro i _ H' ⟨rfl, h0, h1⟩
  refine ⟨fun hi => ?_, fun hi => ⟨rfl, rfl⟩⟩
  simp only [decide_eq_true_eq] at hi
  obtain ⟨x, b, o, hx1, rfl, cx, _⟩ := hx.at h0 (by omega)
  refine join1 false H' ?_ ?_
  · by_cases q : i < n
    · obtain ⟨y, b2, o2, hy1, rfl, cy, _⟩ := hy.at h0 q
      rw [List.getElem?_append_left (by omega), hy1] at hx1
      cases hx1
      simp only [xA, xI cx, xI cy]
      simp [q]; omega
    · rw [List.getElem?_append_right (by omega), List.getElem?_replicate, if_pos (by omega)] at hx1
      cases hx1
      simp only [xA, xI cx]
      simp [q]; omega
  intro _
  exact ⟨fun h => (nomatch h), fun _ => ⟨by omega, ⟨rfl, by omega, by omega⟩, by dsimp only; omega⟩⟩
theorem f36.spec (φ : Fx) (A : Option Addr) (n c : Nat) (xs : List Int) (H : Hp) (hr : bytesR H A n xs) (hn : n ≤ 140737488355264) :
    HCalls cx.P φ 36 [.slice A n c] H fun r H' => ∃ b, r = .slice (some ⟨b, 0, none⟩) (n + 64) (n + 64) ∧ b = H.size ∧ ownB H' H.size (some ⟨b, 0, none⟩) (n + 64) (n + 64) (xs ++ List.replicate 64 150) ∧ Keeps H H' := by
  apply f36.of
  unfold f36.VC
  have hl := hr.1
  have hN : Int.toNat (((n : Nat) : Int) + 64) = n + 64 := by omega
  simp -zeta only [hN]
  refine ⟨by omega, by omega, ?_⟩
  intro H1
  have o1 : objAt H1 H.size (zrow [Value.int .u8 0] (n + 64)).toArray 5 := objAt_new ..
  have k1 : Keeps H H1 := Keeps.push ..
  clear_value H1
  rw [zrow_one] at o1
  have own1 : ownB H1 H.size (some ⟨H.size, 0, none⟩) (n + 64) (n + 64) (List.replicate (n + 64) 0) := by
    refine ownB_obj ?_ (Nat.le_refl _) (by simp) (by intro x hx; have := List.eq_of_mem_replicate hx; omega)
    have : (List.replicate (n + 64) (0 : Int)).map (Value.int .u8) = (List.range (n + 64)).map fun _ => Value.int .u8 0 := by
      rw [List.map_replicate]; apply List.ext_getElem? ; intro i; by_cases h : i < n + 64 <;> simp [h]
    rw [this]; exact o1
  -- after i rounds
  have key : ∀ i : Nat, i ≤ n + 64 → ((xs ++ List.replicate 64 150).take i ++ List.replicate (n + 64 - i) (0 : Int)).length = n + 64 := by
    intro i hi; simp; omega
  refine ⟨fun i H' => 0 ≤ i ∧ i ≤ n + 64 ∧ Keeps H H' ∧ ownB H' H.size (some ⟨H.size, 0, none⟩) (n + 64) (n + 64) ((xs ++ List.replicate 64 150).take i.toNat ++ List.replicate (n + 64 - i.toNat) 0), fun i _ => (n + 64 - i).toNat, ⟨by omega, by omega, k1, by simpa using own1⟩, ?_⟩
  rintro i _ H2 ⟨h0, h1, k2, own2⟩
  refine ⟨fun hi => ?_, fun hi => ?_⟩
  · simp only [decide_eq_true_eq] at hi
    simp -zeta only [xA]
    have setE : ∀ v : Int, ((xs ++ List.replicate 64 150).take i.toNat ++ List.replicate (n + 64 - i.toNat) (0 : Int)).set i.toNat v = (xs ++ List.replicate 64 150).take i.toNat ++ v :: List.replicate (n + 64 - (i.toNat + 1)) 0 := by
      intro v
      rw [List.set_append_right _ _ (by simp; omega)]
      have : i.toNat - ((xs ++ List.replicate 64 150).take i.toNat).length = 0 := by simp; omega
      rw [this, show n + 64 - i.toNat = (n + 64 - (i.toNat + 1)) + 1 by omega, List.replicate_succ]
      rfl
    obtain ⟨p1, p2⟩ := ownB_set own2 (i := i.toNat) (by omega) (y := 150) (by omega)
    refine ⟨⟨h0, by omega⟩, p1, ?_⟩
    intro H3
    have k3 : Keeps H H3 := k2.hput (Nat.le_refl _)
    have p2 : ownB H3 H.size (some ⟨H.size, 0, none⟩) (n + 64) (n + 64) (((xs ++ List.replicate 64 150).take i.toNat ++ List.replicate (n + 64 - i.toNat) (0 : Int)).set i.toNat 150) := p2
    clear_value H3
    have nextE : ∀ (v : Int) (G : Hp), (xs ++ List.replicate 64 150)[i.toNat]? = some v → ownB G H.size (some ⟨H.size, 0, none⟩) (n + 64) (n + 64) (((xs ++ List.replicate 64 150).take i.toNat ++ List.replicate (n + 64 - i.toNat) (0 : Int)).set i.toNat v) →
        ownB G H.size (some ⟨H.size, 0, none⟩) (n + 64) (n + 64) ((xs ++ List.replicate 64 150).take (i + 1).toNat ++ List.replicate (n + 64 - (i + 1).toNat) 0) := by
      intro v G hv hw
      have e : (i + 1).toNat = i.toNat + 1 := by omega
      rw [setE] at hw
      rw [e, List.take_add_one, hv]
      simpa using hw
    refine ⟨fun H' => Keeps H H' ∧ ownB H' H.size (some ⟨H.size, 0, none⟩) (n + 64) (n + 64) ((xs ++ List.replicate 64 150).take (i + 1).toNat ++ List.replicate (n + 64 - (i + 1).toNat) 0), ⟨fun hj => ?_, fun hj => ?_⟩, fun _ H5 h5 => ⟨by omega, ⟨by omega, by omega, h5.1, h5.2⟩, by omega⟩⟩
    · simp only [decide_eq_true_eq] at hj
      obtain ⟨x, b, o, hx, rfl, cx, hu⟩ := hr.at h0 hj
      simp -zeta only [xA, xI (k3.cel cx)]
      obtain ⟨r1, r2⟩ := ownB_set p2 (i := i.toNat) (by omega) (y := x) ⟨hu.1, hu.2⟩
      rw [List.set_set] at r2
      exact ⟨⟨h0, hj⟩, ⟨h0, by omega⟩, r1, k3.hput (Nat.le_refl _), nextE x _ (by rw [List.getElem?_append_left (by omega)]; exact hx) r2⟩
    · simp only [decide_eq_false_iff_not] at hj
      exact ⟨k3, nextE 150 _ (by rw [List.getElem?_append_right (by omega), List.getElem?_replicate, if_pos (by omega)]) p2⟩
  · simp only [decide_eq_false_iff_not] at hi
    have : i.toNat = n + 64 := by omega
    rw [this, List.take_of_length_le (by simp; omega), Nat.sub_self] at own2
    exact ⟨H.size, rfl, rfl, by simpa using own2, k2⟩
end Go.Proofs.Ytkkjjjgcfnhabaa.Eng
namespace Go.Proofs.Ytkkjjjgcfnhabaa.Eng
open Go Go.Proofs
/-! ### What was handed out: Taken -/
structure En where
  lA : Option Addr
  lc : Nat
  wA : Option Addr
  wc : Nat
  gA : Option Addr
  gn : Nat
  gc : Nat
  n : Nat
  xs : List Int
def En.has (e : En) (q : Nat) : Prop := e.lA = some ⟨q, 0, none⟩ ∨ e.wA = some ⟨q, 0, none⟩ ∨ e.gA = some ⟨q, 0, none⟩
def off0 (A : Option Addr) : Prop := A = none ∨ ∃ q, A = some ⟨q, 0, none⟩
theorem ownC.off0 {H : Hp} {base : Nat} {t : TypeId} {sz : Nat} {A : Option Addr} {n c : Nat} {vs : List Value} (h : ownC H base t sz A n c vs) : Go.Proofs.Ytkkjjjgcfnhabaa.Eng.off0 A := by
  obtain ⟨_, _, q | ⟨b, cs, h1, h2, h3, _⟩⟩ := h
  · exact Or.inl q.1
  · exact Or.inr ⟨b, h2⟩
theorem bytesR_frame {H H' : Hp} {A : Option Addr} {n : Nat} {xs : List Int} (h : bytesR H A n xs) (h0 : off0 A) (hf : ∀ q, A = some ⟨q, 0, none⟩ → H'[q]? = H[q]?) : bytesR H' A n xs :=
  ⟨h.1, fun i x hx => by
    obtain ⟨b, o, e, hc, hu⟩ := h.2 i x hx
    refine ⟨b, o, e, ?_, hu⟩
    rcases h0 with h0 | ⟨q, h0⟩
    · rw [h0] at e; cases e
    · rw [h0] at e; cases e
      have := hf b h0
      unfold cel at hc ⊢; rw [this]; exact hc⟩
structure EnOk (H : Hp) (base i : Nat) (e : En) : Prop where
  l : bytesR H e.lA e.n e.xs
  w : bytesR H e.wA e.n e.xs
  g : (e.gA = none ∧ e.gn = 0 ∧ ownB H base e.lA e.n e.lc e.xs ∧ ownB H base e.wA e.n e.wc e.xs) ∨ (e.gn = e.n + 64 ∧ bytesR H e.gA e.gn (e.xs ++ List.replicate 64 (200 + (i : Int) % 55)))
  l0 : off0 e.lA
  w0 : off0 e.wA
  g0 : off0 e.gA
  lw : ∀ q, e.lA = some ⟨q, 0, none⟩ → e.wA ≠ some ⟨q, 0, none⟩
  bd : ∀ q, e.has q → base ≤ q ∧ q < H.size
  ty : ∀ q, e.has q → ∃ cs, objAt H q cs 5
  nb : e.n ≤ 1099511627776
theorem EnOk.frame {H H' : Hp} {base i : Nat} {e : En} (h : EnOk H base i e) (hs : H.size ≤ H'.size) (hf : ∀ q, e.has q → H'[q]? = H[q]?) : EnOk H' base i e where
  l := bytesR_frame h.l h.l0 fun q hq => hf q (Or.inl hq)
  w := bytesR_frame h.w h.w0 fun q hq => hf q (Or.inr (Or.inl hq))
  g := by
    rcases h.g with ⟨a, b, c, d⟩ | ⟨a, b⟩
    · exact Or.inl ⟨a, b, c.frame fun q hq => hf q (Or.inl hq), d.frame fun q hq => hf q (Or.inr (Or.inl hq))⟩
    · exact Or.inr ⟨a, bytesR_frame b h.g0 fun q hq => hf q (Or.inr (Or.inr hq))⟩
  l0 := h.l0
  w0 := h.w0
  g0 := h.g0
  lw := h.lw
  bd := fun q hq => ⟨(h.bd q hq).1, Nat.lt_of_lt_of_le (h.bd q hq).2 hs⟩
  ty := fun q hq => by obtain ⟨cs, o⟩ := h.ty q hq; exact ⟨cs, o.frame (hf q hq)⟩
  nb := h.nb
def lV (e : En) : Value := .slice e.lA e.n e.lc
def wV (e : En) : Value := .slice e.wA e.n e.wc
def gV (e : En) : Value := .slice e.gA e.gn e.gc
structure TV where
  LA : Option Addr
  lc : Nat
  WA : Option Addr
  wc : Nat
  GA : Option Addr
  gc : Nat
structure TS (H : Hp) (base t : Nat) (v : TV) (es : List En) : Prop where
  to : objAt H t #[.slice v.LA es.length v.lc, .slice v.WA es.length v.wc, .slice v.GA es.length v.gc] 78
  tb : base ≤ t
  oL : ownC H base 59 1 v.LA es.length v.lc (es.map lV)
  oW : ownC H base 59 1 v.WA es.length v.wc (es.map wV)
  oG : ownC H base 59 1 v.GA es.length v.gc (es.map gV)
  lw : ∀ q, v.LA = some ⟨q, 0, none⟩ → v.WA ≠ some ⟨q, 0, none⟩ ∧ v.GA ≠ some ⟨q, 0, none⟩
  wg : ∀ q, v.WA = some ⟨q, 0, none⟩ → v.GA ≠ some ⟨q, 0, none⟩
  en : ∀ (i : Nat) (e : En), es[i]? = some e → EnOk H base i e
  sep : ∀ (i j : Nat) (e e' : En), i ≠ j → es[i]? = some e → es[j]? = some e' → ∀ q, e.has q → ¬ e'.has q
theorem TS.frame {H H' : Hp} {base t : Nat} {v : TV} {es : List En} (h : TS H base t v es) (hs : H.size ≤ H'.size) (hf : ∀ q, base ≤ q → q < H.size → H'[q]? = H[q]?) : TS H' base t v es where
  to := h.to.frame (hf t h.tb (objAt_lt h.to))
  tb := h.tb
  oL := h.oL.frame fun q hq => hf q (h.oL.lt hq).1 (h.oL.lt hq).2
  oW := h.oW.frame fun q hq => hf q (h.oW.lt hq).1 (h.oW.lt hq).2
  oG := h.oG.frame fun q hq => hf q (h.oG.lt hq).1 (h.oG.lt hq).2
  lw := h.lw
  wg := h.wg
  en := fun i e he => (h.en i e he).frame hs fun q hq => hf q ((h.en i e he).bd q hq).1 ((h.en i e he).bd q hq).2
  sep := h.sep
/-- What lies below is as it was. -/
structure lowF (base : Nat) (H H' : Hp) : Prop where
  size : H.size ≤ H'.size
  old : ∀ k, k < base → H'[k]? = H[k]?
theorem lowF.refl (base : Nat) (H : Hp) : lowF base H H := ⟨Nat.le_refl _, fun _ _ => rfl⟩
theorem lowF.trans {base : Nat} {H H' H'' : Hp} (h : lowF base H H') (k : lowF base H' H'') : lowF base H H'' := ⟨Nat.le_trans h.size k.size, fun q hq => (k.old q hq).trans (h.old q hq)⟩
theorem Keeps.low {H H' : Hp} (k : Keeps H H') {base : Nat} (hb : base ≤ H.size) : lowF base H H' := ⟨k.size, fun q hq => k.old q (by omega)⟩
theorem lowF.keeps {base : Nat} {G H H' : Hp} (h : lowF base H H') (k : Keeps G H) (hg : G.size ≤ base) : Keeps G H' := ⟨Nat.le_trans k.size h.size, fun q hq => by rw [h.old q (by omega)]; exact k.old q hq⟩
/-- A cell of a list of slices. -/
theorem own_slot {α : Type} {f : α → Value} {H : Hp} {base : Nat} {A : Option Addr} {n c : Nat} {es : List α} (h : ownC H base 59 1 A n c (es.map f)) {i : Int} (h0 : 0 ≤ i) (hi : i < (n : Int)) :
    ∃ b e, A = some ⟨b, 0, none⟩ ∧ es[i.toNat]? = some e ∧ cel H b (0 + i.toNat * 1) = some (f e) := by
  have hl := h.1
  simp only [List.length_map] at hl
  have hlt : i.toNat < es.length := by omega
  obtain ⟨b, hb, _, _⟩ := h.some_of (by omega)
  obtain ⟨b', o', e', hc⟩ := h.rd.2 (by omega)
  rw [hb] at e'; cases e'
  refine ⟨b, es[i.toNat], hb, List.getElem?_eq_getElem hlt, ?_⟩
  have := hc i.toNat (f es[i.toNat]) (by simp [hlt])
  rw [Nat.mul_one]; exact this
theorem own_slot_put {H : Hp} {base b n c : Nat} {vs : List Value} (h : ownC H base 59 1 (some ⟨b, 0, none⟩) n c vs) {i : Nat} (hi : i < n) (v : Value) (hv : v.oneCell' = true) :
    canPut H b (0 + i * 1) [v] ∧ ownC (hput H b (0 + i * 1) [v]) base 59 1 (some ⟨b, 0, none⟩) n c (vs.set i v) := by
  have hl := h.1
  refine ⟨own_canPut h (by simp; omega) (by simpa using hv), ?_⟩
  have := own_put h (o := 0 + i * 1) (ws := [v]) (by simp; omega)
  have e : lspl vs (0 + i * 1) [v] = vs.set i v := by
    rw [Nat.zero_add, Nat.mul_one, List.set_eq_take_append_cons_drop, if_pos (by omega)]
    simp [lspl]
  rwa [e] at this
/-- A slice behind a list of slices. -/
theorem app76 {H : Hp} {base : Nat} {A : Option Addr} {n c : Nat} {vs : List Value} (own : ownC H base 59 1 A n c vs) (hbase : base ≤ H.size) (hn : n ≤ 1099511627776) (B : Option Addr) (m d d2 : Nat) {K : Value → Hp → Prop}
    (hK : ∀ A' c' H', ownC H' base 59 1 A' (n + 1) c' (vs ++ [.slice B m d]) → offA A H H' → (A' = A ∨ ∃ q, H.size ≤ q ∧ A' = some ⟨q, 0, none⟩) → K (.slice A' (n + 1) c') H') :
    appW cx 76 76 (.slice A n c) (.slice (some ⟨H.size, 0, none⟩) 1 d2) (Array.push H (.cells #[.slice B m d] 59 (0, 0))) K := by
  have k : Keeps H (Array.push H (.cells #[.slice B m d] 59 (0, 0))) := Keeps.push ..
  have hs : rdC (Array.push H (.cells #[.slice B m d] 59 (0, 0))) (some ⟨H.size, 0, none⟩) (1 * 1) [.slice B m d] := rdC_new _ [.slice B m d] 59 (0, 0) 1 rfl
  refine app_own' (i := ⟨76, .slc 59, 1, 24, [.slice none 0 0], [.slc], [(false, [.slc])], false⟩) (e := 59) (ie := ⟨59, .slc 5, 1, 24, [.slice none 0 0], [.slc], [(false, [.slc])], false⟩) rfl rfl rfl rfl (own.keeps k) (m := 1) (ys := [.slice B m d])
    (show srcC _ 1 (.slice (some ⟨H.size, 0, none⟩) 1 d2) 1 _ from ⟨rfl, hs⟩) rfl (by simp [Value.oneCell']) (by show (n + 1) * 24 ≤ _; omega) (by have := k.size; omega) ?_
  intro A' c' H' w f e _
  refine hK A' c' H' w ⟨Nat.le_trans k.size f.1, fun q hq hne => by rw [f.2 q (Nat.lt_of_lt_of_le hq k.size) hne]; exact k.old q hq⟩ ?_
  rcases e with e | e
  · exact Or.inl e.1
  · exact Or.inr ⟨_, k.size, e.1⟩
end Go.Proofs.Ytkkjjjgcfnhabaa.Eng
namespace Go.Proofs.Ytkkjjjgcfnhabaa.Eng
open Go Go.Proofs
theorem TS.cells {H : Hp} {base t : Nat} {v : TV} {es : List En} (h : TS H base t v es) :
    cel H t 0 = some (.slice v.LA es.length v.lc) ∧ cel H t (0 + 1) = some (.slice v.WA es.length v.wc) ∧ cel H t (0 + 2) = some (.slice v.GA es.length v.gc) := by
  refine ⟨?_, ?_, ?_⟩ <;> (rw [objAt_cel h.to]; rfl)
theorem wrap_mark (n : Int) (h : 0 ≤ n) : IntKind.wrap .u8 (n % 199) = n % 199 := by rw [wrap_u8]; omega
theorem wrap_mark2 (n : Int) (h : 0 ≤ n) : IntKind.wrap .u8 (200 + n % 55) = 200 + n % 55 := by rw [wrap_u8]; omega
theorem map_at {α : Type} {f : α → Value} {l : List α} {i : Nat} {x : α} (h : l[i]? = some x) : (l.map f)[i]? = some (f x) := by simp [h]
theorem set_self {α : Type} {l : List α} {i : Nat} {x : α} (h : l[i]? = some x) : l.set i x = l := by
  apply List.ext_getElem?; intro j
  rw [List.getElem?_set]
  split
  · rename_i e; subst e
    split
    · exact h.symm
    · rename_i q; have := (List.getElem?_eq_some_iff.1 h).1; omega
  · rfl
theorem succ_nat {i : Int} (h : 0 ≤ i) : (i + 1).toNat = i.toNat + 1 := by omega
/-- A list is written full and grown. -/
theorem f112.spec (φ : Fx) {base t : Nat} {v : TV} {es : List En} {H : Hp} (h : TS H base t v es) {n : Nat} {e : En} (he : es[n]? = some e) (hg : e.gn = 0) (hnn : n ≤ 1099511627776) :
    HCalls cx.P φ 112 [.pointer (some ⟨t, 0, none⟩), .int .i64 (n : Int)] H fun r H' => r = .tuple #[] ∧ (∃ e', e'.gn ≠ 0 ∧ TS H' base t v (es.set n e')) ∧ lowF base H H' := by
  apply f112.of
  unfold f112.VC
  have hn : n < es.length := (List.getElem?_eq_some_iff.1 he).1
  obtain ⟨t0, t1, t2⟩ := h.cells
  obtain ⟨lb, e1, hLA, he1, hlc⟩ := own_slot h.oL (i := (n : Int)) (by omega) (by omega)
  obtain ⟨wb, e2, hWA, he2, hwc⟩ := own_slot h.oW (i := (n : Int)) (by omega) (by omega)
  obtain ⟨gb, e3, hGA, he3, hgc⟩ := own_slot h.oG (i := (n : Int)) (by omega) (by omega)
  have htn : ((n : Nat) : Int).toNat = n := by omega
  rw [htn, he] at he1 he2 he3
  cases he1; cases he2; cases he3
  have ok := h.en n e he
  have hL := hLA
  rw [hLA] at t0 hL
  rw [hWA] at t1
  rw [hGA] at t2
  simp -zeta only [xA, xL t0, xL hlc]
  obtain ⟨ga, _, ownl, ownw⟩ : e.gA = none ∧ e.gn = 0 ∧ ownB H base e.lA e.n e.lc e.xs ∧ ownB H base e.wA e.n e.wc e.xs := by
    rcases ok.g with g | g
    · exact g
    · omega
  have lx := ownl.len
  have hnb := ok.nb
  have hbase : base ≤ H.size := by have := h.tb; have := objAt_lt h.to; omega
  refine ⟨⟨by omega, by omega⟩, ?_⟩
  have htt : ∀ q, e.has q → q ≠ t ∧ q ≠ lb ∧ q ≠ wb ∧ q ≠ gb := by
    intro q hq
    have hob : ∃ cs, objAt H q cs 5 := by
      rcases hq with hq | hq | hq
      · exact ownl.own.tob hq
      · exact ownw.own.tob hq
      · rw [ga] at hq; cases hq
    obtain ⟨cs, hob⟩ := hob
    obtain ⟨_, o1⟩ := h.oL.tob hLA
    obtain ⟨_, o2⟩ := h.oW.tob hWA
    obtain ⟨_, o3⟩ := h.oG.tob hGA
    exact ⟨hob.ne h.to (by decide), hob.ne o1 (by decide), hob.ne o2 (by decide), hob.ne o3 (by decide)⟩
  -- the rounds
  refine ⟨fun i H' => 0 ≤ i ∧ i ≤ e.n ∧ H'.size = H.size ∧ (∀ q, ¬ e.has q → H'[q]? = H[q]?) ∧ ownB H' base e.lA e.n e.lc (List.replicate i.toNat ((n : Int) % 199) ++ e.xs.drop i.toNat) ∧ ownB H' base e.wA e.n e.wc (List.replicate i.toNat ((n : Int) % 199) ++ e.xs.drop i.toNat), fun i _ => (e.n - i).toNat,
    ⟨by omega, by omega, rfl, fun _ _ => rfl, ownl, ownw⟩, ?_⟩
  rintro i _ H1 ⟨h0, h1, s1, x1, ol1, ow1⟩
  refine ⟨fun hi => ?_, fun hi => ?_⟩
  · simp only [decide_eq_true_eq] at hi
    obtain ⟨lq, hlq, _, lq2⟩ := ol1.own.some_of (by omega)
    obtain ⟨wq, hwq, _, wq2⟩ := ow1.own.some_of (by omega)
    have hne : lq ≠ wq := fun e => ok.lw lq hlq (by rw [e]; exact hwq)
    have hl' : e.has lq := Or.inl hlq
    have hw' : e.has wq := Or.inr (Or.inl hwq)
    rw [hlq] at ol1 ⊢
    rw [hwq] at ow1
    obtain ⟨p1, p2⟩ := ownB_set ol1 (i := i.toNat) (by omega) (y := (n : Int) % 199) (by omega)
    rw [rep_set _ _ _ (by omega)] at p2
    rw [wrap_mark _ (by omega)]
    refine ⟨⟨by omega, by omega⟩, ?_⟩
    simp -zeta only [xA]
    refine ⟨⟨h0, hi⟩, p1, ?_⟩
    intro H2
    have x2 : ∀ q, q ≠ lq → H2[q]? = H1[q]? := fun q hq => hput_other (fun e => hq e.symm)
    have s2 : H2.size = H1.size := hput_size ..
    have p2 : ownB H2 base (some ⟨lq, 0, none⟩) e.n e.lc (List.replicate (i.toNat + 1) ((n : Int) % 199) ++ e.xs.drop (i.toNat + 1)) := p2
    clear_value H2
    have xH : ∀ q, ¬ e.has q → H2[q]? = H[q]? := fun q hq => by rw [x2 q (fun e => hq (e ▸ hl')), x1 q hq]
    have nt : ¬ e.has t := fun q => (htt t q).1 rfl
    have nw : ¬ e.has wb := fun q => (htt wb q).2.2.1 rfl
    have c1 : cel H2 t (0 + 1) = some (.slice (some ⟨wb, 0, none⟩) es.length v.wc) := by have := t1; unfold cel at this ⊢; rw [xH t nt]; exact this
    have c2 : cel H2 wb (0 + ((n : Nat) : Int).toNat * 1) = some (wV e) := by have := hwc; unfold cel at this ⊢; rw [xH wb nw]; exact this
    have c2 : cel H2 wb (0 + ((n : Nat) : Int).toNat * 1) = some (.slice (some ⟨wq, 0, none⟩) e.n e.wc) := by rw [c2, wV, hwq]
    have ow2 : ownB H2 base (some ⟨wq, 0, none⟩) e.n e.wc (List.replicate i.toNat ((n : Int) % 199) ++ e.xs.drop i.toNat) := ow1.frame fun q hq => by cases hq; exact x2 wq (fun e => hne e.symm)
    obtain ⟨r1, r2⟩ := ownB_set ow2 (i := i.toNat) (by omega) (y := (n : Int) % 199) (by omega)
    rw [rep_set _ _ _ (by omega)] at r2
    simp -zeta only [xL c1, xA, xL c2]
    have ei : (i + 1).toNat = i.toNat + 1 := by omega
    refine ⟨⟨by omega, by omega⟩, ⟨by omega, by omega⟩, ⟨h0, hi⟩, r1, by omega, ⟨by omega, by omega, by rw [hput_size]; omega, fun q hq => ?_, ?_, ?_⟩, by omega⟩
    · rw [hput_other (fun e2 => hq (by rw [← e2]; exact hw')), xH q hq]
    · rw [ei]; exact p2.frame fun q hq => by cases hq; exact hput_other (fun e => hne e.symm)
    · rw [hwq, ei]; exact r2
  · simp only [decide_eq_false_iff_not] at hi
    have hin : i.toNat = e.n := by omega
    rw [hin, List.drop_eq_nil_of_le (by omega), List.append_nil] at ol1 ow1
    -- appended to
    have bdl : ∀ q, e.lA = some ⟨q, 0, none⟩ → q < H.size := fun q hq => (ownl.own.lt hq).2
    have ty1 : ∀ q, e.has q → ∃ cs, objAt H1 q cs 5 := fun q hq => by
      rcases hq with hq | hq | hq
      · exact ol1.own.tob hq
      · exact ow1.own.tob hq
      · rw [ga] at hq; cases hq
    refine ⟨fun bA bn bc i2 H' => 0 ≤ i2 ∧ i2 ≤ 64 ∧ bn = e.n + i2.toNat ∧ H.size ≤ H'.size ∧ (∀ q, q < H.size → ¬ e.has q → H'[q]? = H[q]?) ∧ ownB H' base bA bn bc (List.replicate e.n ((n : Int) % 199) ++ List.replicate i2.toNat (200 + (n : Int) % 55)) ∧
        bytesR H' e.lA e.n (List.replicate e.n ((n : Int) % 199)) ∧ bytesR H' e.wA e.n (List.replicate e.n ((n : Int) % 199)) ∧ (bA = e.lA ∨ ∃ q, H.size ≤ q ∧ bA = some ⟨q, 0, none⟩) ∧ (∀ q, e.has q → ∃ cs, objAt H' q cs 5), fun _ _ _ i2 _ => (64 - i2).toNat,
      ⟨by omega, by omega, by simp, by omega, fun q _ hq => x1 q hq, by simpa using ol1, ol1.row, ow1.row, Or.inl rfl, ty1⟩, ?_⟩
    rintro bA bn bc i2 _ H4 ⟨j0, j1, hbn, s4, x4, ob4, rl4, rw4, hb4, ty4⟩
    refine ⟨fun hj => ?_, fun hj => ?_⟩
    · simp only [decide_eq_true_eq] at hj
      refine ⟨⟨by omega, by omega⟩, by omega, ?_⟩
      rw [wrap_mark2 _ (by omega)]
      refine app_byte' ob4 (by omega) (by omega) (y := 200 + (n : Int) % 55) (by omega) ?_
      intro A5 c5 H6 ob6 f6 e6
      have el := succ_nat j0
      have f6s := f6.1
      refine ⟨_, _, _, rfl, by omega, ⟨by omega, by omega, by omega, by omega, fun q hq hnq => ?_, ?_, ?_, ?_, ?_, fun q hq => ?_⟩, by dsimp only; omega⟩
      · rw [f6.2 q (by omega) (fun e => ?_), x4 q hq hnq]
        rcases hb4 with hb | ⟨q', hq', hb⟩
        · rw [hb] at e; exact hnq (Or.inl e)
        · rw [hb] at e; cases e; omega
      · rw [el, List.replicate_succ', ← List.append_assoc]; exact ob6
      · rcases e6 with ⟨ea, ec⟩ | ⟨_, k6⟩
        · rcases hb4 with hb | ⟨q', hq', hb⟩
          · rw [ea, hb] at ob6
            have := ob6.row
            rw [List.append_assoc] at this
            exact this.pre (by simp)
          · exact bytesR_frame rl4 ok.l0 fun q hq => f6.2 q (by have := bdl q hq; omega) (fun e => by rw [hb] at e; cases e; have := bdl _ hq; omega)
        · exact rl4.keeps isU8.mono k6
      · exact bytesR_frame rw4 ok.w0 fun q hq => f6.2 q (by have := (ownw.own.lt hq).2; omega) (fun e => by
          rcases hb4 with hb | ⟨q', hq', hb⟩
          · rw [hb] at e; exact ok.lw q e hq
          · rw [hb] at e; cases e; have := (ownw.own.lt hq).2; omega)
      · rcases e6 with ⟨ea, _⟩ | ⟨⟨q, hq, ea⟩, _⟩
        · rw [ea]; exact hb4
        · exact Or.inr ⟨q, by omega, ea⟩
      · obtain ⟨cs, o⟩ := ty4 q hq
        rcases e6 with ⟨ea, _⟩ | ⟨_, k6⟩
        · by_cases hb : bA = some ⟨q, 0, none⟩
          · rw [ea] at ob6; exact ob6.own.tob hb
          · exact ⟨cs, o.frame (f6.2 q (objAt_lt o) hb)⟩
        · exact ⟨cs, k6.obj o⟩
    · simp only [decide_eq_false_iff_not] at hj
      have hi2 : i2.toNat = 64 := by omega
      rw [hi2] at hbn ob4
      have nt : ¬ e.has t := fun q => (htt t q).1 rfl
      have ng : ¬ e.has gb := fun q => (htt gb q).2.2.2 rfl
      have tl := objAt_lt h.to
      have gbl := (h.oG.lt hGA).2
      have c1 : cel H4 t (0 + 2) = some (.slice (some ⟨gb, 0, none⟩) es.length v.gc) := by have := t2; unfold cel at this ⊢; rw [x4 t tl nt]; exact this
      simp -zeta only [xL c1, xA]
      have oG4 : ownC H4 base 59 1 (some ⟨gb, 0, none⟩) es.length v.gc (es.map gV) := by
        have := h.oG.frame (H' := H4) fun q hq => by rw [hGA] at hq; cases hq; exact x4 gb gbl ng
        rwa [hGA] at this
      obtain ⟨q1, q2⟩ := own_slot_put oG4 (i := n) hn (.slice bA bn bc) rfl
      rw [htn]
      refine ⟨by omega, q1, trivial, ⟨{ e with xs := List.replicate e.n ((n : Int) % 199), gA := bA, gn := bn, gc := bc }, by dsimp only; omega, ?_⟩, ⟨by rw [hput_size]; omega, fun k hk => ?_⟩⟩
      · -- the whole of it again
        have ne4 : ∀ q, q ≠ gb → (hput H4 gb (0 + n * 1) [.slice bA bn bc])[q]? = H4[q]? := fun q hq => hput_other (fun e => hq e.symm)
        have xx : ∀ q, q < H.size → ¬ e.has q → q ≠ gb → (hput H4 gb (0 + n * 1) [.slice bA bn bc])[q]? = H[q]? := fun q a b c => by rw [ne4 q c, x4 q a b]
        have sz : (hput H4 gb (0 + n * 1) [.slice bA bn bc]).size = H4.size := hput_size ..
        have hb5 : ∀ q, bA = some ⟨q, 0, none⟩ → base ≤ q ∧ q < H4.size := fun q hq => ob4.own.lt hq
        have nG5 : ∀ q, bA = some ⟨q, 0, none⟩ → q ≠ gb := fun q hq => by
          obtain ⟨cs, o5⟩ := ob4.own.tob hq
          obtain ⟨_, o3⟩ := oG4.tob rfl
          exact o5.ne o3 (by decide)
        generalize hput H4 gb (0 + n * 1) [.slice bA bn bc] = H7 at *
        obtain ⟨_, oo1⟩ := h.oL.tob hLA
        obtain ⟨_, oo2⟩ := h.oW.tob hWA
        obtain ⟨_, oo3⟩ := h.oG.tob hGA
        have lenS : (es.set n { e with xs := List.replicate e.n ((n : Int) % 199), gA := bA, gn := bn, gc := bc }).length = es.length := List.length_set
        have mapL : (es.set n { e with xs := List.replicate e.n ((n : Int) % 199), gA := bA, gn := bn, gc := bc }).map lV = es.map lV := by
          have q : (es.map lV)[n]? = some (lV e) := map_at he
          rw [List.map_set]; exact set_self q
        have mapW : (es.set n { e with xs := List.replicate e.n ((n : Int) % 199), gA := bA, gn := bn, gc := bc }).map wV = es.map wV := by
          have q : (es.map wV)[n]? = some (wV e) := map_at he
          rw [List.map_set]; exact set_self q
        have mapG : (es.set n { e with xs := List.replicate e.n ((n : Int) % 199), gA := bA, gn := bn, gc := bc }).map gV = (es.map gV).set n (.slice bA bn bc) := by
          rw [List.map_set]; rfl
        have notL : ¬ e.has lb := fun q => (htt lb q).2.1 rfl
        have notW : ¬ e.has wb := fun q => (htt wb q).2.2.1 rfl
        refine { to := ?_, tb := h.tb, oL := ?_, oW := ?_, oG := ?_, lw := h.lw, wg := h.wg, en := ?_, sep := ?_ }
        · rw [lenS]; exact h.to.frame (xx t tl nt (h.to.ne oo3 (by decide)))
        · rw [lenS, mapL]; exact h.oL.frame fun q hq => by rw [hLA] at hq; cases hq; exact xx lb (h.oL.lt hLA).2 notL (fun e => (h.lw lb hLA).2 (by rw [e]; exact hGA))
        · rw [lenS, mapW]; exact h.oW.frame fun q hq => by rw [hWA] at hq; cases hq; exact xx wb (h.oW.lt hWA).2 notW (fun e => h.wg wb hWA (by rw [e]; exact hGA))
        · rw [lenS, mapG, hGA]; exact q2
        · intro j y hy
          rw [List.getElem?_set] at hy
          by_cases hjn : n = j
          · subst hjn
            rw [if_pos rfl, if_pos hn] at hy; cases hy
            refine { l := ?_, w := ?_, g := Or.inr ⟨by dsimp only; omega, ?_⟩, l0 := ok.l0, w0 := ok.w0, g0 := ob4.own.off0, lw := ok.lw, bd := ?_, ty := ?_, nb := ok.nb }
            · exact bytesR_frame rl4 ok.l0 fun q hq => ne4 q (htt q (Or.inl hq)).2.2.2
            · exact bytesR_frame rw4 ok.w0 fun q hq => ne4 q (htt q (Or.inr (Or.inl hq))).2.2.2
            · exact bytesR_frame ob4.row ob4.own.off0 fun q hq => ne4 q (nG5 q hq)
            · intro q hq
              rcases hq with hq | hq | hq
              · have := ok.bd q (Or.inl hq); omega
              · have := ok.bd q (Or.inr (Or.inl hq)); omega
              · have := hb5 q hq; omega
            · intro q hq
              have old : e.has q → ∃ cs, objAt H7 q cs 5 := fun hq => by
                obtain ⟨cs, o⟩ := ty4 q hq
                exact ⟨cs, o.frame (ne4 q (htt q hq).2.2.2)⟩
              rcases hq with hq | hq | hq
              · exact old (Or.inl hq)
              · exact old (Or.inr (Or.inl hq))
              · obtain ⟨cs, o⟩ := ob4.own.tob hq
                exact ⟨cs, o.frame (ne4 q (nG5 q hq))⟩
          · rw [if_neg hjn] at hy
            have oky := h.en j y hy
            refine oky.frame (by omega) fun q hq => ?_
            have hql := (oky.bd q hq).2
            refine xx q hql (fun hq2 => h.sep n j e y hjn he hy q hq2 hq) ?_
            intro eq; subst eq
            obtain ⟨cs, o⟩ := oky.ty q hq
            exact o.ne oo3 (by decide) rfl
        · -- no block twice
          have newH : ∀ q, En.has { e with xs := List.replicate e.n ((n : Int) % 199), gA := bA, gn := bn, gc := bc } q → e.has q ∨ H.size ≤ q := by
            intro q hq
            rcases hq with hq | hq | hq
            · exact Or.inl (Or.inl hq)
            · exact Or.inl (Or.inr (Or.inl hq))
            · rcases hb4 with hb | ⟨q', hq', hb⟩
              · exact Or.inl (Or.inl (by rw [← hb]; exact hq))
              · rw [hb] at hq; cases hq; exact Or.inr hq'
          intro i j y z hij hy hz q hyq hzq
          rw [List.getElem?_set] at hy hz
          by_cases hin : n = i
          · subst hin
            rw [if_pos rfl, if_pos hn] at hy; cases hy
            rw [if_neg hij] at hz
            rcases newH q hyq with a | a
            · exact h.sep n j e z hij he hz q a hzq
            · have := ((h.en j z hz).bd q hzq).2; omega
          · rw [if_neg hin] at hy
            by_cases hjn : n = j
            · subst hjn
              rw [if_pos rfl, if_pos hn] at hz; cases hz
              rcases newH q hzq with a | a
              · exact h.sep i n y e hij hy he q hyq a
              · have := ((h.en i y hy).bd q hyq).2; omega
            · rw [if_neg hjn] at hz
              exact h.sep i j y z hij hy hz q hyq hzq
      · have hne : k ≠ gb := fun e2 => by have := (h.oG.lt hGA).1; omega
        rw [hput_other hne.symm]
        exact x4 k (by omega) (fun hq => by have := (ok.bd k hq).1; omega)
end Go.Proofs.Ytkkjjjgcfnhabaa.Eng
namespace Go.Proofs.Ytkkjjjgcfnhabaa.Eng
open Go Go.Proofs
def evens (es : List En) : Prop := ∀ (i : Nat) (e : En), es[i]? = some e → i % 2 = 0 → e.gn = 0
theorem f107.spec (φ : Fx) {base t : Nat} {v : TV} {es : List En} {H : Hp} (h : TS H base t v es) (hev : evens es) (hlen : es.length ≤ 1099511627775) {bA : Option Addr} {bn bc : Nat} {xs : List Int} (own : ownB H base bA bn bc xs) (hbn : bn ≤ 1099511627776)
    (hfresh : ∀ (i : Nat) (e : En), es[i]? = some e → ∀ q, e.has q → bA ≠ some ⟨q, 0, none⟩) :
    HCalls cx.P φ 107 [.pointer (some ⟨t, 0, none⟩), .slice bA bn bc] H fun r H' => r = .tuple #[] ∧ (∃ v' es', es'.length = es.length + 1 ∧ evens es' ∧ TS H' base t v' es') ∧ lowF base H H' := by
  apply f107.of
  unfold f107.VC
  have htl := objAt_lt h.to
  have htb := h.tb
  refine app_bytes (ownB_nil H H.size) own.row (by omega) (Nat.le_refl _) ?_
  intro wA wc H1 ow1 f01 _ _
  have k01 := offA_none f01
  rw [Nat.zero_add, List.nil_append] at ow1
  refine ⟨_, _, _, rfl, ?_⟩
  have z : 0 + bn = bn := Nat.zero_add bn
  rw [z]
  have h1 := h.frame k01.size fun q _ hq => k01.old q hq
  obtain ⟨t0, t1, t2⟩ := h1.cells
  have s01 := k01.size
  simp -zeta only [xA, xL t0]
  refine app76 h1.oL (by omega) (by omega) bA bn bc 1 ?_
  intro LA' lc' H3 oL3 f3 e3
  have s13 := f3.1
  refine ⟨_, _, _, rfl, ?_⟩
  have ntL : v.LA ≠ some ⟨t, 0, none⟩ := fun e => by obtain ⟨_, o⟩ := h1.oL.tob e; exact o.ne h1.to (by decide) rfl
  have ntW : v.WA ≠ some ⟨t, 0, none⟩ := fun e => by obtain ⟨_, o⟩ := h1.oW.tob e; exact o.ne h1.to (by decide) rfl
  have ntG : v.GA ≠ some ⟨t, 0, none⟩ := fun e => by obtain ⟨_, o⟩ := h1.oG.tob e; exact o.ne h1.to (by decide) rfl
  have ot3 := h1.to.frame (f3.2 t (by omega) ntL)
  refine ⟨objAt_canPut ot3 (by simp) (by simp [Value.oneCell']), ?_⟩
  intro H4
  have x4 : ∀ q, q ≠ t → H4[q]? = H3[q]? := fun q hq => hput_other (fun e => hq e.symm)
  have s34 : H4.size = H3.size := hput_size ..
  have ot4 : objAt H4 t #[.slice LA' (es.length + 1) lc', .slice v.WA es.length v.wc, .slice v.GA es.length v.gc] 78 := objAt_put ot3 _ _ _ (by simp [spl])
  clear_value H4
  have hLA' : ∀ q, LA' = some ⟨q, 0, none⟩ → q ≠ t := fun q hq e => by subst e; obtain ⟨_, o⟩ := oL3.tob hq; exact o.ne ot3 (by decide) rfl
  have oL4 := oL3.frame (H' := H4) fun q hq => x4 q (hLA' q hq)
  have F4 : ∀ q, q < H1.size → q ≠ t → v.LA ≠ some ⟨q, 0, none⟩ → H4[q]? = H1[q]? := fun q a b c => by rw [x4 q b, f3.2 q a c]
  have oW4 := h1.oW.frame (H' := H4) fun q hq => F4 q (h1.oW.lt hq).2 (fun e => ntW (by rw [← e]; exact hq)) (fun e => (h1.lw q e).1 hq)
  have oG4 := h1.oG.frame (H' := H4) fun q hq => F4 q (h1.oG.lt hq).2 (fun e => ntG (by rw [← e]; exact hq)) (fun e => (h1.lw q e).2 hq)
  have c41 : cel H4 t (0 + 1) = some (.slice v.WA es.length v.wc) := by rw [objAt_cel ot4]; rfl
  simp -zeta only [xL c41]
  refine app76 oW4 (by omega) (by omega) wA bn wc 1 ?_
  intro WA' wc' H6 oW6 f6 e6
  have s46 := f6.1
  refine ⟨_, _, _, rfl, ?_⟩
  have ot6 := ot4.frame (f6.2 t (by omega) ntW)
  refine ⟨objAt_canPut ot6 (by simp) (by simp [Value.oneCell']), ?_⟩
  intro H7
  have x7 : ∀ q, q ≠ t → H7[q]? = H6[q]? := fun q hq => hput_other (fun e => hq e.symm)
  have s67 : H7.size = H6.size := hput_size ..
  have ot7 : objAt H7 t #[.slice LA' (es.length + 1) lc', .slice WA' (es.length + 1) wc', .slice v.GA es.length v.gc] 78 := objAt_put ot6 _ _ _ (by simp [spl])
  clear_value H7
  have hWA' : ∀ q, WA' = some ⟨q, 0, none⟩ → q ≠ t := fun q hq e => by subst e; obtain ⟨_, o⟩ := oW6.tob hq; exact o.ne ot6 (by decide) rfl
  have oW7 := oW6.frame (H' := H7) fun q hq => x7 q (hWA' q hq)
  have F7 : ∀ q, q < H4.size → q ≠ t → v.WA ≠ some ⟨q, 0, none⟩ → H7[q]? = H4[q]? := fun q a b c => by rw [x7 q b, f6.2 q a c]
  have lw4 : ∀ q, LA' = some ⟨q, 0, none⟩ → v.WA ≠ some ⟨q, 0, none⟩ ∧ v.GA ≠ some ⟨q, 0, none⟩ := fun q hq => by
    rcases e3 with e | ⟨q', hq', e⟩
    · exact h1.lw q (by rw [← e]; exact hq)
    · rw [hq] at e; cases e
      exact ⟨fun e => by have := (h1.oW.lt e).2; omega, fun e => by have := (h1.oG.lt e).2; omega⟩
  have oL7 := oL4.frame (H' := H7) fun q hq => F7 q (oL4.lt hq).2 (hLA' q hq) (lw4 q hq).1
  have oG7 := oG4.frame (H' := H7) fun q hq => F7 q (oG4.lt hq).2 (fun e => ntG (by rw [← e]; exact hq)) (fun e => h1.wg q e hq)
  have c71 : cel H7 t (0 + 2) = some (.slice v.GA es.length v.gc) := by rw [objAt_cel ot7]; rfl
  simp -zeta only [xL c71]
  refine app76 oG7 (by omega) (by omega) none 0 0 1 ?_
  intro GA' gc' H9 oG9 f9 e9
  have s79 := f9.1
  refine ⟨_, _, _, rfl, ?_⟩
  have ot9 := ot7.frame (f9.2 t (by omega) ntG)
  refine ⟨objAt_canPut ot9 (by simp) (by simp [Value.oneCell']), ?_⟩
  intro H10
  have x10 : ∀ q, q ≠ t → H10[q]? = H9[q]? := fun q hq => hput_other (fun e => hq e.symm)
  have s910 : H10.size = H9.size := hput_size ..
  have ot10 : objAt H10 t #[.slice LA' (es.length + 1) lc', .slice WA' (es.length + 1) wc', .slice GA' (es.length + 1) gc'] 78 := objAt_put ot9 _ _ _ (by simp [spl])
  clear_value H10
  have hGA' : ∀ q, GA' = some ⟨q, 0, none⟩ → q ≠ t := fun q hq e => by subst e; obtain ⟨_, o⟩ := oG9.tob hq; exact o.ne ot9 (by decide) rfl
  have oG10 := oG9.frame (H' := H10) fun q hq => x10 q (hGA' q hq)
  have F10 : ∀ q, q < H7.size → q ≠ t → v.GA ≠ some ⟨q, 0, none⟩ → H10[q]? = H7[q]? := fun q a b c => by rw [x10 q b, f9.2 q a c]
  have wg7 : ∀ q, WA' = some ⟨q, 0, none⟩ → v.GA ≠ some ⟨q, 0, none⟩ := fun q hq => by
    rcases e6 with e | ⟨q', hq', e⟩
    · exact h1.wg q (by rw [← e]; exact hq)
    · rw [hq] at e; cases e
      exact fun e => by have := (h1.oG.lt e).2; omega
  have oL10 := oL7.frame (H' := H10) fun q hq => F10 q (oL7.lt hq).2 (hLA' q hq) (lw4 q hq).2
  have oW10 := oW7.frame (H' := H10) fun q hq => F10 q (oW7.lt hq).2 (hWA' q hq) (wg7 q hq)
  -- what stays
  have F : ∀ q, q < H1.size → q ≠ t → v.LA ≠ some ⟨q, 0, none⟩ → v.WA ≠ some ⟨q, 0, none⟩ → v.GA ≠ some ⟨q, 0, none⟩ → H10[q]? = H1[q]? := fun q a b c d e => by
    rw [F10 q (by omega) b e, F7 q (by omega) b d, F4 q a b c]
  have F5 : ∀ q, (∃ cs, objAt H1 q cs 5) → H10[q]? = H1[q]? := fun q ⟨cs, o⟩ => F q (objAt_lt o) (o.ne h1.to (by decide))
    (fun e => by obtain ⟨_, o2⟩ := h1.oL.tob e; exact o.ne o2 (by decide) rfl) (fun e => by obtain ⟨_, o2⟩ := h1.oW.tob e; exact o.ne o2 (by decide) rfl) (fun e => by obtain ⟨_, o2⟩ := h1.oG.tob e; exact o.ne o2 (by decide) rfl)
  have own1 := own.keeps k01
  have own10 : ownB H10 base bA bn bc xs := own1.frame fun q hq => F5 q (own1.own.tob hq)
  have ow10 : ownB H10 base wA bn wc xs := (ow1.base_le (by omega)).frame fun q hq => F5 q (ow1.own.tob hq)
  have hwge : ∀ q, wA = some ⟨q, 0, none⟩ → H.size ≤ q := fun q hq => (ow1.own.lt hq).1
  have low10 : lowF base H H10 := ⟨by omega, fun q hq => by
    rw [F q (by omega) (by omega) (fun e => by have := (h1.oL.lt e).1; omega) (fun e => by have := (h1.oW.lt e).1; omega) (fun e => by have := (h1.oG.lt e).1; omega)]
    exact k01.old q (by omega)⟩
  generalize hne : (⟨bA, bc, wA, wc, none, 0, 0, bn, xs⟩ : En) = ne
  have neOk : ∀ i, EnOk H10 base i ne := fun i => by
    subst hne
    exact { l := own10.row, w := ow10.row, g := Or.inl ⟨rfl, rfl, own10, ow10⟩, l0 := own10.own.off0, w0 := ow10.own.off0, g0 := Or.inl rfl
            lw := fun q hq hw => by have := hwge q hw; have := (own.own.lt hq).2; omega
            bd := fun q hq => by
              rcases hq with hq | hq | hq
              · exact own10.own.lt hq
              · exact ow10.own.lt hq
              · cases hq
            ty := fun q hq => by
              rcases hq with hq | hq | hq
              · exact own10.own.tob hq
              · exact ow10.own.tob hq
              · cases hq
            nb := hbn }
  have ts10 : TS H10 base t ⟨LA', lc', WA', wc', GA', gc'⟩ (es ++ [ne]) := by
    have ln : (es ++ [ne]).length = es.length + 1 := by simp
    refine { to := ?_, tb := htb, oL := ?_, oW := ?_, oG := ?_, lw := ?_, wg := ?_, en := ?_, sep := ?_ }
    · rw [ln]; exact ot10
    · rw [ln, List.map_append]; subst hne; exact oL10
    · rw [ln, List.map_append]; subst hne; exact oW10
    · rw [ln, List.map_append]; subst hne; exact oG10
    · intro q hq
      refine ⟨fun e => ?_, fun e => ?_⟩
      · rcases e6 with e6 | ⟨q', hq', e6⟩
        · exact (lw4 q hq).1 (by rw [← e6]; exact e)
        · rw [show WA' = some ⟨q, 0, none⟩ from e] at e6; cases e6; have := (oL4.lt hq).2; omega
      · rcases e9 with e9 | ⟨q', hq', e9⟩
        · exact (lw4 q hq).2 (by rw [← e9]; exact e)
        · rw [show GA' = some ⟨q, 0, none⟩ from e] at e9; cases e9; have := (oL7.lt hq).2; omega
    · intro q hq e
      rcases e9 with e9 | ⟨q', hq', e9⟩
      · exact wg7 q hq (by rw [← e9]; exact e)
      · rw [show GA' = some ⟨q, 0, none⟩ from e] at e9; cases e9; have := (oW7.lt hq).2; omega
    · intro i e he
      by_cases hi : i < es.length
      · rw [List.getElem?_append_left hi] at he
        have ok := h1.en i e he
        exact ok.frame (by omega) fun q hq => F5 q (ok.ty q hq)
      · rw [List.getElem?_append_right (by omega)] at he
        have : i - es.length = 0 := by have := (List.getElem?_eq_some_iff.1 he).1; simp at this; omega
        rw [this] at he; cases he
        exact neOk i
    · have hn : ∀ (i : Nat) (e : En), es[i]? = some e → ∀ q, e.has q → ¬ ne.has q := by
        intro i e he q hq hn
        subst hne
        rcases hn with hn | hn | hn
        · exact hfresh i e he q hq hn
        · have := hwge q hn; have := ((h.en i e he).bd q hq).2; omega
        · cases hn
      intro i j e e' hij he he' q hq
      by_cases hi : i < es.length
      · rw [List.getElem?_append_left hi] at he
        by_cases hj : j < es.length
        · rw [List.getElem?_append_left hj] at he'
          exact h.sep i j e e' hij he he' q hq
        · rw [List.getElem?_append_right (by omega)] at he'
          have : j - es.length = 0 := by have := (List.getElem?_eq_some_iff.1 he').1; simp at this; omega
          rw [this] at he'; cases he'
          exact hn i e he q hq
      · rw [List.getElem?_append_right (by omega)] at he
        have hi0 : i - es.length = 0 := by have := (List.getElem?_eq_some_iff.1 he).1; simp at this; omega
        rw [hi0] at he; cases he
        by_cases hj : j < es.length
        · rw [List.getElem?_append_left hj] at he'
          exact fun h2 => hn j e' he' q h2 hq
        · have := (List.getElem?_eq_some_iff.1 he').1
          simp at this; omega
  have ev10 : evens (es ++ [ne]) := by
    intro i e he hi
    by_cases hl : i < es.length
    · rw [List.getElem?_append_left hl] at he; exact hev i e he hi
    · rw [List.getElem?_append_right (by omega)] at he
      have : i - es.length = 0 := by have := (List.getElem?_eq_some_iff.1 he).1; simp at this; omega
      rw [this] at he; cases he; subst hne; rfl
  have c10 : cel H10 t 0 = some (.slice LA' (es.length + 1) lc') := by rw [objAt_cel ot10]; rfl
  simp -zeta only [xL c10]
  refine ⟨by omega, ?_⟩
  refine ⟨fun H' => (∃ v' es', es'.length = es.length + 1 ∧ evens es' ∧ TS H' base t v' es') ∧ lowF base H H', ⟨fun hm => ?_, fun hm => ?_⟩, fun _ H12 h12 => ⟨trivial, h12⟩⟩
  · simp only [decide_eq_true_eq] at hm
    have en : ((es.length + 1 : Nat) : Int) - 1 = ((es.length : Nat) : Int) := by omega
    rw [en]
    refine ⟨by omega, HCalls.mono (f112.spec φ ts10 (n := es.length) (e := ne) (by simp) (by subst hne; rfl) (by omega)) ?_⟩
    rintro r H11 ⟨rfl, ⟨e', he', ts11⟩, low11⟩
    refine ⟨rfl, ⟨_, _, by simp, ?_, ts11⟩, low10.trans low11⟩
    intro i e he hi
    rw [List.getElem?_set] at he
    by_cases hie : es.length = i
    · omega
    · rw [if_neg hie] at he; exact ev10 i e he hi
  · exact ⟨⟨_, _, by simp, ev10, ts10⟩, low10⟩
theorem f45.spec (φ : Fx) {base t : Nat} {v : TV} {es : List En} {H : Hp} (h : TS H base t v es) (hlen : es.length ≤ 1099511627776) :
    HCalls cx.P φ 45 [.pointer (some ⟨t, 0, none⟩)] H fun r H' => r = .bool true ∧ H' = H := by
  apply f45.of
  unfold f45.VC
  obtain ⟨t0, t1, t2⟩ := h.cells
  refine ⟨fun n H' => H' = H ∧ 0 ≤ n ∧ n ≤ es.length, fun n _ => (es.length - n).toNat, ⟨rfl, by omega, by omega⟩, ?_⟩
  rintro n _ H' ⟨rfl, h0, h1⟩
  simp -zeta only [xA, xL t0]
  refine ⟨fun hn => ?_, fun hn => ⟨trivial, trivial⟩⟩
  simp only [decide_eq_true_eq] at hn
  obtain ⟨lb, e, hLA, he, hlc⟩ := own_slot h.oL h0 hn
  obtain ⟨wb, e2, hWA, he2, hwc⟩ := own_slot h.oW h0 hn
  obtain ⟨gb, e3, hGA, he3, hgc⟩ := own_slot h.oG h0 hn
  rw [he] at he2 he3; cases he2; cases he3
  have ok := h.en _ e he
  have hlc : cel H' lb (0 + n.toNat * 1) = some (.slice e.lA e.n e.lc) := hlc
  have hwc : cel H' wb (0 + n.toNat * 1) = some (.slice e.wA e.n e.wc) := hwc
  have hgc : cel H' gb (0 + n.toNat * 1) = some (.slice e.gA e.gn e.gc) := hgc
  have hnb := ok.nb
  simp -zeta only [hLA, hWA, hGA, xA, xL hlc, xL t1, xL hwc]
  refine ⟨⟨h0, hn⟩, ⟨h0, hn⟩, ?_⟩
  refine HCalls.mono (f105.same φ e.lA e.wA e.n e.n e.lc e.wc e.xs H' ok.l ok.w (by omega)) ?_
  rintro r H2 ⟨rfl, rfl⟩
  refine ⟨_, rfl, fun h => by simp at h, fun _ => ?_⟩
  simp -zeta only [xA, xL t0, hLA, xL hlc]
  refine ⟨⟨h0, hn⟩, ?_⟩
  refine ⟨fun i H' => H' = H2 ∧ (e.n : Int) ≤ i, fun i _ => (e.gn - i).toNat, ⟨rfl, by omega⟩, ?_⟩
  rintro i _ H3 ⟨rfl, hi0⟩
  simp -zeta only [xL t2, xA, hGA, xL hgc]
  refine ⟨⟨h0, hn⟩, fun hi => ?_, fun hi => ⟨by omega, ⟨trivial, by omega, by omega⟩, by omega⟩⟩
  simp only [decide_eq_true_eq] at hi
  rcases ok.g with ⟨_, g0, _⟩ | ⟨g1, g2⟩
  · omega
  · obtain ⟨x, b, o, hx, hA, cx, _⟩ := g2.at (i := i) (by omega) hi
    rw [List.getElem?_append_right (by have := ok.l.1; omega), List.getElem?_replicate, if_pos (by have := ok.l.1; omega)] at hx
    cases hx
    have en : ((n.toNat : Nat) : Int) = n := by omega
    rw [en] at cx
    rw [hA]
    simp -zeta only [xA, xI cx]
    rw [wrap_mark2 n h0]
    refine ⟨⟨h0, hn⟩, ⟨by omega, hi⟩, by omega, by omega, fun h => by simp at h, fun _ => ⟨by omega, ⟨trivial, by omega⟩, by omega⟩⟩
theorem f46.spec (φ : Fx) {base t : Nat} {v : TV} {es : List En} {H : Hp} (h : TS H base t v es) (hev : evens es) (hlen : es.length ≤ 1099511627776) :
    HCalls cx.P φ 46 [.pointer (some ⟨t, 0, none⟩)] H fun r H' => r = .bool true ∧ lowF base H H' := by
  apply f46.of
  unfold f46.VC
  refine ⟨fun n H' => lowF base H H' ∧ 0 ≤ n ∧ n % 2 = 0 ∧ ∃ es', es'.length = es.length ∧ TS H' base t v es' ∧ ∀ (i : Nat) (e : En), es'[i]? = some e → n.toNat ≤ i → i % 2 = 0 → e.gn = 0, fun n _ => (es.length - n).toNat, ⟨lowF.refl .., by omega, by omega, es, rfl, h, fun i e he _ hi => hev i e he hi⟩, ?_⟩
  rintro n _ H1 ⟨low1, h0, hm, es', hl, ts, hz⟩
  obtain ⟨t0, t1, t2⟩ := ts.cells
  simp -zeta only [xA, xL t0]
  refine ⟨fun hn => ?_, fun hn => ?_⟩
  · simp only [decide_eq_true_eq] at hn
    have hlt : n.toNat < es'.length := by omega
    have he := List.getElem?_eq_getElem hlt
    have en : ((n.toNat : Nat) : Int) = n := by omega
    have call := f112.spec φ ts he (hz _ _ he (Nat.le_refl _) (by omega)) (by omega)
    rw [en] at call
    refine HCalls.mono call ?_
    rintro r H2 ⟨rfl, ⟨e', _, ts2⟩, low2⟩
    refine ⟨rfl, by omega, ⟨low1.trans low2, by omega, by omega, _, by simp [hl], ts2, fun i e he hi h2 => ?_⟩, by omega⟩
    rw [List.getElem?_set] at he
    rw [if_neg (by omega)] at he
    exact hz i e he (by omega) h2
  · refine HCalls.mono (f45.spec φ ts (by omega)) ?_
    rintro r H2 ⟨rfl, rfl⟩
    exact ⟨_, rfl, rfl, low1⟩
end Go.Proofs.Ytkkjjjgcfnhabaa.Eng
namespace Go.Proofs.Ytkkjjjgcfnhabaa.Eng
open Go Go.Proofs
/-- Two cursors alike, and what was handed out. -/
structure ST (H : Hp) (base t lo hi lo2 hi2 : Nat) (c r : Option Addr) (v : TV) (es : List En) (s : Option Cu) : Prop where
  ts : TS H base t v es
  cp : curP H lo hi c s
  cr : curR H lo2 hi2 r s
  h1 : hi ≤ base
  h2 : hi2 ≤ base
structure cuF (base : Nat) (c r : Option Addr) (H H' : Hp) : Prop where
  size : H.size ≤ H'.size
  old : ∀ k, k < base → c ≠ some ⟨k, 0, none⟩ → r ≠ some ⟨k, 0, none⟩ → H'[k]? = H[k]?
theorem cuF.refl (base : Nat) (c r : Option Addr) (H : Hp) : cuF base c r H H := ⟨Nat.le_refl _, fun _ _ _ _ => rfl⟩
theorem cuF.trans {base : Nat} {c r : Option Addr} {H H' H'' : Hp} (h : cuF base c r H H') (k : cuF base c r H' H'') : cuF base c r H H'' := ⟨Nat.le_trans h.size k.size, fun q a b d => (k.old q a b d).trans (h.old q a b d)⟩
theorem ST.keeps {H H' : Hp} {base t lo hi lo2 hi2 : Nat} {c r : Option Addr} {v : TV} {es : List En} {s : Option Cu} (h : ST H base t lo hi lo2 hi2 c r v es s) (k : Keeps H H') : ST H' base t lo hi lo2 hi2 c r v es s :=
  ⟨h.ts.frame k.size fun q _ hq => k.old q hq, h.cp.keeps k, h.cr.keeps k, h.h1, h.h2⟩
theorem ST.base {H : Hp} {base t lo hi lo2 hi2 : Nat} {c r : Option Addr} {v : TV} {es : List En} {s : Option Cu} (h : ST H base t lo hi lo2 hi2 c r v es s) : base ≤ H.size := by
  have := h.ts.tb; have := objAt_lt h.ts.to; omega
/-- The program's cursor went on. -/
theorem ST.c {H H' : Hp} {base t lo hi lo2 hi2 : Nat} {c r : Option Addr} {v : TV} {es : List En} {s s' : Option Cu} (h : ST H base t lo hi lo2 hi2 c r v es s) (cp : curP H' lo hi c s') (f : offA c H H') :
    TS H' base t v es ∧ curR H' lo2 hi2 r s ∧ cuF base c r H H' := by
  refine ⟨h.ts.frame f.1 fun q hb hq => f.2 q hq fun e => ?_, h.cr.off f fun b hb => ?_, ⟨f.1, fun k hk h1 _ => f.2 k (by have := h.base; omega) h1⟩⟩
  · have := (h.cp.lt e).2.1; have := h.h1; omega
  · obtain ⟨_, _, _, cs, o⟩ := h.cp.lt hb
    exact ⟨cs, 68, o, by decide, by decide⟩
/-- Then the document's. -/
theorem ST.r {H H' : Hp} {base t lo hi lo2 hi2 : Nat} {c r : Option Addr} {v : TV} {es : List En} {s s' : Option Cu} (ts : TS H base t v es) (cp : curP H lo hi c s') (cr0 : curR H lo2 hi2 r s) (h1 : hi ≤ base) (h2 : hi2 ≤ base)
    (cr : curR H' lo2 hi2 r s') (f : offA r H H') : ST H' base t lo hi lo2 hi2 c r v es s' ∧ cuF base c r H H' := by
  have hb : base ≤ H.size := by have := ts.tb; have := objAt_lt ts.to; omega
  refine ⟨⟨ts.frame f.1 fun q hb hq => f.2 q hq fun e => ?_, cp.off f fun b hb => ?_, cr, h1, h2⟩, ⟨f.1, fun k hk _ h2 => f.2 k (by omega) h2⟩⟩
  · have := (cr0.lt e).2.1; omega
  · obtain ⟨_, _, _, cs, o⟩ := cr0.lt hb
    exact ⟨cs, 72, o, by decide, by decide⟩
theorem offA.cell {c : Option Addr} {H H' : Hp} (f : offA c H H') {b o : Nat} {x : Value} (hc : cel H b o = some x) (hne : c ≠ some ⟨b, 0, none⟩) : cel H' b o = some x := by
  have := f.2 b (cel_lt hc) hne
  unfold cel at hc ⊢; rw [this]; exact hc
theorem held1 {H : Hp} {b o : Nat} {x : Value} (h : cel H b o = some x) : held H b o [x] := by
  intro j u hu
  match j, hu with
  | 0, hu => simp at hu; subst hu; exact h
theorem fit70 (a b a2 b2 : Int) : fitW cx 70 [.int .i64 a, .int .i64 b] [.int .i64 a2, .int .i64 b2] = (((IntKind.i64 = IntKind.i64) ∧ (IntKind.i64 = IntKind.i64) ∧ True) ∧ ((IntKind.i64 = IntKind.i64) ∧ (IntKind.i64 = IntKind.i64) ∧ True)) := by kernel_rfl
theorem curP.lenO {H : Hp} {lo hi : Nat} {c : Option Addr} {s : Option Cu} (h : curP H lo hi c s) : ∀ u, s = some u → u.xs.length ≤ 140737488355328 := by
  intro u hu; subst hu; exact h.lenLeft.2.2.2.2
theorem take_len (n : Int) (s : Option Cu) (m : Nat) (h : ∀ u, s = some u → u.xs.length ≤ m) : (liftO [] (Cu.take n) s).1.length ≤ m := by
  cases s with
  | none => simp [liftO]
  | some u =>
    have := h u rfl
    simp only [liftO, Cu.take]
    split
    · simp
    · split
      · simp
      · split
        · simp
        · simp [Cu.left]; omega
theorem f44.spec (φ : Fx) {base t lo hi lo2 hi2 : Nat} {c r : Option Addr} {v : TV} {es : List En} {s : Option Cu} {H : Hp} (h : ST H base t lo hi lo2 hi2 c r v es s) (hev : evens es) (hlen : es.length ≤ 1099511627775) (hxs : ∀ u, s = some u → u.xs.length ≤ 1099511627776) (op n : Int) :
    HCalls cx.P φ 44 [.pointer (some ⟨t, 0, none⟩), .pointer c, .pointer r, .agg #[.int .i64 op, .int .i64 n]] H fun x H' => x = .bool true ∧
      (∃ v' es' s', evens es' ∧ es'.length ≤ es.length + 1 ∧ (∀ u, s' = some u → u.xs.length ≤ 1099511627776) ∧ ST H' base t lo hi lo2 hi2 c r v' es' s') ∧ cuF base c r H H' := by
  apply f44.of
  unfold f44.VC
  intro H1
  have e0 : cel H1 H.size 0 = some (.int .i64 op) := cel_new ..
  have e1 : cel H1 H.size (0 + 1) = some (.int .i64 n) := cel_new ..
  have k1 : Keeps H H1 := Keeps.push ..
  clear_value H1
  have hb := h.base
  have st1 := h.keeps k1
  have F1 : cuF base c r H H1 := ⟨k1.size, fun k hk _ _ => k1.old k (by omega)⟩
  have nc : c ≠ some ⟨H.size, 0, none⟩ := fun e => by have := (h.cp.lt e).2.1; have := h.h1; omega
  have nr : r ≠ some ⟨H.size, 0, none⟩ := fun e => by have := (h.cr.lt e).2.1; have := h.h2; omega
  -- what each step ends in
  generalize hPost : (fun H' : Hp => (∃ v' es' s', evens es' ∧ es'.length ≤ es.length + 1 ∧ (∀ u, s' = some u → u.xs.length ≤ 1099511627776) ∧ ST H' base t lo hi lo2 hi2 c r v' es' s') ∧ cuF base c r H H') = Post
  have post : ∀ {G G' : Hp} {s0 s' : Option Cu}, curP G lo hi c s' → offA c H1 G → curR G' lo2 hi2 r s' → offA r G G' → (∀ u, s' = some u → u.xs.length ≤ 1099511627776) → Post G' := by
    intro G G' s0 s' cp f cr f2 hx
    obtain ⟨ts2, cr2, F2⟩ := st1.c cp f
    obtain ⟨st, F3⟩ := ST.r ts2 cp cr2 h.h1 h.h2 cr f2
    subst hPost
    exact ⟨⟨v, es, s', hev, Nat.le_succ _, hx, st⟩, (F1.trans F2).trans F3⟩
  have xsN : ∀ (α : Type) (d : α) (f : Cu → α × Cu), (∀ u, (f u).2.xs = u.xs) → ∀ u, (liftO d f s).2 = some u → u.xs.length ≤ 1099511627776 := by
    intro α d f hf u hu
    cases s with
    | none => simp [liftO] at hu
    | some w => simp [liftO] at hu; subst hu; rw [hf]; exact hxs w rfl
  have crOf : ∀ {G : Hp} {s'}, curP G lo hi c s' → offA c H1 G → curR G lo2 hi2 r s := fun cp f => (st1.c cp f).2.1
  simp -zeta only [xI e0]
  refine ⟨Post, ⟨fun _ => ?_, fun _ => ⟨Post, ⟨fun _ => ?_, fun _ => ⟨Post, ⟨fun _ => ?_, fun _ => ⟨Post, ⟨fun _ => ?_, fun _ => ⟨Post, ⟨fun _ => ?_, fun _ => ?_⟩, fun _ _ h => h⟩⟩, fun _ _ h => h⟩⟩, fun _ _ h => h⟩⟩, fun _ _ h => h⟩⟩, ?_⟩
  · simp -zeta only [xI e1]
    refine HCalls.mono (f100.spec φ n st1.cp) ?_
    rintro x H2 ⟨rfl, cp2, f2⟩
    refine ⟨_, rfl, held1 (f2.cell e1 nc), HCalls.mono (f101.spec φ n (crOf cp2 f2)) ?_⟩
    rintro x H3 ⟨rfl, cr3, f3⟩
    refine ⟨_, rfl, fun h => by simp at h, fun _ => post (s0 := s) cp2 f2 cr3 f3 (xsN _ _ _ fun u => ?_)⟩
    simp only [Cu.num]; (repeat' split) <;> rfl
  · simp -zeta only [xI e1]
    refine HCalls.mono (f102.spec φ n st1.cp) ?_
    rintro x H2 ⟨rfl, cp2, f2⟩
    refine ⟨_, rfl, held1 (f2.cell e1 nc), HCalls.mono (f103.spec φ n (crOf cp2 f2)) ?_⟩
    rintro x H3 ⟨rfl, cr3, f3⟩
    refine ⟨_, rfl, fun h => by simp at h, fun _ => post (s0 := s) cp2 f2 cr3 f3 (xsN _ _ _ fun u => ?_)⟩
    simp only [Cu.fixed]; (repeat' split) <;> rfl
  · simp -zeta only [xI e1]
    refine HCalls.mono (f104.spec φ n st1.cp) ?_
    rintro x H2 ⟨A2, m2, c2, rfl, own2, cp2, f2⟩
    refine ⟨_, _, _, rfl, ?_⟩
    simp -zeta only [xI (f2.cell e1 nc)]
    have cr2 := crOf cp2 f2
    have s2 := f2.1
    have s1 := k1.size
    have l2 := own2.len
    have tl := take_len n s 1099511627776 hxs
    refine HCalls.mono (f106.spec φ n cr2) ?_
    rintro x H3 ⟨A3, m3, c3, rfl, own3, cr3, f3⟩
    refine ⟨_, _, _, rfl, ?_⟩
    have own2' : ownB H3 H1.size A2 m2 c2 _ := own2.frame fun q hq => f3.2 q (own2.own.lt hq).2 fun e => by have := (cr2.lt e).2.1; have := h.h2; have := (own2.own.lt hq).1; omega
    refine HCalls.mono (f105.same φ A2 A3 m2 m3 c2 c3 _ H3 own2'.row own3.row (by omega)) ?_
    rintro x H4 ⟨rfl, rfl⟩
    refine ⟨_, rfl, ?_⟩
    obtain ⟨ts2, cr2', F2⟩ := st1.c cp2 f2
    obtain ⟨st3, F3⟩ := ST.r ts2 cp2 cr2' h.h1 h.h2 cr3 f3
    refine HCalls.mono (f107.spec φ st3.ts hev hlen (own2'.base_le (by omega)) (by omega) (fun i e he q hq hA => ?_)) ?_
    · have := (h.ts.en i e he).bd q hq
      have := (own2.own.lt hA).1
      omega
    rintro x H5 ⟨rfl, ⟨v5, es5, l5, ev5, ts5⟩, low5⟩
    refine ⟨rfl, fun h => (nomatch h), fun _ => ?_⟩
    subst hPost
    refine ⟨⟨v5, es5, _, ev5, by omega, xsN _ _ _ fun u => ?_, ⟨ts5, st3.cp.frame fun k _ hk => low5.old k (by have := h.h1; omega), st3.cr.frame fun k _ hk => low5.old k (by have := h.h2; omega), h.h1, h.h2⟩⟩, ((F1.trans F2).trans F3).trans ⟨low5.size, fun k hk _ _ => low5.old k hk⟩⟩
    simp only [Cu.take]; (repeat' split) <;> rfl
  · simp -zeta only [xI e1]
    refine HCalls.mono (f108.spec φ n st1.cp) ?_
    rintro x H2 ⟨rfl, cp2, f2⟩
    refine ⟨_, rfl, held1 (f2.cell e1 nc), HCalls.mono (f109.spec φ n (crOf cp2 f2)) ?_⟩
    rintro x H3 ⟨rfl, cr3, f3⟩
    refine ⟨_, rfl, fun h => by simp at h, fun _ => post (s0 := s) cp2 f2 cr3 f3 (xsN _ _ _ fun u => ?_)⟩
    simp only [Cu.text]; (repeat' split) <;> rfl
  · simp -zeta only [xI e1]
    refine HCalls.mono (f110.spec φ n st1.cp) ?_
    rintro x H2 ⟨rfl, cp2, f2⟩
    refine ⟨rfl, ?_⟩
    simp -zeta only [xI (f2.cell e1 nc)]
    refine HCalls.mono (f111.spec φ n (crOf cp2 f2)) ?_
    rintro x H3 ⟨rfl, cr3, f3⟩
    refine ⟨rfl, post (s0 := s) cp2 f2 cr3 f3 fun u hu => ?_⟩
    cases s with
    | none => simp [failO] at hu
    | some w =>
      simp only [failO, Option.some.injEq] at hu
      subst hu
      have := hxs w rfl
      simp only [Cu.fail]; split <;> exact this
  · subst hPost
    exact ⟨⟨v, es, s, hev, Nat.le_succ _, hxs, st1⟩, F1⟩
  · intro _ H18 hp
    subst hPost
    obtain ⟨⟨v', es', s', ev', l', hx', st'⟩, F'⟩ := hp
    refine joinR (fun y H' => y = true ∧ Keeps H18 H') ?_ ?_
    · refine HCalls.mono (f40.spec φ st'.cp) ?_
      rintro x H19 ⟨rfl, rfl⟩
      refine ⟨_, rfl, HCalls.mono (f41.spec φ st'.cr) ?_⟩
      rintro x H20 ⟨rfl, rfl⟩
      refine ⟨_, rfl, fun _ => ?_, fun h => by simp at h⟩
      refine HCalls.mono (f42.spec φ st'.cp) ?_
      rintro x H21 ⟨rfl, k21⟩
      refine ⟨_, _, rfl, HCalls.mono (f43.spec φ (st'.cr.keeps k21)) ?_⟩
      rintro x H22 ⟨rfl, k22⟩
      refine ⟨_, _, rfl, ?_⟩
      rw [fit70]
      exact ⟨by simp, by simp, k21.trans k22⟩
    · rintro y _ H23 ⟨rfl, k23⟩
      have hb' := st'.base
      exact ⟨rfl, ⟨v', es', s', ev', l', hx', st'.keeps k23⟩, F'.trans ⟨k23.size, fun k hk _ _ => k23.old k (by omega)⟩⟩
end Go.Proofs.Ytkkjjjgcfnhabaa.Eng
namespace Go.Proofs.Ytkkjjjgcfnhabaa.Eng
open Go Go.Proofs
structure Stp where
  op : Int
  n : Int
def isS (H : Hp) (b o : Nat) (x : Stp) : Prop := cel H b o = some (.int .i64 x.op) ∧ cel H b (o + 1) = some (.int .i64 x.n)
theorem isS.mono : Mono isS := fun _ _ _ _ _ k h => ⟨k.cel h.1, k.cel h.2⟩
theorem curP.cu {H H' : Hp} {lo hi base : Nat} {p c r : Option Addr} {s : Option Cu} (h : curP H lo hi p s) (f : cuF base c r H H') (hb : hi ≤ base) (hc : ∀ k, lo ≤ k → k < hi → c ≠ some ⟨k, 0, none⟩ ∧ r ≠ some ⟨k, 0, none⟩) : curP H' lo hi p s :=
  h.frame fun k a b => f.old k (by omega) (hc k a b).1 (hc k a b).2
theorem curR.cu {H H' : Hp} {lo hi base : Nat} {p c r : Option Addr} {s : Option Cu} (h : curR H lo hi p s) (f : cuF base c r H H') (hb : hi ≤ base) (hc : ∀ k, lo ≤ k → k < hi → c ≠ some ⟨k, 0, none⟩ ∧ r ≠ some ⟨k, 0, none⟩) : curR H' lo hi p s :=
  h.frame fun k a b => f.old k (by omega) (hc k a b).1 (hc k a b).2
theorem cuF.keeps {G H H' : Hp} {base : Nat} {c r : Option Addr} (f : cuF base c r H H') (k : Keeps G H) (hb : G.size ≤ base) (hc : ∀ q, q < G.size → c ≠ some ⟨q, 0, none⟩ ∧ r ≠ some ⟨q, 0, none⟩) : Keeps G H' :=
  ⟨Nat.le_trans k.size f.size, fun q hq => by rw [f.old q (by omega) (hc q hq).1 (hc q hq).2]; exact k.old q hq⟩
def cu0 (xs : List Int) : Option Cu := some ⟨xs, 0, 0⟩
theorem zeroP {H : Hp} {b lo hi : Nat} (o : objAt H b #[.slice none 0 0, .int .i64 0, .int .i64 0] 68) (h1 : lo ≤ b) (h2 : b < hi) : curP H lo hi (some ⟨b, 0, none⟩) (cu0 []) :=
  ⟨b, none, 0, 0, rfl, h1, h2, o, ownB_nil .., fun q hq => (by cases hq), by dsimp only; omega, by dsimp only; omega, by omega⟩
theorem zeroR {H : Hp} {b lo hi : Nat} (o : objAt H b #[.slice none 0 0, .int .i64 0, .bool false, .int .i64 0, .int .i64 0] 72) (h1 : lo ≤ b) (h2 : b < hi) : curR H lo hi (some ⟨b, 0, none⟩) (cu0 []) :=
  ⟨b, none, 0, 0, rfl, h1, h2, o, ownB_nil .., fun q hq => (by cases hq), by dsimp only; omega, by dsimp only; omega, by omega⟩
theorem f5.spec (φ : Fx) (A : Option Addr) (n c : Nat) (xs : List Int) (S : Option Addr) (m d : Nat) (ss : List Stp) (H : Hp) (hr : bytesR H A n xs) (hn : n ≤ 1048576) (hs : rowR isS 2 H S m ss) (hm : m ≤ 1048576) :
    HCalls cx.P φ 5 [.slice A n c, .slice S m d] H fun v H' => v = .bool true ∧ Keeps H H' := by
  apply f5.of
  unfold f5.VC
  refine HCalls.mono (f36.spec φ A n c xs H hr (by omega)) ?_
  rintro v H1 ⟨gb, rfl, rfl, own1, k1⟩
  have s1 : H.size < H1.size := (own1.own.lt rfl).2
  refine ⟨_, _, _, rfl, by omega, ?_⟩
  have hl := hr.1
  have pre1 : bytesR H1 (some ⟨H.size, 0, none⟩) n xs := own1.row.pre hl
  rw [Int.toNat_natCast]
  refine HCalls.mono (f37.spec φ _ _ _ xs H1 pre1 (by omega)) ?_
  rintro v H2 ⟨cb, rfl, cp2, k12⟩
  refine ⟨_, rfl, ?_⟩
  have s12 := k12.size
  refine joinR (fun y H' => y = false ∧ H' = H2) ?_ ?_
  · refine ⟨fun h => (nomatch h), fun _ => ?_⟩
    refine HCalls.mono (f38.same φ _ A n _ c xs H2 (own1.row.keeps isU8.mono k12) (hr.keeps isU8.mono (k1.trans k12)) (by omega)) ?_
    rintro v H3 ⟨rfl, rfl⟩
    exact ⟨_, rfl, rfl, rfl⟩
  rintro y _ H4 ⟨rfl, rfl⟩
  refine ⟨fun h => (nomatch h), fun _ => ?_⟩
  have k2 := k1.trans k12
  refine HCalls.mono (f39.spec φ A n c xs H4 (hr.keeps isU8.mono k2) (by omega)) ?_
  rintro v H5 ⟨rb, rfl, cr5, k45⟩
  refine ⟨_, rfl, ?_⟩
  have s45 := k45.size
  have cp5 := cp2.keeps k45
  have own5 := own1.keeps (k12.trans k45)
  have k5 := k2.trans k45
  have cbl := cp2.lt rfl
  have rbl := cr5.lt rfl
  -- the bytes are written over
  refine ⟨fun i H' => 0 ≤ i ∧ i ≤ (n : Int) + 64 ∧ offA (some ⟨H.size, 0, none⟩) H5 H' ∧ ∃ zs, ownB H' H.size (some ⟨H.size, 0, none⟩) (n + 64) (n + 64) zs, fun i _ => (n + 64 - i).toNat, ⟨by omega, by omega, offA.refl .., _, own5⟩, ?_⟩
  rintro i _ H6 ⟨h0, h1, f6, zs, own6⟩
  refine ⟨fun hi => ?_, fun hi => ?_⟩
  · simp only [decide_eq_true_eq] at hi
    obtain ⟨p1, p2⟩ := ownB_set own6 (i := i.toNat) (by omega) (y := 255) (by omega)
    simp -zeta only [xA]
    exact ⟨⟨h0, hi⟩, p1, by omega, ⟨by omega, by omega, f6.put _ _, _, p2⟩, by omega⟩
  have s56 := f6.1
  have k6 : Keeps H H6 := f6.keeps k5 fun b hb => by cases hb; exact Nat.le_refl _
  have cp6 : curP H6 H1.size H4.size (some ⟨cb, 0, none⟩) (cu0 xs) := cp5.frame fun k a b => f6.2 k (by omega) (by intro e; cases e; omega)
  have cr6 : curR H6 H4.size H5.size (some ⟨rb, 0, none⟩) (cu0 xs) := cr5.frame fun k a b => f6.2 k (by omega) (by intro e; cases e; omega)
  intro H8
  have o8 : objAt H8 H6.size #[.slice none 0 0, .int .i64 0, .int .i64 0] 68 := objAt_new ..
  have k68 : Keeps H6 H8 := Keeps.push ..
  have s68 : H8.size = H6.size + 1 := by simp [H8]
  clear_value H8
  intro H9
  have o9 : objAt H9 H8.size #[.slice none 0 0, .int .i64 0, .bool false, .int .i64 0, .int .i64 0] 72 := objAt_new ..
  have k89 : Keeps H8 H9 := Keeps.push ..
  have s89 : H9.size = H8.size + 1 := by simp [H9]
  clear_value H9
  have k69 := k68.trans k89
  have zp9 : curP H9 H6.size H8.size (some ⟨H6.size, 0, none⟩) (cu0 []) := zeroP (k89.obj o8) (Nat.le_refl _) (by omega)
  have zr9 : curR H9 H8.size H9.size (some ⟨H8.size, 0, none⟩) (cu0 []) := zeroR o9 (Nat.le_refl _) (by omega)
  have cp9 := cp6.keeps k69
  have cr9 := cr6.keeps k69
  have np : ∀ G, curP G 0 0 none none := fun _ => rfl
  have nr : ∀ G, curR G 0 0 none none := fun _ => rfl
  refine joinR (fun y H' => y = false ∧ Keeps H9 H') ?_ ?_
  · refine HCalls.mono (f40.spec φ cp9) ?_
    rintro x H10 ⟨rfl, rfl⟩
    refine ⟨_, rfl, HCalls.mono (f41.spec φ cr9) ?_⟩
    rintro x H11 ⟨rfl, rfl⟩
    refine ⟨_, rfl, fun h => by simp at h, fun _ => HCalls.mono (f42.spec φ cp9) ?_⟩
    rintro x H12 ⟨rfl, k12'⟩
    refine ⟨_, _, rfl, HCalls.mono (f43.spec φ (cr9.keeps k12')) ?_⟩
    rintro x H13 ⟨rfl, k13⟩
    refine ⟨_, _, rfl, ?_⟩
    rw [fit70]
    refine ⟨by simp, fun h => by simp at h, fun _ => HCalls.mono (f42.spec φ (np H13)) ?_⟩
    rintro x H14 ⟨rfl, k14⟩
    refine ⟨_, _, rfl, HCalls.mono (f43.spec φ (nr H14)) ?_⟩
    rintro x H15 ⟨rfl, k15⟩
    refine ⟨_, _, rfl, ?_⟩
    rw [fit70]
    have k915 := ((k12'.trans k13).trans k14).trans k15
    refine ⟨by simp, fun h => by simp at h, fun _ => HCalls.mono (f42.spec φ (zp9.keeps k915)) ?_⟩
    rintro x H16 ⟨rfl, k16⟩
    refine ⟨_, _, rfl, HCalls.mono (f43.spec φ (zr9.keeps (k915.trans k16))) ?_⟩
    rintro x H17 ⟨rfl, k17⟩
    refine ⟨_, _, rfl, ?_⟩
    rw [fit70]
    exact ⟨by simp, by simp, (k915.trans k16).trans k17⟩
  rintro y _ H18 ⟨rfl, k918⟩
  refine ⟨fun h => (nomatch h), fun _ => ?_⟩
  have s918 := k918.size
  intro H19
  have o19 : objAt H19 H18.size #[.slice none 0 0, .slice none 0 0, .slice none 0 0] 78 := objAt_new ..
  have k1819 : Keeps H18 H19 := Keeps.push ..
  clear_value H19
  have k919 := k918.trans k1819
  have ts19 : TS H19 H18.size H18.size ⟨none, 0, none, 0, none, 0⟩ [] :=
    { to := o19, tb := Nat.le_refl _, oL := ownC_nil .., oW := ownC_nil .., oG := ownC_nil .., lw := fun q hq => (by cases hq), wg := fun q hq => (by cases hq)
      en := fun i e he => by simp at he
      sep := fun i j e e' _ he => by simp at he }
  have k019 := (k6.trans k69).trans k919
  have hls := hs.1
  have xb : ∀ (ys : List Int), ys.length ≤ 1099511627776 → ∀ u, cu0 ys = some u → u.xs.length ≤ 1099511627776 := fun ys h u hu => by cases hu; exact h
  refine ⟨fun i H' => 0 ≤ i ∧ i ≤ m ∧ Keeps H H' ∧ ∃ v es s1 s3, evens es ∧ (es.length : Int) ≤ 3 * i ∧ (∀ u, s1 = some u → u.xs.length ≤ 1099511627776) ∧ (∀ u, s3 = some u → u.xs.length ≤ 1099511627776) ∧
      ST H' H18.size H18.size H1.size H4.size H4.size H5.size (some ⟨cb, 0, none⟩) (some ⟨rb, 0, none⟩) v es s1 ∧ curP H' H6.size H8.size (some ⟨H6.size, 0, none⟩) s3 ∧ curR H' H8.size H9.size (some ⟨H8.size, 0, none⟩) s3, fun i _ => (m - i).toNat,
    ⟨by omega, by omega, k019, _, [], cu0 xs, cu0 [], fun i e he => by simp at he, by simp, xb _ (by omega), xb _ (by simp), ⟨ts19, cp9.keeps k919, cr9.keeps k919, by omega, by omega⟩, zp9.keeps k919, zr9.keeps k919⟩, ?_⟩
  rintro i2 _ H20 ⟨j0, j1, k20, v, es, s1', s3', ev, le, x1, x3, st, zp, zr⟩
  refine ⟨fun hi2 => ?_, fun hi2 => ?_⟩
  · simp only [decide_eq_true_eq] at hi2
    have disj1 : ∀ k, H6.size ≤ k → (some ⟨cb, 0, none⟩ : Option Addr) ≠ some ⟨k, 0, none⟩ ∧ (some ⟨rb, 0, none⟩ : Option Addr) ≠ some ⟨k, 0, none⟩ := fun k hk => ⟨fun e => by cases e; omega, fun e => by cases e; omega⟩
    have disj3 : ∀ k, k < H6.size → (some ⟨H6.size, 0, none⟩ : Option Addr) ≠ some ⟨k, 0, none⟩ ∧ (some ⟨H8.size, 0, none⟩ : Option Addr) ≠ some ⟨k, 0, none⟩ := fun k hk => ⟨fun e => by cases e; omega, fun e => by cases e; omega⟩
    have disj0 : ∀ k, k < H.size → (some ⟨cb, 0, none⟩ : Option Addr) ≠ some ⟨k, 0, none⟩ ∧ (some ⟨rb, 0, none⟩ : Option Addr) ≠ some ⟨k, 0, none⟩ := fun k hk => ⟨fun e => by cases e; omega, fun e => by cases e; omega⟩
    obtain ⟨x, b, o, hx, rfl, q0, q1⟩ := hs.at j0 hi2
    simp -zeta only [xA, xI (k20.cel q0), xI (k20.cel q1)]
    refine ⟨⟨j0, hi2⟩, ?_⟩
    refine HCalls.mono (f44.spec φ st ev (by omega) x1 x.op x.n) ?_
    rintro r H21 ⟨rfl, ⟨v2, es2, s2, ev2, l2, x2, st2⟩, F2⟩
    have k21 := F2.keeps k20 (by omega) disj0
    have zp2 := zp.cu F2 (by omega) fun k a _ => disj1 k a
    have zr2 := zr.cu F2 (by omega) fun k a _ => disj1 k (by omega)
    refine ⟨_, rfl, ?_⟩
    simp -zeta only [xA, xI (k21.cel q0), xI (k21.cel q1)]
    refine ⟨⟨j0, hi2⟩, ?_⟩
    have stn : ST H21 H18.size H18.size 0 0 0 0 none none v2 es2 none := ⟨st2.ts, rfl, rfl, by omega, by omega⟩
    refine HCalls.mono (f44.spec φ stn ev2 (by omega) (fun u hu => by cases hu) x.op x.n) ?_
    rintro r H22 ⟨rfl, ⟨v3, es3, s3n, ev3, l3, x3n, st3⟩, F3⟩
    have k22 := F3.keeps k21 (by omega) fun q _ => ⟨by simp, by simp⟩
    have nn : ∀ k : Nat, (none : Option Addr) ≠ some ⟨k, 0, none⟩ ∧ (none : Option Addr) ≠ some ⟨k, 0, none⟩ := fun k => ⟨by simp, by simp⟩
    have zp3 := zp2.cu F3 (by omega) fun k _ _ => nn k
    have zr3 := zr2.cu F3 (by omega) fun k _ _ => nn k
    have cp3 := st2.cp.cu F3 (by omega) fun k _ _ => nn k
    have cr3 := st2.cr.cu F3 (by omega) fun k _ _ => nn k
    refine ⟨_, rfl, ?_⟩
    simp -zeta only [xA, xI (k22.cel q0), xI (k22.cel q1)]
    refine ⟨⟨j0, hi2⟩, ?_⟩
    have stz : ST H22 H18.size H18.size H6.size H8.size H8.size H9.size (some ⟨H6.size, 0, none⟩) (some ⟨H8.size, 0, none⟩) v3 es3 s3' := ⟨st3.ts, zp3, zr3, by omega, by omega⟩
    refine HCalls.mono (f44.spec φ stz ev3 (by omega) x3 x.op x.n) ?_
    rintro r H23 ⟨rfl, ⟨v4, es4, s4, ev4, l4, x4, st4⟩, F4⟩
    have k23 := F4.keeps k22 (by omega) fun q hq => disj3 q (by omega)
    have cp4 := cp3.cu F4 (by omega) fun k _ b => disj3 k (by omega)
    have cr4 := cr3.cu F4 (by omega) fun k _ b => disj3 k (by omega)
    refine ⟨_, rfl, ?_⟩
    refine joinR (fun y H' => y = false ∧ H' = H23) ?_ ?_
    · refine ⟨fun h => (nomatch h), fun _ => ⟨fun h => (nomatch h), fun _ => ⟨fun h => (nomatch h), fun _ => ?_⟩⟩⟩
      refine HCalls.mono (f45.spec φ st4.ts (by omega)) ?_
      rintro r H24 ⟨rfl, rfl⟩
      exact ⟨_, rfl, rfl, rfl⟩
    rintro y _ H25 ⟨rfl, rfl⟩
    exact ⟨fun h => (nomatch h), fun _ => ⟨by omega, ⟨by omega, by omega, k23, v4, es4, s2, s4, ev4, by omega, x2, x4, ⟨st4.ts, cp4, cr4, by omega, by omega⟩, st4.cp, st4.cr⟩, by omega⟩⟩
  · refine HCalls.mono (f46.spec φ st.ts ev (by omega)) ?_
    rintro r H26 ⟨rfl, low⟩
    exact ⟨_, rfl, rfl, low.keeps k20 (by omega)⟩
end Go.Proofs.Ytkkjjjgcfnhabaa.Eng
namespace Go.Proofs.Ytkkjjjgcfnhabaa.Eng
open Go Go.Proofs
theorem cells81 : Try.prog.cellsOf 81 = 2 := by kernel_rfl
theorem cells2 : Try.prog.cellsOf 2 = 1 := by kernel_rfl
theorem ok_i64b {H : Hp} {d : Nat} {cs : List Value} (h : Okc Try.prog H (d + 1) 2 cs) : ∃ n, cs = [.int .i64 n] ∧ -9223372036854775808 ≤ n ∧ n ≤ 9223372036854775807 := okc_int Try.underlying2 h
theorem arg_bytes {H : Hp} {v : Value} (h : Argv Try.prog H 59 v) : ∃ A n c xs, v = .slice A n c ∧ n ≤ c ∧ c ≤ 140737488351232 ∧ bytesR H A n xs := by
  obtain ⟨A, n, c, xs, e, r⟩ := ok_bytes h.ok
  rw [arg_scalar h (by rw [Try.underlying59]; rfl)] at e
  simp at e; exact ⟨A, n, c, xs, e, r⟩
theorem ok_step {H : Hp} {d : Nat} {b o : Nat} {cs : List Value} (hc : ∀ j v, cs[j]? = some v → cel H b (o + j) = some v) (h : Okc Try.prog H (d + 2) 81 cs) : ∃ x : Stp, isS H b o x := by
  obtain ⟨hl, hf⟩ := ok_struct Try.underlying81 h
  rw [cells81] at hl
  match cs, hl with
  | [v0, v1], _ =>
    simp only [okF, cells3, cells2] at hf
    obtain ⟨f0, f1, _⟩ := hf
    obtain ⟨x0, e0, _⟩ := ok_i64 f0
    obtain ⟨x1, e1, _⟩ := ok_i64b f1
    simp at e0 e1
    subst e0; subst e1
    exact ⟨⟨x0, x1⟩, hc 0 _ rfl, hc 1 _ rfl⟩
theorem arg_steps {H : Hp} {v : Value} (h : Argv Try.prog H 60 v) : ∃ A n c xs, v = .slice A n c ∧ n ≤ c ∧ rowR isS 2 H A n xs := by
  obtain ⟨A, n, c, xs, e, h2, h3, h4⟩ := ok_slice (E := isS) Try.underlying60 h.ok (by rw [cells81]; decide) fun b o vs hl hc ho => ok_step hc ho
  rw [arg_scalar h (by rw [Try.underlying60]; rfl)] at e
  rw [cells81] at h4
  simp at e; exact ⟨A, n, c, xs, e, h2, h4⟩
end Go.Proofs.Ytkkjjjgcfnhabaa.Eng
namespace Go.Proofs.Ytkkjjjgcfnhabaa.numsCursor
open Go Go.Proofs.Ytkkjjjgcfnhabaa.Eng
theorem walk (φ : Fx) (H : Hp) (v0 v1 : Value) (h0 : Argv Try.prog H 59 v0) (h1 : Argv Try.prog H 60 v1) (z0 : Sized Try.prog H 1048576 59 v0) (z1 : Sized Try.prog H 1048576 60 v1) :
    HCalls Try.prog φ 5 [v0, v1] H fun v H' => v = .bool true ∧ Keeps H H' := by
  obtain ⟨A, n, c, xs, rfl, _, _, hr⟩ := arg_bytes h0
  obtain ⟨S, m, d, ss, rfl, _, hs⟩ := arg_steps h1
  exact f5.spec φ A n c xs S m d ss H hr (sized_slc Try.underlying59 z0) hs (sized_slc Try.underlying60 z1)
end Go.Proofs.Ytkkjjjgcfnhabaa.numsCursor
