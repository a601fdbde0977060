/- Part HLc of the proof of the claim in this folder: a way to walk code, and the contracts of the functions that the law reaches. Conditions: none. -/
import Derived.Test.YtkkjjjgcfnhabaaHLb
set_option linter.unusedVariables false
set_option linter.unusedSimpArgs false
set_option maxRecDepth 10000
namespace Go.Proofs.Ytkkjjjgcfnhabaa.Eng
open Go Go.Proofs
/-! ### Bytes that a function owns -/
structure ownB (H : Hp) (base : Nat) (A : Option Addr) (n c : Nat) (xs : List Int) : Prop where
  own : ownC H base 5 1 A n c (xs.map (Value.int .u8))
  rng : ∀ x ∈ xs, 0 ≤ x ∧ x < 256
theorem map_encU (xs : List Int) : xs.flatMap encU = xs.map (Value.int .u8) := by
  induction xs with
  | nil => rfl
  | cons a r ih => simp [encU, ih]
theorem ownB.len {H : Hp} {base : Nat} {A : Option Addr} {n c : Nat} {xs : List Int} (h : ownB H base A n c xs) : xs.length = n := by
  have := h.own.1; simpa using this
theorem ownB.row {H : Hp} {base : Nat} {A : Option Addr} {n c : Nat} {xs : List Int} (h : ownB H base A n c xs) : bytesR H A n xs := by
  have := h.own
  rw [← map_encU] at this
  exact ownC.row encU (fun _ => rfl) this (by decide) fun b o x hx hc => encU_is (h.rng x hx) hc
theorem ownB.keeps {H H' : Hp} {base : Nat} {A : Option Addr} {n c : Nat} {xs : List Int} (h : ownB H base A n c xs) (k : Keeps H H') : ownB H' base A n c xs := ⟨h.own.keeps k, h.rng⟩
theorem ownB.base_le {H : Hp} {base base' : Nat} {A : Option Addr} {n c : Nat} {xs : List Int} (h : ownB H base A n c xs) (hb : base' ≤ base) : ownB H base' A n c xs := ⟨h.own.base_le hb, h.rng⟩
theorem ownB_nil (H : Hp) (base : Nat) : ownB H base none 0 0 [] := ⟨ownC_nil .., by simp⟩
theorem bytesR.rng {H : Hp} {A : Option Addr} {n : Nat} {xs : List Int} (h : bytesR H A n xs) : ∀ x ∈ xs, 0 ≤ x ∧ x < 256 := by
  intro x hx
  obtain ⟨i, hi⟩ := List.mem_iff_getElem?.1 hx
  obtain ⟨_, _, _, _, r⟩ := h.2 i x hi
  exact r
theorem bytes_new (H : Hp) (xs : List Int) (hx : ∀ x ∈ xs, 0 ≤ x ∧ x < 256) (fr : Nat × Nat) (n : Nat) (hn : xs.length = n) : bytesR (H.push (.cells (xs.map (Value.int .u8)).toArray 5 fr)) (some ⟨H.size, 0, none⟩) n xs :=
  ⟨hn, fun i x hi => ⟨H.size, 0, rfl, by
    rw [Nat.zero_add, Nat.mul_one, cel_new]; simp [hi], hx x (List.mem_iff_getElem?.2 ⟨i, hi⟩)⟩⟩
/-- Bytes behind owned bytes. -/
theorem app_bytes {H : Hp} {base : Nat} {A : Option Addr} {n c : Nat} {xs : List Int} (h : ownB H base A n c xs) {B : Option Addr} {m d : Nat} {ys : List Int} (hs : bytesR H B m ys)
    (hn : n + m ≤ 140737488355328) (hbase : base ≤ H.size) {K : Value → Hp → Prop}
    (hK : ∀ A' c' H', ownB H' base A' (n + m) c' (xs ++ ys) → offA A H H' → (A' = A ∨ A' = some ⟨H.size, 0, none⟩) → (m = 0 ∨ A' ≠ none) → K (.slice A' (n + m) c') H') :
    appW cx 59 59 (.slice A n c) (.slice B m d) H K := by
  have hr := rowR.rd encU (fun _ => rfl) encU_rd hs
  rw [map_encU] at hr
  refine app59 h.own hr (by simp [Value.oneCell']) (by omega) hbase ?_
  intro A' c' H' w f e1 e2
  refine hK A' c' H' ⟨by rw [List.map_append]; exact w, ?_⟩ f e1 e2
  intro x hx
  rcases List.mem_append.1 hx with q | q
  · exact h.rng x q
  · exact bytesR.rng hs x q
/-- A string behind owned bytes: its bytes. -/
def strB (s : ByteArray) : List Int := s.data.toList.map fun b => (b.toNat : Int)
theorem strB_rng (s : ByteArray) : ∀ x ∈ strB s, 0 ≤ x ∧ x < 256 := by
  intro x hx
  obtain ⟨b, _, rfl⟩ := List.mem_map.1 hx
  have := b.toNat_lt
  omega
theorem strB_len (s : ByteArray) : (strB s).length = s.size := by simp [strB]
theorem byteVals_strB (s : ByteArray) : byteVals s = (strB s).map (Value.int .u8) := by simp [byteVals, strB]
theorem app_str {H : Hp} {base : Nat} {A : Option Addr} {n c : Nat} {xs : List Int} (h : ownB H base A n c xs) {s : ByteArray}
    (hn : n + s.size ≤ 140737488355328) (hbase : base ≤ H.size) {K : Value → Hp → Prop}
    (hK : ∀ A' c' H', ownB H' base A' (n + s.size) c' (xs ++ strB s) → offA A H H' → (A' = A ∨ A' = some ⟨H.size, 0, none⟩) → (s.size = 0 ∨ A' ≠ none) → K (.slice A' (n + s.size) c') H') :
    appW cx 59 9 (.slice A n c) (.string s) H K := by
  refine app_own (i := ⟨59, .slc 5, 1, 24, [.slice none 0 0], [.slc], [(false, [.slc])], false⟩) (e := 5) (ie := ⟨5, .int .u8, 1, 1, [.int .u8 0], [.int .u8], [(false, [.int .u8])], false⟩) rfl rfl rfl rfl h.own (m := s.size) (ys := byteVals s)
    (show srcC H 1 (.string s) s.size (byteVals s) from ⟨rfl, rfl, rfl⟩) (by simp [byteVals]) (by simp [byteVals, Value.oneCell']) (by show (n + s.size) * 1 ≤ _; omega) hbase ?_
  intro A' c' H' w f e1 e2
  refine hK A' c' H' ⟨by rw [List.map_append, ← byteVals_strB]; exact w, ?_⟩ f e1 e2
  intro x hx
  rcases List.mem_append.1 hx with q | q
  · exact h.rng x q
  · exact strB_rng s x q

/-! ### Short numbers -/
def putL (v : Int) : List Int := if h : 128 ≤ v then (v % 128 + 128) :: putL (v / 128) else [v]
termination_by v.toNat
theorem putL_big {v : Int} (h : 128 ≤ v) : putL v = (v % 128 + 128) :: putL (v / 128) := by rw [putL, dif_pos h]
theorem putL_small {v : Int} (h : ¬ 128 ≤ v) : putL v = [v] := by rw [putL, dif_neg h]
theorem wrap_u8 (v : Int) : IntKind.wrap .u8 v = v % 256 := by
  simp only [IntKind.wrap, IntKind.bits, IntKind.signed]; simp
theorem or128 (v : Int) (h : 0 ≤ v) : bOr .u8 (IntKind.wrap .u8 v) 128 = v % 128 + 128 := by
  have key : ∀ b : BitVec 8, ((b ||| 128#8).toNat : Int) = (b.toNat : Int) % 128 + 128 := by decide
  have h1 := key (BitVec.ofInt 8 (v % 256))
  have e1 : ((BitVec.ofInt 8 (v % 256)).toNat : Int) = v % 256 := by
    rw [BitVec.toNat_ofInt]; omega
  rw [e1] at h1
  have e2 : bOr .u8 (v % 256) 128 = IntKind.wrap .u8 (((BitVec.ofInt 8 (v % 256) ||| 128#8).toNat : Nat) : Int) := rfl
  rw [wrap_u8 v, e2, h1, wrap_u8]
  omega
theorem putL_rng (v : Int) (h : 0 ≤ v) : ∀ x ∈ putL v, 0 ≤ x ∧ x < 256 := by
  induction v using putL.induct with
  | case1 v hv ih =>
    rw [putL_big hv]
    intro x hx
    rcases List.mem_cons.1 hx with e | e
    · subst e; omega
    · exact ih (by omega) x e
  | case2 v hv =>
    rw [putL_small hv]
    intro x hx; simp at hx; subst hx; omega
def numB (v : Int) : List Int := if v < 0 then [] else putL v
theorem f161.spec (φ : Fx) (v : Int) (H : Hp) (hv : v ≤ 9223372036854775807) : HCalls cx.P φ 161 [.int .i64 v] H fun r H' => ∃ A n c, r = .slice A n c ∧ ownB H' H.size A n c (numB v) ∧ Keeps H H' := by
  apply f161.of
  unfold f161.VC
  refine ⟨fun h => ?_, fun h => ?_⟩
  · simp only [decide_eq_true_eq] at h
    exact ⟨none, 0, 0, rfl, by rw [numB, if_pos h]; exact ownB_nil .., Keeps.refl _⟩
  simp only [decide_eq_false_iff_not] at h
  refine ⟨fun v2 A n c H' => Keeps H H' ∧ 0 ≤ v2 ∧ ∃ xs, ownB H' H.size A n c xs ∧ xs ++ putL v2 = putL v ∧ (n : Int) + v2 ≤ 9223372036854775807 ∧ n ≤ 64 ∧ (v2 : Int) * 2 ^ n ≤ 9223372036854775807, fun v2 _ _ _ _ => v2.toNat,
    ⟨Keeps.refl _, by omega, [], ownB_nil .., rfl, by omega, by omega, by simpa using hv⟩, ?_⟩
  rintro v2 A n c _ H1 ⟨k1, h0, xs, own, hx, hb, hn, hp⟩
  refine ⟨fun h1 => ?_, fun h1 => ?_⟩
  · simp only [decide_eq_true_eq] at h1
    intro H2
    have k12 : Keeps H1 H2 := Keeps.push ..
    have hn63 : n ≤ 62 := by
      rcases Nat.lt_or_ge 62 n with q | q
      · exfalso
        have : (2 : Int) ^ 63 ≤ 2 ^ n := by exact_mod_cast Nat.pow_le_pow_right (by decide) q
        have h3 : (128 : Int) * 2 ^ 63 ≤ v2 * 2 ^ n := Int.mul_le_mul h1 this (by decide) h0
        have : (128 : Int) * 2 ^ 63 = 1180591620717411303424 := by decide
        omega
      · exact q
    have s2 : bytesR H2 (some ⟨H1.size, 0, none⟩) 1 [v2 % 128 + 128] := by
      have := bytes_new H1 [v2 % 128 + 128] (by intro x hx; simp at hx; subst hx; omega) (0, 0) 1 rfl
      simpa [H2, or128 v2 h0] using this
    clear_value H2
    refine app_bytes (own.keeps k12) s2 (by omega) (by have := k1.size; have := k12.size; omega) ?_
    intro A' c' H3 w f e1 e2
    refine ⟨_, _, _, rfl, by omega, ⟨f.keeps (k1.trans k12) fun b hb => (own.own.lt hb).1, by omega, xs ++ [v2 % 128 + 128], w, ?_, by omega, by omega, ?_⟩, by dsimp only; omega⟩
    · rw [← hx, putL_big h1, List.append_assoc]; rfl
    · have h4 : (2 : Int) ^ (n + 1) = 2 ^ n * 2 := Int.pow_succ ..
      have h5 : v2 / 128 * 2 ≤ v2 := by omega
      have h6 : (0 : Int) ≤ 2 ^ n := Int.pow_nonneg (by decide)
      calc v2 / 128 * 2 ^ (n + 1) = (v2 / 128 * 2) * 2 ^ n := by rw [h4, Int.mul_comm (2 ^ n) 2, ← Int.mul_assoc]
        _ ≤ v2 * 2 ^ n := Int.mul_le_mul_of_nonneg_right h5 h6
        _ ≤ _ := hp
  · simp only [decide_eq_false_iff_not] at h1
    intro H2
    have k12 : Keeps H1 H2 := Keeps.push ..
    have s2 : bytesR H2 (some ⟨H1.size, 0, none⟩) 1 [v2] := by
      have := bytes_new H1 [v2] (by intro x hx; simp at hx; subst hx; omega) (0, 0) 1 rfl
      simpa [H2, wrap_u8, show v2 % 256 = v2 by omega] using this
    clear_value H2
    refine app_bytes (own.keeps k12) s2 (by omega) (by have := k1.size; have := k12.size; omega) ?_
    intro A' c' H3 w f e1 e2
    refine ⟨_, _, _, rfl, _, _, _, rfl, ?_, f.keeps (k1.trans k12) fun b hb => (own.own.lt hb).1⟩
    rw [numB, if_neg h, ← hx, putL_small h1]; exact w
end Go.Proofs.Ytkkjjjgcfnhabaa.Eng
namespace Go.Proofs.Ytkkjjjgcfnhabaa.Eng
open Go Go.Proofs
theorem f174.spec (φ : Fx) (v : Int) (H : Hp) (hv : v ≤ 9223372036854775807) : HCalls cx.P φ 174 [.int .i64 v] H fun r H' => ∃ A n c, r = .slice A n c ∧ ownB H' H.size A n c (numB v) ∧ Keeps H H' := by
  apply f174.of
  unfold f174.VC
  refine ⟨fun h => ?_, fun h => ?_⟩
  · simp only [decide_eq_true_eq] at h
    exact ⟨none, 0, 0, rfl, by rw [numB, if_pos h]; exact ownB_nil .., Keeps.refl _⟩
  simp only [decide_eq_false_iff_not] at h
  refine ⟨fun v2 A n c H' => Keeps H H' ∧ 0 ≤ v2 ∧ ∃ xs, ownB H' H.size A n c xs ∧ xs ++ putL v2 = putL v ∧ n ≤ 64 ∧ (v2 : Int) * 2 ^ n ≤ 9223372036854775807, fun v2 _ _ _ _ => v2.toNat,
    ⟨Keeps.refl _, by omega, [], ownB_nil .., rfl, by omega, by simpa using hv⟩, ?_⟩
  rintro v2 A n c _ H1 ⟨k1, h0, xs, own, hx, hn, hp⟩
  refine ⟨fun h1 => ?_, fun h1 => ?_⟩
  · simp only [decide_eq_true_eq] at h1
    have hn63 : n ≤ 62 := by
      rcases Nat.lt_or_ge 62 n with q | q
      · exfalso
        have : (2 : Int) ^ 63 ≤ 2 ^ n := by exact_mod_cast Nat.pow_le_pow_right (by decide) q
        have h3 : (128 : Int) * 2 ^ 63 ≤ v2 * 2 ^ n := Int.mul_le_mul h1 this (by decide) h0
        have : (128 : Int) * 2 ^ 63 = 1180591620717411303424 := by decide
        omega
      · exact q
    have hv2 : v2 ≤ 9223372036854775807 := by
      have h6 : (1 : Int) ≤ 2 ^ n := by exact_mod_cast Nat.one_le_two_pow
      have : v2 * 1 ≤ v2 * 2 ^ n := Int.mul_le_mul_of_nonneg_left h6 h0
      omega
    refine ⟨⟨h0, by omega⟩, by omega, ?_⟩
    intro H2
    have k12 : Keeps H1 H2 := Keeps.push ..
    have s2 : bytesR H2 (some ⟨H1.size, 0, none⟩) 1 [v2 % 128 + 128] := by
      have := bytes_new H1 [v2 % 128 + 128] (by intro x hx; simp at hx; subst hx; omega) (0, 0) 1 rfl
      simpa [H2, wrap_u8, show (v2 % 128 + 128) % 256 = v2 % 128 + 128 by omega] using this
    clear_value H2
    refine app_bytes (own.keeps k12) s2 (by omega) (by have := k1.size; have := k12.size; omega) ?_
    intro A' c' H3 w f e1 e2
    refine ⟨_, _, _, rfl, by omega, ⟨f.keeps (k1.trans k12) fun b hb => (own.own.lt hb).1, by omega, xs ++ [v2 % 128 + 128], w, ?_, by omega, ?_⟩, by dsimp only; omega⟩
    · rw [← hx, putL_big h1, List.append_assoc]; rfl
    · have h4 : (2 : Int) ^ (n + 1) = 2 ^ n * 2 := Int.pow_succ ..
      have h5 : v2 / 128 * 2 ≤ v2 := by omega
      have h6 : (0 : Int) ≤ 2 ^ n := Int.pow_nonneg (by decide)
      calc v2 / 128 * 2 ^ (n + 1) = (v2 / 128 * 2) * 2 ^ n := by rw [h4, Int.mul_comm (2 ^ n) 2, ← Int.mul_assoc]
        _ ≤ v2 * 2 ^ n := Int.mul_le_mul_of_nonneg_right h5 h6
        _ ≤ _ := hp
  · simp only [decide_eq_false_iff_not] at h1
    intro H2
    have k12 : Keeps H1 H2 := Keeps.push ..
    have s2 : bytesR H2 (some ⟨H1.size, 0, none⟩) 1 [v2] := by
      have := bytes_new H1 [v2] (by intro x hx; simp at hx; subst hx; omega) (0, 0) 1 rfl
      simpa [H2, wrap_u8, show v2 % 256 = v2 by omega] using this
    clear_value H2
    refine app_bytes (own.keeps k12) s2 (by omega) (by have := k1.size; have := k12.size; omega) ?_
    intro A' c' H3 w f e1 e2
    refine ⟨_, _, _, rfl, _, _, _, rfl, ?_, f.keeps (k1.trans k12) fun b hb => (own.own.lt hb).1⟩
    rw [numB, if_neg h, ← hx, putL_small h1]; exact w
/-! ### Fixed numbers -/
def fixL (v : Int) (n : Nat) : List Int := (List.range n).map fun i => v / 2 ^ (8 * i) % 256
theorem fixL_rng (v : Int) (n : Nat) : ∀ x ∈ fixL v n, 0 ≤ x ∧ x < 256 := by
  intro x hx
  obtain ⟨i, _, rfl⟩ := List.mem_map.1 hx
  omega
theorem fixL_succ (v : Int) (n : Nat) : fixL v (n + 1) = fixL v n ++ [v / 2 ^ (8 * n) % 256] := by simp [fixL, List.range_succ]
def fixB (v n : Int) : List Int := if n < 1 ∨ 8 < n then [] else fixL v n.toNat
/-- One cell of a row is written. -/
theorem put_fn {H : Hp} {b n : Nat} {g : Nat → Value} {t : TypeId} (h : objAt H b ((List.range n).map g).toArray t) {o : Nat} (ho : o < n) (v : Value) :
    objAt (hput H b o [v]) b ((List.range n).map fun i => if i = o then v else g i).toArray t := by
  have := objAt_hput h o [v]
  have e : spl ((List.range n).map g).toArray o [v] = ((List.range n).map fun i => if i = o then v else g i).toArray := by
    apply Array.ext_getElem?
    intro i
    rw [getElem?_spl _ _ _ (by simp; omega)]
    by_cases hi : i = o
    · subst hi
      rw [if_pos (by simp)]
      simp [ho]
    · rw [if_neg (by simp; omega)]
      simp only [List.getElem?_toArray, List.getElem?_map]
      cases hr : (List.range n)[i]? with
      | none => rfl
      | some x =>
        have : x = i := by
          have := (List.getElem?_eq_some_iff.1 hr).2; simpa using this.symm
        subst this
        simp [hi]
  rw [e] at this; exact this
theorem zrow_one (v : Value) (n : Nat) : zrow [v] n = (List.range n).map fun _ => v := by
  apply List.ext_getElem?
  intro i
  by_cases hi : i < n
  · rw [zrow_get _ (by simp) n i (by simpa using hi)]
    simp [hi, Nat.mod_one]
  · rw [List.getElem?_eq_none (by rw [zrow_length]; simp; omega), List.getElem?_eq_none (by simp; omega)]
theorem ownB_obj {H : Hp} {base b n : Nat} {xs : List Int} (h : objAt H b (xs.map (Value.int .u8)).toArray 5) (hb : base ≤ b) (hn : xs.length = n) (hx : ∀ x ∈ xs, 0 ≤ x ∧ x < 256) : ownB H base (some ⟨b, 0, none⟩) n n xs :=
  ⟨⟨by simp [hn], Nat.le_refl _, Or.inr ⟨b, _, hb, rfl, h, by simp [hn], by rw [Nat.mul_one]; exact List.take_of_length_le (by simp [hn])⟩⟩, hx⟩
theorem f116.spec (φ : Fx) (v n : Int) (H : Hp) (hv : 0 ≤ v) : HCalls cx.P φ 116 [.int .u64 v, .int .i64 n] H fun r H' => ∃ A m c, r = .slice A m c ∧ ownB H' H.size A m c (fixB v n) ∧ Keeps H H' := by
  apply f116.of
  unfold f116.VC
  refine join1 (decide (n < 1) || decide (8 < n)) H ?_ ?_
  · grind
  intro _
  refine ⟨fun h => ?_, fun h => ?_⟩
  · simp only [Bool.or_eq_true, decide_eq_true_eq] at h
    exact ⟨none, 0, 0, rfl, by rw [fixB, if_pos h]; exact ownB_nil .., Keeps.refl _⟩
  simp only [Bool.or_eq_false_iff, decide_eq_false_iff_not] at h
  refine ⟨⟨by omega, by omega, by omega⟩, ?_⟩
  intro H2
  have o2 : objAt H2 H.size ((List.range n.toNat).map fun i => if i < 0 then Value.int .u8 (v / 2 ^ (8 * i) % 256) else Value.int .u8 0).toArray 5 := by
    have this : objAt H2 H.size (zrow [Value.int .u8 0] n.toNat).toArray 5 := objAt_new H (zrow [Value.int .u8 0] n.toNat).toArray 5
    rw [zrow_one] at this
    simpa using this
  have k2 : Keeps H H2 := Keeps.push ..
  clear_value H2
  refine ⟨fun x H' => Keeps H H' ∧ 0 ≤ x ∧ x ≤ n ∧ objAt H' H.size ((List.range n.toNat).map fun i => if i < x.toNat then Value.int .u8 (v / 2 ^ (8 * i) % 256) else Value.int .u8 0).toArray 5, fun x _ => (n - x).toNat,
    ⟨k2, by omega, by omega, o2⟩, ?_⟩
  rintro x _ H3 ⟨k3, h0, h1, o3⟩
  refine ⟨fun hx => ?_, fun hx => ?_⟩
  · simp only [decide_eq_true_eq] at hx
    simp -zeta only [xA]
    refine ⟨by omega, by omega, ⟨h0, hx⟩, objAt_canPut o3 (by simp; omega) (by simp [Value.oneCell']), ?_⟩
    intro H4
    have o4 : objAt H4 H.size _ 5 := put_fn o3 (o := 0 + x.toNat * 1) (by omega) (.int .u8 (IntKind.wrap .u8 (v / (2 ^ (min (Int.toNat (8 * x)) 64)))))
    have k4 : Keeps H H4 := k3.hput (Nat.le_refl _)
    clear_value H4
    refine ⟨by omega, ⟨k4, by omega, by omega, ?_⟩, by omega⟩
    have e : min (Int.toNat (8 * x)) 64 = 8 * x.toNat := by omega
    rw [e, wrap_u8] at o4
    have : ((List.range n.toNat).map fun i => if i < (x + 1).toNat then Value.int .u8 (v / 2 ^ (8 * i) % 256) else Value.int .u8 0) =
        (List.range n.toNat).map fun i => if i = 0 + x.toNat * 1 then Value.int .u8 (v / 2 ^ (8 * x.toNat) % 256) else if i < x.toNat then Value.int .u8 (v / 2 ^ (8 * i) % 256) else Value.int .u8 0 := by
      apply List.map_congr_left
      intro i _
      by_cases q : i = x.toNat
      · subst q; rw [if_pos (by omega), if_pos (by omega)]
      · rw [if_neg (show ¬ i = 0 + x.toNat * 1 by omega)]
        by_cases q2 : i < x.toNat
        · rw [if_pos (by omega), if_pos q2]
        · rw [if_neg (by omega), if_neg q2]
    rw [this]; exact o4
  · simp only [decide_eq_false_iff_not] at hx
    have e : ((List.range n.toNat).map fun i => if i < x.toNat then Value.int .u8 (v / 2 ^ (8 * i) % 256) else Value.int .u8 0) = (fixL v n.toNat).map (Value.int .u8) := by
      rw [fixL, List.map_map]
      apply List.map_congr_left
      intro i hi
      rw [if_pos (by have := List.mem_range.1 hi; omega)]; rfl
    rw [e] at o3
    refine ⟨_, _, _, rfl, ?_, k3⟩
    rw [fixB, if_neg (by omega)]
    exact ownB_obj o3 (Nat.le_refl _) (by simp [fixL]) (fixL_rng _ _)
theorem f120.spec (φ : Fx) (v n : Int) (H : Hp) (hv : 0 ≤ v) (hv2 : v ≤ 18446744073709551615) : HCalls cx.P φ 120 [.int .u64 v, .int .i64 n] H fun r H' => ∃ A m c, r = .slice A m c ∧ ownB H' H.size A m c (fixB v n) ∧ Keeps H H' := by
  apply f120.of
  unfold f120.VC
  refine join1 (decide (n < 1) || decide (8 < n)) H ?_ ?_
  · grind
  intro _
  refine ⟨fun h => ?_, fun h => ?_⟩
  · simp only [Bool.or_eq_true, decide_eq_true_eq] at h
    exact ⟨none, 0, 0, rfl, by rw [fixB, if_pos h]; exact ownB_nil .., Keeps.refl _⟩
  simp only [Bool.or_eq_false_iff, decide_eq_false_iff_not] at h
  refine ⟨fun v2 A m c i H' => Keeps H H' ∧ 0 ≤ i ∧ i ≤ n ∧ v2 = v / 2 ^ (8 * i.toNat) ∧ ownB H' H.size A m c (fixL v i.toNat), fun _ _ _ _ i _ => (n - i).toNat,
    ⟨Keeps.refl _, by omega, by omega, by simp, by simpa [fixL] using ownB_nil _ _⟩, ?_⟩
  rintro v2 A m c i _ H2 ⟨k2, h0, h1, rfl, own⟩
  have hm := own.len
  simp only [fixL, List.length_map, List.length_range] at hm
  refine ⟨fun hi => ?_, fun hi => ?_⟩
  · simp only [decide_eq_true_eq] at hi
    have hp : (1 : Int) ≤ 2 ^ (8 * i.toNat) := by exact_mod_cast Nat.one_le_two_pow
    have hq : 0 ≤ v / 2 ^ (8 * i.toNat) := Int.ediv_nonneg hv (by omega)
    have hq2 : v / 2 ^ (8 * i.toNat) ≤ v := Int.ediv_le_self _ hv
    refine ⟨⟨hq, by omega⟩, ?_⟩
    intro H3
    have k23 : Keeps H2 H3 := Keeps.push ..
    have s3 : bytesR H3 (some ⟨H2.size, 0, none⟩) 1 [v / 2 ^ (8 * i.toNat) % 256] := by
      have := bytes_new H2 [v / 2 ^ (8 * i.toNat) % 256] (by intro x hx; simp at hx; subst hx; omega) (0, 0) 1 rfl
      simpa [H3, wrap_u8] using this
    clear_value H3
    refine app_bytes (own.keeps k23) s3 (by omega) (by have := k2.size; have := k23.size; omega) ?_
    intro A' c' H4 w f e1 e2
    refine ⟨_, _, _, rfl, ⟨hq, by omega, by omega⟩, by omega, ⟨f.keeps (k2.trans k23) fun b hb => (own.own.lt hb).1, by omega, by omega, ?_, ?_⟩, by dsimp only; omega⟩
    · rw [show (i + 1).toNat = i.toNat + 1 by omega, show 8 * (i.toNat + 1) = 8 * i.toNat + 8 by omega, Int.pow_add, ← Int.ediv_ediv_of_nonneg (by omega)]; rfl
    · rw [show (i + 1).toNat = i.toNat + 1 by omega, fixL_succ]; exact w
  · simp only [decide_eq_false_iff_not] at hi
    refine ⟨_, _, _, rfl, ?_, k2⟩
    rw [fixB, if_neg (by omega), show n.toNat = i.toNat by omega]; exact own
end Go.Proofs.Ytkkjjjgcfnhabaa.Eng
namespace Go.Proofs.Ytkkjjjgcfnhabaa.Eng
open Go Go.Proofs
/-! ### Words of 32 bits -/
def u32 (w : BitVec 32) : Int := (w.toNat : Int)
theorem u32_rng (w : BitVec 32) : 0 ≤ u32 w ∧ u32 w < 4294967296 := by
  have := w.isLt; simp only [u32]; omega
theorem u32_of {x : Int} (h0 : 0 ≤ x) (h1 : x < 4294967296) : x = u32 (BitVec.ofInt 32 x) := by
  simp only [u32, BitVec.toNat_ofInt]; omega
theorem ofInt_u32 (w : BitVec 32) : BitVec.ofInt 32 (u32 w) = w := by
  apply BitVec.eq_of_toNat_eq
  have := w.isLt
  simp only [u32, BitVec.toNat_ofInt]; omega
theorem wrap_u32 (v : Int) : IntKind.wrap .u32 v = v % 4294967296 := by
  simp only [IntKind.wrap, IntKind.bits, IntKind.signed]; simp
theorem xor_u32 (a b : BitVec 32) : bXor .u32 (u32 a) (u32 b) = u32 (a ^^^ b) := by
  have e : bXor .u32 (u32 a) (u32 b) = IntKind.wrap .u32 (((BitVec.ofInt 32 (u32 a) ^^^ BitVec.ofInt 32 (u32 b)).toNat : Nat) : Int) := rfl
  rw [e, ofInt_u32, ofInt_u32, wrap_u32]
  have := (a ^^^ b).isLt
  simp only [u32]; omega
theorem and_u32 (a b : BitVec 32) : bAnd .u32 (u32 a) (u32 b) = u32 (a &&& b) := by
  have e : bAnd .u32 (u32 a) (u32 b) = IntKind.wrap .u32 (((BitVec.ofInt 32 (u32 a) &&& BitVec.ofInt 32 (u32 b)).toNat : Nat) : Int) := rfl
  rw [e, ofInt_u32, ofInt_u32, wrap_u32]
  have := (a &&& b).isLt
  simp only [u32]; omega
theorem shr_u32 (a : BitVec 32) (k : Nat) : u32 a / (2 : Int) ^ k = u32 (a >>> k) := by
  simp only [u32, BitVec.toNat_ushiftRight, Nat.shiftRight_eq_div_pow]
  rw [Int.natCast_ediv, Int.natCast_pow]; rfl
theorem shr1_u32 (a : BitVec 32) : u32 a / (2 : Int) = u32 (a >>> (1 : Nat)) := by have := shr_u32 a 1; rwa [Int.pow_one] at this
theorem shr4_u32 (a : BitVec 32) : u32 a / (16 : Int) = u32 (a >>> (4 : Nat)) := shr_u32 a 4
def poly : BitVec 32 := 2197175160#32
def stepB (x : BitVec 32) : BitVec 32 := (x >>> 1) ^^^ (if x.getLsbD 0 then poly else 0#32)
theorem stepB_xor (a b : BitVec 32) : stepB (a ^^^ b) = stepB a ^^^ stepB b := by
  simp only [stepB, BitVec.getLsbD_xor]
  cases a.getLsbD 0 <;> cases b.getLsbD 0 <;> (ext i hi; simp)
  all_goals (cases a.getLsbD (1 + i) <;> cases b.getLsbD (1 + i) <;> simp)
theorem lsb_u32 (w : BitVec 32) : decide (u32 w % 2 = 1) = w.getLsbD 0 := by
  simp only [u32, BitVec.getLsbD, Nat.testBit_zero]
  have : ((w.toNat : Int) % 2 = 1) ↔ (w.toNat % 2 = 1) := by omega
  simp [this]
theorem stepB_u32 (w : BitVec 32) : u32 (stepB w) = if u32 w % 2 = 1 then bXor .u32 (u32 w / (2 : Int)) 2197175160 else u32 w / (2 : Int) := by
  have h := lsb_u32 w
  have e1 : u32 w / (2 : Int) = u32 (w >>> (1 : Nat)) := shr1_u32 w
  have e2 : (2197175160 : Int) = u32 poly := by decide
  rw [stepB, e1, e2]
  by_cases hb : u32 w % 2 = 1
  · rw [if_pos hb, xor_u32, ← h]; simp [hb]
  · rw [if_neg hb, ← h]; simp [hb]
theorem f193.spec (φ : Fx) (w : BitVec 32) (H : Hp) : HCalls cx.P φ 193 [.int .u32 (u32 w)] H fun r H' => r = .int .u32 (u32 (stepB w)) ∧ H' = H := by
  apply f193.of
  unfold f193.VC
  have := u32_rng w
  rw [stepB_u32]
  refine ⟨by omega, fun h => ⟨by omega, ?_, rfl⟩, fun h => ⟨by omega, ?_, rfl⟩⟩
  · simp only [decide_eq_true_eq] at h; rw [if_pos h]
  · simp only [decide_eq_false_iff_not] at h; rw [if_neg h]
theorem f196.spec (φ : Fx) (w : BitVec 32) (H : Hp) : HCalls cx.P φ 196 [.int .u32 (u32 w)] H fun r H' => r = .int .u32 (u32 (stepB w)) ∧ H' = H := by
  apply f196.of
  unfold f196.VC
  have e : bAnd .u32 (u32 w) 1 = u32 w % 2 := by
    have h1 : (1 : Int) = u32 1#32 := by decide
    rw [h1, and_u32]
    have : (w &&& 1#32).toNat = w.toNat % 2 := by simp [BitVec.toNat_and, Nat.and_one_is_mod]
    simp only [u32, this]; omega
  rw [e, stepB_u32]
  refine ⟨fun h => ⟨by omega, ?_, rfl⟩, fun h => ⟨by omega, ?_, rfl⟩⟩
  · simp only [decide_eq_true_eq] at h; rw [if_pos h]
  · simp only [decide_eq_false_iff_not] at h; rw [if_neg h]
def step4 (x : BitVec 32) : BitVec 32 := stepB (stepB (stepB (stepB x)))
theorem step4_xor (a b : BitVec 32) : step4 (a ^^^ b) = step4 a ^^^ step4 b := by simp only [step4, stepB_xor]
theorem stepB_even (x : BitVec 32) (h : x.getLsbD 0 = false) : stepB x = x >>> 1 := by rw [stepB, h]; simp
theorem step_shl (x : BitVec 32) (k : Nat) (hk : k ≤ 3) : stepB ((x >>> 4) <<< (k + 1)) = (x >>> 4) <<< k := by
  rw [stepB_even _ (by simp)]
  ext i hi
  simp only [BitVec.getElem_ushiftRight, BitVec.getLsbD_shiftLeft, BitVec.getLsbD_ushiftRight, BitVec.getElem_shiftLeft]
  have a : decide (1 + i < k + 1) = decide (i < k) := by
    by_cases q : i < k
    · simp [q]; omega
    · simp [q]; omega
  have b : 4 + (1 + i - (k + 1)) = 4 + (i - k) := by omega
  rw [a, b]
  by_cases q : i < k
  · simp [q]
  · by_cases h : 1 + i < 32
    · simp [h, q, BitVec.getLsbD_eq_getElem, BitVec.getElem_ushiftRight]
    · have e : x.getLsbD (4 + (i - k)) = false := BitVec.getLsbD_of_ge _ _ (by omega)
      simp [h, q, e]
theorem step4_shl (x : BitVec 32) : step4 ((x >>> 4) <<< 4) = x >>> 4 := by
  rw [step4, step_shl x 3 (by omega), step_shl x 2 (by omega), step_shl x 1 (by omega), step_shl x 0 (by omega)]
  simp
theorem nib (x : BitVec 32) : x = ((x >>> 4) <<< 4) ^^^ (x &&& 15#32) := by
  have m : ∀ i : Fin 32, (15#32).getLsbD i.1 = decide (i.1 < 4) := by decide
  ext i hi
  have := m ⟨i, hi⟩
  simp only [BitVec.getElem_xor, BitVec.getElem_and, BitVec.getElem_shiftLeft]
  rw [← BitVec.getLsbD_eq_getElem (x := 15#32), this]
  by_cases q : i < 4
  · simp [q]
  · simp [q, show 4 + (i - 4) = i by omega, BitVec.getLsbD_eq_getElem hi]
/-- Half a byte at once. -/
theorem step4_nib (x : BitVec 32) : step4 x = (x >>> 4) ^^^ step4 (x &&& 15#32) := by
  have h := congrArg step4 (nib x)
  rw [step4_xor, step4_shl] at h
  exact h
end Go.Proofs.Ytkkjjjgcfnhabaa.Eng
namespace Go.Proofs.Ytkkjjjgcfnhabaa.Eng
open Go Go.Proofs
def stepK : Nat → BitVec 32 → BitVec 32
  | 0, w => w
  | k + 1, w => stepB (stepK k w)
def crcF (w : BitVec 32) : List Int → BitVec 32
  | [] => w
  | c :: r => crcF (stepK 8 (w ^^^ BitVec.ofInt 32 c)) r
def crcT : List Int := (List.range 16).map fun i => u32 (step4 (BitVec.ofNat 32 i))
theorem not_u32 (w : BitVec 32) : bXor .u32 4294967295 (u32 w) = u32 (~~~ w) := by
  have e : (4294967295 : Int) = u32 (BitVec.allOnes 32) := by decide
  rw [e, xor_u32]; congr 1
theorem wrap_nat (x : Nat) (h : x < 4294967296) : IntKind.wrap .u32 (x : Int) = u32 (BitVec.ofNat 32 x) := by
  rw [wrap_u32]; simp only [u32, BitVec.toNat_ofNat]; omega
theorem f192.spec (φ : Fx) (H : Hp) : HCalls cx.P φ 192 [] H fun r H' => r = .agg ((List.map (Value.int .u32) crcT ++ [])).toArray ∧ Keeps H H' := by
  apply f192.of
  unfold f192.VC
  intro H1
  have o1 : objAt H1 H.size (List.replicate 16 (Value.int .u32 0)).toArray 236 := objAt_new ..
  have k1 : Keeps H H1 := Keeps.push ..
  have z1 : H1.size = H.size + 1 := by simp [H1]
  clear_value H1
  intro H2
  have o2 : objAt H2 H1.size ((List.range 16).map fun i => if i < 0 then Value.int .u32 (u32 (step4 (BitVec.ofNat 32 i))) else Value.int .u32 0).toArray 236 := objAt_new ..
  have k12 : Keeps H1 H2 := Keeps.push ..
  have o1 := k12.obj o1
  clear_value H2
  have k2 := k1.trans k12
  refine ⟨fun x H' => Keeps H H' ∧ 0 ≤ x ∧ x ≤ 16 ∧ objAt H' H.size (List.replicate 16 (Value.int .u32 0)).toArray 236 ∧ objAt H' H1.size ((List.range 16).map fun i => if i < x.toNat then Value.int .u32 (u32 (step4 (BitVec.ofNat 32 i))) else Value.int .u32 0).toArray 236, fun x _ => (16 - x).toNat,
    ⟨k2, by omega, by omega, o1, o2⟩, ?_⟩
  rintro x _ H3 ⟨k3, h0, h1, p1, p2⟩
  refine ⟨fun hx => ?_, fun hx => ?_⟩
  · simp only [decide_eq_true_eq] at hx
    have ex : IntKind.wrap .u32 x = u32 (BitVec.ofNat 32 x.toNat) := by
      have := wrap_nat x.toNat (by omega)
      rwa [show ((x.toNat : Nat) : Int) = x by omega] at this
    rw [ex]
    refine ⟨fun y k H' => H' = H3 ∧ 0 ≤ k ∧ k ≤ 4 ∧ y = u32 (stepK k.toNat (BitVec.ofNat 32 x.toNat)), fun _ k _ => (4 - k).toNat, ⟨rfl, by omega, by omega, rfl⟩, ?_⟩
    rintro y k _ H4 ⟨rfl, hk0, hk1, rfl⟩
    refine ⟨fun hk => ?_, fun hk => ?_⟩
    · simp only [decide_eq_true_eq] at hk
      refine HCalls.mono (f196.spec φ _ H4) ?_
      rintro v H5 ⟨rfl, rfl⟩
      refine ⟨_, rfl, by omega, ⟨rfl, by omega, by omega, ?_⟩, by dsimp only; omega⟩
      rw [show (k + 1).toNat = k.toNat + 1 by omega]; rfl
    · simp only [decide_eq_false_iff_not] at hk
      rw [show k.toNat = 4 by omega]
      refine ⟨⟨h0, by omega⟩, objAt_canPut p2 (by simp; omega) (by simp [Value.oneCell']), ?_⟩
      intro H6
      have q2 : objAt H6 H1.size _ 236 := put_fn p2 (o := 0 + x.toNat * 1) (by omega) (.int .u32 (u32 (stepK 4 (BitVec.ofNat 32 x.toNat))))
      have q1 : objAt H6 H.size (List.replicate 16 (Value.int .u32 0)).toArray 236 := by unfold objAt; rw [hput_other (by omega)]; exact p1
      have k6 : Keeps H H6 := k3.hput (by omega)
      clear_value H6
      refine ⟨by omega, ⟨k6, by omega, by omega, q1, ?_⟩, by dsimp only; omega⟩
      have : ((List.range 16).map fun i => if i < (x + 1).toNat then Value.int .u32 (u32 (step4 (BitVec.ofNat 32 i))) else Value.int .u32 0) =
          (List.range 16).map fun i => if i = 0 + x.toNat * 1 then Value.int .u32 (u32 (stepK 4 (BitVec.ofNat 32 x.toNat))) else if i < x.toNat then Value.int .u32 (u32 (step4 (BitVec.ofNat 32 i))) else Value.int .u32 0 := by
        apply List.map_congr_left
        intro i _
        by_cases q : i = x.toNat
        · subst q; rw [if_pos (by omega), if_pos (by omega)]; rfl
        · rw [if_neg (show ¬ i = 0 + x.toNat * 1 by omega)]
          by_cases q2 : i < x.toNat
          · rw [if_pos (by omega), if_pos q2]
          · rw [if_neg (by omega), if_neg q2]
      rw [this]; exact q2
  · simp only [decide_eq_false_iff_not] at hx
    have e : ((List.range 16).map fun i => if i < x.toNat then Value.int .u32 (u32 (step4 (BitVec.ofNat 32 i))) else Value.int .u32 0) = crcT.map (Value.int .u32) := by
      rw [crcT, List.map_map]
      apply List.map_congr_left
      intro i hi
      rw [if_pos (by have := List.mem_range.1 hi; omega)]; rfl
    rw [e] at p2
    have hl : crcT.length = 16 := by simp [crcT]
    have rd : ∀ {G : Hp} {b : Nat}, objAt G b (crcT.map (Value.int .u32)).toArray 236 → ∀ j, j < 16 → cel G b (0 + j) = some (.int .u32 (crcT.getD j 0)) := by
      intro G b o j hj
      rw [Nat.zero_add, objAt_cel o]
      simp [List.getD_eq_getElem?_getD, List.getElem?_eq_getElem (show j < crcT.length by omega)]
    refine ⟨crcT, ⟨hl, rd p2⟩, (fitsN_iff _ _ _).2 ⟨by simp [hl], objAt_canPut p1 (by simp [hl]) (by simp [Value.oneCell']), ?_⟩⟩
    intro H7
    have o7 := objAt_hput p1 0 (List.map (Value.int .u32) crcT ++ [])
    have e7 : objAt H7 H.size (crcT.map (Value.int .u32)).toArray 236 := by
      have : ∀ c : Array Value, c.size = 16 → spl c 0 (List.map (Value.int .u32) crcT ++ []) = (crcT.map (Value.int .u32)).toArray := by
        intro c hc
        have : List.drop (List.map (Value.int .u32) crcT).length c.toList = [] := List.drop_eq_nil_of_le (by simp [hc, hl])
        simp only [spl, List.append_nil, Nat.zero_add, this]
        simp
      rw [this _ (by simp)] at o7
      exact o7
    exact ⟨crcT, ⟨hl, rd e7⟩, rfl, k3.hput (Nat.le_refl _)⟩
theorem ofInt_byte (c : Int) (h : 0 ≤ c ∧ c < 256) : c = u32 (BitVec.ofInt 32 c) := u32_of h.1 (by omega)
theorem and15 (w : BitVec 32) : bAnd .u32 (u32 w) 15 = u32 (w &&& 15#32) := by
  have e : (15 : Int) = u32 15#32 := by decide
  rw [e, and_u32]
theorem and15_lt (w : BitVec 32) : u32 (w &&& 15#32) < 16 := by
  have : (w &&& 15#32).toNat ≤ 15 := by rw [BitVec.toNat_and]; exact Nat.and_le_right
  simp only [u32]; omega
theorem crcT_get (w : BitVec 32) : crcT[(u32 (w &&& 15#32)).toNat]? = some (u32 (step4 (w &&& 15#32))) := by
  have h := and15_lt w
  have h0 := (u32_rng (w &&& 15#32)).1
  rw [crcT, List.getElem?_map, List.getElem?_range (by omega)]
  simp only [Option.map_some]
  have : BitVec.ofNat 32 (u32 (w &&& 15#32)).toNat = w &&& 15#32 := by
    apply BitVec.eq_of_toNat_eq
    have := (w &&& 15#32).isLt
    simp only [u32, BitVec.toNat_ofNat]; omega
  rw [this]
theorem f188.spec (φ : Fx) (w : BitVec 32) (A : Option Addr) (n c : Nat) (xs : List Int) (H : Hp) (hr : bytesR H A n xs) (hn : n ≤ 140737488355328) :
    HCalls cx.P φ 188 [.int .u32 (u32 w), .slice A n c] H fun r H' => r = .int .u32 (u32 (~~~ (crcF (~~~ w) xs))) ∧ Keeps H H' := by
  apply f188.of
  unfold f188.VC
  refine HCalls.mono (f192.spec φ H) ?_
  rintro v H1 ⟨rfl, k1⟩
  have hl : crcT.length = 16 := by simp [crcT]
  refine ⟨crcT, hl, rfl, ?_⟩
  intro H2
  have o2 : objAt H2 H1.size (List.replicate 16 (Value.int .u32 0)).toArray 236 := objAt_new ..
  have k12 : Keeps H1 H2 := Keeps.push ..
  clear_value H2
  refine (fitsN_iff _ _ _).2 ⟨by simp [hl], objAt_canPut o2 (by simp [hl]) (by simp [Value.oneCell']), ?_⟩
  intro H3
  have o3 := objAt_hput o2 0 (List.map (Value.int .u32) crcT ++ [])
  have e3 : objAt H3 H1.size (crcT.map (Value.int .u32)).toArray 236 := by
    have : ∀ c : Array Value, c.size = 16 → spl c 0 (List.map (Value.int .u32) crcT ++ []) = (crcT.map (Value.int .u32)).toArray := by
      intro c hc
      have : List.drop (List.map (Value.int .u32) crcT).length c.toList = [] := List.drop_eq_nil_of_le (by simp [hc, hl])
      simp only [spl, List.append_nil, Nat.zero_add, this]
      simp
    rw [this _ (by simp)] at o3
    exact o3
  have k3 : Keeps H H3 := k1.trans ((Keeps.refl H1).trans (k12.hput (Nat.le_refl _)))
  clear_value H3
  rw [not_u32]
  refine ⟨fun x i H' => H' = H3 ∧ 0 ≤ i ∧ i ≤ n ∧ ∃ y : BitVec 32, x = u32 y ∧ crcF y (xs.drop i.toNat) = crcF (~~~ w) xs, fun _ i _ => (n - i).toNat, ⟨rfl, by omega, by omega, _, rfl, by simp⟩, ?_⟩
  rintro x i _ H4 ⟨rfl, h0, h1, y, rfl, hc⟩
  refine ⟨fun hi => ?_, fun hi => ?_⟩
  · simp only [decide_eq_true_eq] at hi
    obtain ⟨b, bb, oo, hx, rfl, cb, rb⟩ := (hr.keeps isU8.mono k3).at h0 hi
    rw [drop_at hx, crcF] at hc
    simp only [xA, xI cb]
    have eb := ofInt_byte b rb
    generalize hz : BitVec.ofInt 32 b = z at eb hc
    rw [eb]
    have hzr := u32_rng z
    have g1 := crcT_get (y ^^^ z)
    have tb : ∀ (j : Nat) (q : Int), crcT[j]? = some q → cel H4 H1.size (0 + j * 1) = some (.int .u32 q) := by
      intro j q hq
      rw [Nat.zero_add, Nat.mul_one, objAt_cel e3]; simp [hq]
    have t1 := tb _ _ g1
    have u1 := u32_rng ((y ^^^ z) &&& 15#32)
    have v1 := and15_lt (y ^^^ z)
    simp only [xor_u32, and15]
    refine ⟨⟨h0, hi⟩, ⟨by omega, by omega⟩, by omega, ⟨by omega, by omega⟩, ?_⟩
    simp only [xI t1, shr4_u32, xor_u32, and15]
    rw [← step4_nib]
    have g2 := crcT_get (step4 (y ^^^ z))
    have t2 := tb _ _ g2
    have u2 := u32_rng (step4 (y ^^^ z) &&& 15#32)
    have v2 := and15_lt (step4 (y ^^^ z))
    refine ⟨by omega, ⟨by omega, by omega⟩, ?_⟩
    simp only [xI t2, xor_u32]
    rw [← step4_nib]
    refine ⟨by omega, ⟨trivial, by omega, by omega, _, rfl, ?_⟩, by omega⟩
    rw [show (i + 1).toNat = i.toNat + 1 by omega]
    exact hc
  · simp only [decide_eq_false_iff_not] at hi
    rw [List.drop_eq_nil_of_le (by rw [hr.1]; omega), crcF] at hc
    rw [not_u32, hc]
    exact ⟨rfl, k3⟩
theorem f189.spec (φ : Fx) (w : BitVec 32) (A : Option Addr) (n c : Nat) (xs : List Int) (H : Hp) (hr : bytesR H A n xs) (hn : n ≤ 140737488355328) :
    HCalls cx.P φ 189 [.int .u32 (u32 w), .slice A n c] H fun r H' => r = .int .u32 (u32 (~~~ (crcF (~~~ w) xs))) ∧ H' = H := by
  apply f189.of
  unfold f189.VC
  rw [not_u32]
  refine ⟨fun x i H' => H' = H ∧ 0 ≤ i ∧ i ≤ n ∧ ∃ y : BitVec 32, x = u32 y ∧ crcF y (xs.drop i.toNat) = crcF (~~~ w) xs, fun _ i _ => (n - i).toNat, ⟨rfl, by omega, by omega, _, rfl, by simp⟩, ?_⟩
  rintro x i _ H4 ⟨rfl, h0, h1, y, rfl, hc⟩
  refine ⟨fun hi => ?_, fun hi => ?_⟩
  · simp only [decide_eq_true_eq] at hi
    obtain ⟨b, bb, oo, hx, rfl, cb, rb⟩ := hr.at h0 hi
    rw [drop_at hx, crcF] at hc
    simp only [xA, xI cb]
    have eb := ofInt_byte b rb
    generalize hz : BitVec.ofInt 32 b = z at eb hc
    rw [eb]
    have hzr := u32_rng z
    refine ⟨⟨h0, hi⟩, ⟨by omega, by omega⟩, ?_⟩
    rw [xor_u32]
    refine ⟨fun q k H' => H' = H4 ∧ 0 ≤ k ∧ k ≤ 8 ∧ q = u32 (stepK k.toNat (y ^^^ z)), fun _ k _ => (8 - k).toNat, ⟨rfl, by omega, by omega, rfl⟩, ?_⟩
    rintro q k _ H5 ⟨rfl, hk0, hk1, rfl⟩
    refine ⟨fun hk => ?_, fun hk => ?_⟩
    · simp only [decide_eq_true_eq] at hk
      refine HCalls.mono (f193.spec φ _ H5) ?_
      rintro v H6 ⟨rfl, rfl⟩
      refine ⟨_, rfl, by omega, ⟨rfl, by omega, by omega, ?_⟩, by dsimp only; omega⟩
      rw [show (k + 1).toNat = k.toNat + 1 by omega]; rfl
    · simp only [decide_eq_false_iff_not] at hk
      rw [show k.toNat = 8 by omega]
      refine ⟨by omega, ⟨rfl, by omega, by omega, _, rfl, ?_⟩, by omega⟩
      rw [show (i + 1).toNat = i.toNat + 1 by omega]
      exact hc
  · simp only [decide_eq_false_iff_not] at hi
    rw [List.drop_eq_nil_of_le (by rw [hr.1]; omega), crcF] at hc
    rw [not_u32, hc]
    exact ⟨rfl, rfl⟩
end Go.Proofs.Ytkkjjjgcfnhabaa.Eng
namespace Go.Proofs.Ytkkjjjgcfnhabaa.Eng
open Go Go.Proofs
/-! ### Sums and seals -/
def crcL (xs : List Int) : BitVec 32 := ~~~ (crcF (~~~ 0#32) xs)
theorem f165.spec (φ : Fx) (A : Option Addr) (n c : Nat) (xs : List Int) (H : Hp) (hr : bytesR H A n xs) (hn : n ≤ 140737488355328) :
    HCalls cx.P φ 165 [.slice A n c] H fun r H' => r = .int .u32 (u32 (crcL xs)) ∧ Keeps H H' := by
  apply f165.of
  unfold f165.VC
  refine HCalls.mono (f188.spec φ 0#32 A n c xs H hr hn) ?_
  rintro v H1 ⟨rfl, k⟩
  exact ⟨_, rfl, rfl, k⟩
theorem f169.spec (φ : Fx) (A : Option Addr) (n c : Nat) (xs : List Int) (H : Hp) (hr : bytesR H A n xs) (hn : n ≤ 140737488355328) :
    HCalls cx.P φ 169 [.slice A n c] H fun r H' => r = .int .u32 (u32 (crcL xs)) ∧ H' = H := by
  apply f169.of
  unfold f169.VC
  refine HCalls.mono (f189.spec φ 0#32 A n c xs H hr hn) ?_
  rintro v H1 ⟨rfl, rfl⟩
  exact ⟨_, rfl, rfl, rfl⟩
def four (s : Int) : List Int := [s % 256, s / 256 % 256, s / 65536 % 256, s / 16777216 % 256]
theorem four_rng (s : Int) : ∀ x ∈ four s, 0 ≤ x ∧ x < 256 := by
  intro x hx; simp only [four, List.mem_cons, List.not_mem_nil, or_false] at hx
  rcases hx with e | e | e | e <;> subst e <;> omega
theorem four_new (H : Hp) (s : Int) : bytesR (H.push (.cells #[.int .u8 (IntKind.wrap .u8 s), .int .u8 (IntKind.wrap .u8 (s / 256)), .int .u8 (IntKind.wrap .u8 (s / 65536)), .int .u8 (IntKind.wrap .u8 (s / 16777216))] 5 (0, 0))) (some ⟨H.size, 0, none⟩) 4 (four s) := by
  have := bytes_new H (four s) (four_rng s) (0, 0) 4 rfl
  simpa [four, wrap_u8] using this
theorem f164.spec (φ : Fx) (s : Int) (H : Hp) : HCalls cx.P φ 164 [.int .u32 s] H fun r H' => ∃ A, r = .slice A 4 4 ∧ bytesR H' A 4 (four s) ∧ Keeps H H' := by
  apply f164.of
  unfold f164.VC
  refine ⟨by omega, by omega, by omega, ?_⟩
  intro H1
  exact ⟨_, rfl, four_new H s, Keeps.push ..⟩
def sealL (xs : List Int) : List Int := xs ++ four (u32 (crcL xs))
theorem f115.spec (φ : Fx) (A : Option Addr) (n c : Nat) (xs : List Int) (H : Hp) (hr : bytesR H A n xs) (hn : n ≤ 140737488351232) :
    HCalls cx.P φ 115 [.slice A n c] H fun r H' => ∃ A' m c', r = .slice A' m c' ∧ ownB H' H.size A' m c' (sealL xs) ∧ Keeps H H' := by
  apply f115.of
  unfold f115.VC
  refine ⟨by omega, ⟨by omega, by omega, by omega⟩, ?_⟩
  intro H1
  have k1 : Keeps H H1 := Keeps.push ..
  have o1 : objAt H1 H.size (zrow [Value.int .u8 0] (Int.toNat (((n : Nat) : Int) + 4))).toArray 5 := objAt_new ..
  have own : ownB H1 H.size (some ⟨H.size, 0, none⟩) 0 (Int.toNat (((n : Nat) : Int) + 4)) [] :=
    ⟨⟨by simp, by omega, Or.inr ⟨H.size, _, Nat.le_refl _, rfl, o1, by simp [zrow_length], by simp⟩⟩, by simp⟩
  clear_value H1
  refine app_bytes own (hr.keeps isU8.mono k1) (by omega) (by have := k1.size; omega) ?_
  intro A' c' H2 w f e1 e2
  refine ⟨_, _, _, rfl, ?_⟩
  have k2 : Keeps H H2 := f.keeps k1 fun b hb => (own.own.lt hb).1
  refine HCalls.mono (f165.spec φ A n c xs H2 (hr.keeps isU8.mono k2) (by omega)) ?_
  rintro v H3 ⟨rfl, k23⟩
  refine ⟨_, rfl, ?_⟩
  refine HCalls.mono (f164.spec φ _ H3) ?_
  rintro v H4 ⟨B, rfl, rb, k34⟩
  refine ⟨_, _, _, rfl, ?_⟩
  have k24 := k23.trans k34
  refine app_bytes (w.keeps k24) rb (by omega) (by have := k2.size; have := k24.size; omega) ?_
  intro A3 c3 H5 w5 f5 _ _
  refine ⟨_, _, _, rfl, _, _, _, rfl, ?_, f5.keeps (k2.trans k24) fun b hb => (w.own.lt hb).1⟩
  simpa [sealL] using w5
theorem f119.spec (φ : Fx) (A : Option Addr) (n c : Nat) (xs : List Int) (H : Hp) (hr : bytesR H A n xs) (hn : n ≤ 140737488351232) :
    HCalls cx.P φ 119 [.slice A n c] H fun r H' => ∃ A' m c', r = .slice A' m c' ∧ ownB H' H.size A' m c' (sealL xs) ∧ Keeps H H' := by
  apply f119.of
  unfold f119.VC
  intro H1
  have k1 : Keeps H H1 := Keeps.push ..
  have o1 : objAt H1 H.size #[] 5 := objAt_new ..
  have own : ownB H1 H.size (some ⟨H.size, 0, none⟩) 0 0 [] :=
    ⟨⟨by simp, by omega, Or.inr ⟨H.size, _, Nat.le_refl _, rfl, o1, by simp, by simp⟩⟩, by simp⟩
  clear_value H1
  refine app_bytes own (hr.keeps isU8.mono k1) (by omega) (by have := k1.size; omega) ?_
  intro A' c' H2 w f e1 e2
  refine ⟨_, _, _, rfl, ?_⟩
  have k2 : Keeps H H2 := f.keeps k1 fun b hb => (own.own.lt hb).1
  refine HCalls.mono (f169.spec φ A n c xs H2 (hr.keeps isU8.mono k2) (by omega)) ?_
  rintro v H3 ⟨rfl, rfl⟩
  refine ⟨_, rfl, by omega, by omega, by omega, ?_⟩
  intro H4
  have k34 : Keeps H3 H4 := Keeps.push ..
  have rb : bytesR H4 (some ⟨H3.size, 0, none⟩) 4 (four (u32 (crcL xs))) := four_new H3 _
  clear_value H4
  refine app_bytes (w.keeps k34) rb (by omega) (by have := k2.size; have := k34.size; omega) ?_
  intro A3 c3 H5 w5 f5 _ _
  refine ⟨_, _, _, rfl, _, _, _, rfl, ?_, f5.keeps (k2.trans k34) fun b hb => (w.own.lt hb).1⟩
  simpa [sealL] using w5
/-! ### How much two texts share -/
def comL : List UInt8 → List UInt8 → Nat
  | a :: r, b :: s => if a = b then comL r s + 1 else 0
  | _, _ => 0
theorem comL_le : ∀ a b, comL a b ≤ a.length ∧ comL a b ≤ b.length
  | [], _ => by simp [comL]
  | _ :: _, [] => by simp [comL]
  | a :: r, b :: s => by
    have := comL_le r s
    simp only [comL]; split <;> simp <;> omega
def com (a b : ByteArray) : Int := (comL a.data.toList b.data.toList : Nat)
theorem f163.spec (φ : Fx) (a b : ByteArray) (ha : a.size ≤ 140737488351232) (H : Hp) : HCalls cx.P φ 163 [.string a, .string b] H fun r H' => r = .int .i64 (com a b) ∧ H' = H := by
  apply f163.of
  unfold f163.VC
  have la := len_data a
  have lb := len_data b
  refine ⟨fun x H' => H' = H ∧ 0 ≤ x ∧ x ≤ a.size ∧ x ≤ b.size ∧ x + (comL (a.data.toList.drop x.toNat) (b.data.toList.drop x.toNat) : Nat) = com a b, fun x _ => (a.size - x).toNat, ⟨rfl, by omega, by omega, by omega, by simp [com]⟩, ?_⟩
  rintro x _ H' ⟨rfl, h0, h1, h2, hc⟩
  refine ⟨fun h => ?_, fun h => ?_⟩
  · simp only [decide_eq_true_eq] at h
    obtain ⟨u, hu⟩ := drop_cons (l := a.data.toList) (n := x.toNat) (by omega)
    obtain ⟨w, hw⟩ := drop_cons (l := b.data.toList) (n := x.toNat) (by omega)
    rw [bt_at a x u _ hu, bt_at b x w _ hw]
    rw [hu, hw, comL] at hc
    have e : (u = w) = ((u.toNat : Int) = w.toNat) := propext ⟨fun e => by rw [e], fun e => UInt8.toNat_inj.1 (by omega)⟩
    have hn : x.toNat + 1 = (x + 1).toNat := by omega
    rw [hn] at hc
    simp only [e] at hc
    refine ⟨by omega, by omega, fun hne => ?_, fun heq => ?_⟩
    · simp only [Bool.not_eq_true', decide_eq_false_iff_not] at hne
      rw [if_neg hne] at hc
      simp at hc; exact ⟨by rw [hc], rfl⟩
    · simp only [Bool.not_eq_false', decide_eq_true_eq] at heq
      rw [if_pos heq] at hc
      refine ⟨by omega, ⟨rfl, by omega, by omega, by omega, by omega⟩, by dsimp only; omega⟩
  · simp only [decide_eq_false_iff_not] at h
    have : comL (a.data.toList.drop x.toNat) (b.data.toList.drop x.toNat) = 0 := by
      have := comL_le (a.data.toList.drop x.toNat) (b.data.toList.drop x.toNat)
      simp only [List.length_drop] at this; omega
    rw [this] at hc
    refine ⟨?_, rfl⟩
    congr 1; omega
theorem f168.spec (φ : Fx) (a b : ByteArray) (ha : a.size ≤ 140737488351232) (H : Hp) : HCalls cx.P φ 168 [.string a, .string b] H fun r H' => r = .int .i64 (com a b) ∧ H' = H := by
  apply f168.of
  unfold f168.VC
  have la := len_data a
  have lb := len_data b
  refine ⟨fun x H' => H' = H ∧ 0 ≤ x ∧ x ≤ a.size ∧ x ≤ b.size ∧ x + (comL (a.data.toList.drop x.toNat) (b.data.toList.drop x.toNat) : Nat) = com a b, fun x _ => (a.size - x).toNat, ⟨rfl, by omega, by omega, by omega, by simp [com]⟩, ?_⟩
  rintro x _ H' ⟨rfl, h0, h1, h2, hc⟩
  by_cases h : x < a.size ∧ x < b.size
  · obtain ⟨u, hu⟩ := drop_cons (l := a.data.toList) (n := x.toNat) (by omega)
    obtain ⟨w, hw⟩ := drop_cons (l := b.data.toList) (n := x.toNat) (by omega)
    rw [bt_at a x u _ hu, bt_at b x w _ hw]
    rw [hu, hw, comL] at hc
    have e : (u = w) = ((u.toNat : Int) = w.toNat) := propext ⟨fun e => by rw [e], fun e => UInt8.toNat_inj.1 (by omega)⟩
    have hn : x.toNat + 1 = (x + 1).toNat := by omega
    rw [hn] at hc
    simp only [e] at hc
    refine join1 (decide ((u.toNat : Int) = w.toNat)) H' ?_ ?_
    · refine ⟨fun _ => ⟨fun _ => ⟨by omega, by omega, rfl, rfl⟩, fun q => ?_⟩, fun q => ?_⟩ <;> simp only [decide_eq_false_iff_not] at q <;> omega
    intro _
    refine ⟨fun heq => ?_, fun hne => ?_⟩
    · simp only [decide_eq_true_eq] at heq
      rw [if_pos heq] at hc
      refine ⟨by omega, ⟨rfl, by omega, by omega, by omega, by omega⟩, by dsimp only; omega⟩
    · simp only [decide_eq_false_iff_not] at hne
      rw [if_neg hne] at hc
      simp at hc; exact ⟨by rw [hc], rfl⟩
  · refine join1 false H' ?_ ?_
    · refine ⟨fun q => ⟨fun q2 => ?_, fun q2 => ⟨rfl, rfl⟩⟩, fun q => ⟨rfl, rfl⟩⟩
      simp only [decide_eq_true_eq] at q q2; omega
    intro _
    refine ⟨fun q => (nomatch q), fun _ => ?_⟩
    have : comL (a.data.toList.drop x.toNat) (b.data.toList.drop x.toNat) = 0 := by
      have := comL_le (a.data.toList.drop x.toNat) (b.data.toList.drop x.toNat)
      simp only [List.length_drop] at this; omega
    rw [this] at hc
    refine ⟨?_, rfl⟩
    congr 1; omega
end Go.Proofs.Ytkkjjjgcfnhabaa.Eng
namespace Go.Proofs.Ytkkjjjgcfnhabaa.Eng
open Go Go.Proofs
theorem putL_len : ∀ (k : Nat) (v : Int), v < 128 ^ (k + 1) → (putL v).length ≤ k + 1
  | 0, v, h => by
    have : v < 128 := by simpa using h
    rw [putL_small (by omega)]; simp
  | k + 1, v, h => by
    by_cases hv : 128 ≤ v
    · rw [putL_big hv]
      have h2 : v / 128 < 128 ^ (k + 1) := by
        have e : (128 : Int) ^ (k + 1 + 1) = 128 ^ (k + 1) * 128 := Int.pow_succ ..
        rw [e] at h
        exact Int.ediv_lt_of_lt_mul (by decide) h
      have := putL_len k (v / 128) h2
      simp; omega
    · rw [putL_small hv]; simp
theorem numB_len (v : Int) (h : v ≤ 9223372036854775807) : (numB v).length ≤ 9 := by
  unfold numB
  split
  · simp
  · refine putL_len 8 v ?_
    have : (128 : Int) ^ (8 + 1) = 9223372036854775808 := by decide
    omega
theorem numB_rng (v : Int) : ∀ x ∈ numB v, 0 ≤ x ∧ x < 256 := by
  unfold numB
  split
  · simp
  · exact putL_rng v (by omega)
/-! ### A variable that holds owned bytes -/
structure outT (b : Nat) (A A' : Option Addr) (H H' : Hp) : Prop where
  size : H.size ≤ H'.size
  same : ∀ k, k < H.size → k ≠ b → A ≠ some ⟨k, 0, none⟩ → H'[k]? = H[k]?
  buf : A' = A ∨ ∃ q, H.size ≤ q ∧ A' = some ⟨q, 0, none⟩
theorem outT.refl (b : Nat) (A : Option Addr) (H : Hp) : outT b A A H H := ⟨Nat.le_refl _, fun _ _ _ _ => rfl, Or.inl rfl⟩
theorem outT.trans {b : Nat} {A A' A'' : Option Addr} {H H' H'' : Hp} (h : outT b A A' H H') (k : outT b A' A'' H' H'') : outT b A A'' H H'' where
  size := Nat.le_trans h.size k.size
  same := fun i hi hb ha => by
    rw [k.same i (Nat.lt_of_lt_of_le hi h.size) hb ?_]
    · exact h.same i hi hb ha
    · rcases h.buf with e | ⟨q, hq, e⟩
      · rw [e]; exact ha
      · rw [e]; intro e2; cases e2; omega
  buf := by
    rcases k.buf with e | ⟨q, hq, e⟩
    · rw [e]; exact h.buf
    · exact Or.inr ⟨q, Nat.le_trans h.size hq, e⟩
theorem Keeps.out {b : Nat} {A : Option Addr} {H H' : Hp} (k : Keeps H H') : outT b A A H H' := ⟨k.size, fun i hi _ _ => k.old i hi, Or.inl rfl⟩
theorem outT.keeps {b : Nat} {A A' : Option Addr} {G H H' : Hp} (h : outT b A A' H H') (k : Keeps G H) (hb : G.size ≤ b) (ha : ∀ q, A = some ⟨q, 0, none⟩ → G.size ≤ q) : Keeps G H' :=
  ⟨Nat.le_trans k.size h.size, fun i hi => by
    rw [h.same i (Nat.lt_of_lt_of_le hi k.size) (by omega) (fun e => by have := ha i e; omega)]; exact k.old i hi⟩
/-- Objects of other elements stay. -/
theorem outT.obj {b base : Nat} {A A' : Option Addr} {H H' : Hp} (h : outT b A A' H H') {n c : Nat} {xs : List Int} (own : ownB H base A n c xs) {k : Nat} {cs : Array Value} {t : TypeId} (o : objAt H k cs t) (hb : k ≠ b) (ht : t ≠ 5) : objAt H' k cs t := by
  have hk := objAt_lt o
  unfold objAt at o ⊢
  rw [h.same k hk hb ?_]; exact o
  intro e
  obtain ⟨_, _, q | ⟨b1, cs1, _, e1, o1, _⟩⟩ := own.own
  · rw [q.1] at e; cases e
  · rw [e1] at e; cases e; unfold objAt at o1; rw [o] at o1; cases o1; exact ht rfl
/-- The variable's own step: its buffer grew and was put back. -/
theorem out_put {b : Nat} {A A' : Option Addr} {H H1 : Hp} {n c : Nat} (f : offA A H H1) (hA : A' = A ∨ A' = some ⟨H.size, 0, none⟩) (vs : List Value) : outT b A A' H (hput H1 b 0 vs) where
  size := by rw [hput_size]; exact f.1
  same := fun k hk hb ha => by rw [hput_other (fun e => hb e.symm)]; exact f.2 k hk ha
  buf := by
    rcases hA with e | e
    · exact Or.inl e
    · exact Or.inr ⟨_, Nat.le_refl _, e⟩
theorem f160.spec (φ : Fx) (b base q : Nat) (ns : List Int) (A : Option Addr) (n c : Nat) (xs : List Int) (H : Hp) (ob : objAt H b #[.slice A n c] 59) (own : ownB H base A n c xs) (hbase : base ≤ H.size)
    (on : objAt H q (ns.map (Value.int .i64)).toArray 3) (hns : ∀ v ∈ ns, v ≤ 9223372036854775807) (hlen : n + 9 * ns.length ≤ 140737488355328) :
    HCalls cx.P φ 160 [.slice (some ⟨q, 0, none⟩) ns.length ns.length, .pointer (some ⟨b, 0, none⟩)] H fun v H' => v = .tuple #[] ∧ ∃ A' n' c', objAt H' b #[.slice A' n' c'] 59 ∧ ownB H' base A' n' c' (xs ++ ns.flatMap numB) ∧ outT b A A' H H' := by
  apply f160.of
  unfold f160.VC
  refine ⟨fun x H' => 0 ≤ x ∧ x ≤ ns.length ∧ objAt H' q (ns.map (Value.int .i64)).toArray 3 ∧ ∃ A' n' c', objAt H' b #[.slice A' n' c'] 59 ∧ ownB H' base A' n' c' (xs ++ (ns.take x.toNat).flatMap numB) ∧ outT b A A' H H' ∧ n' ≤ n + 9 * x.toNat,
    fun x _ => (ns.length - x).toNat, ⟨by omega, by omega, on, A, n, c, ob, by simpa using own, outT.refl .., by omega⟩, ?_⟩
  rintro x _ H1 ⟨h0, h1, on1, A1, n1, c1, ob1, own1, ot1, hn1⟩
  refine ⟨fun hx => ?_, fun hx => ?_⟩
  · simp only [decide_eq_true_eq] at hx
    have hxl : x.toNat < ns.length := by omega
    have hv := List.getElem?_eq_getElem hxl
    generalize ns[x.toNat] = v at hv
    have hvm := hns v (List.mem_iff_getElem?.2 ⟨_, hv⟩)
    have cv : cel H1 q (0 + x.toNat * 1) = some (.int .i64 v) := by rw [objAt_cel on1]; simp [hv]
    have cb : cel H1 b 0 = some (.slice A1 n1 c1) := by rw [objAt_cel ob1]; rfl
    simp -zeta only [xA, xI cv, xL cb]
    refine ⟨⟨h0, hx⟩, HCalls.mono (f161.spec φ v H1 hvm) ?_⟩
    rintro r H2 ⟨A2, n2, c2, rfl, own2, k12⟩
    have hl2 := own2.len
    have hl9 := numB_len v hvm
    refine ⟨_, _, _, rfl, ?_, ?_⟩
    · intro j u hu
      match j, hu with
      | 0, hu => simp at hu; subst hu; exact k12.cel cb
    have hs1 := ot1.size
    refine app_bytes (own1.keeps k12) own2.row (by omega) (by have := k12.size; omega) ?_
    intro A3 c3 H3 w f e1 e2
    refine ⟨_, _, _, rfl, ?_⟩
    have ob2 := k12.obj ob1
    have ob3 : objAt H3 b #[.slice A1 n1 c1] 59 := by
      unfold objAt; rw [f.2 b (objAt_lt ob2) ?_]; exact ob2
      intro e
      obtain ⟨_, _, q | ⟨b1, cs1, _, q1, o1, _⟩⟩ := (own1.keeps k12).own
      · rw [q.1] at e; cases e
      · rw [q1] at e; cases e; unfold objAt at o1 ob2; rw [ob2] at o1; cases o1
    refine ⟨objAt_canPut ob3 (by simp) (by simp [Value.oneCell']), ?_⟩
    have ot2 : outT b A1 A3 H2 (hput H3 b 0 [.slice A3 (n1 + n2) c3]) := out_put (n := 0) (c := 0) f e1 _
    intro H4
    have ob4 : objAt H4 b #[.slice A3 (n1 + n2) c3] 59 := objAt_hput ob3 0 _
    have ot4 : outT b A A3 H H4 := (ot1.trans k12.out).trans ot2
    have own4 : ownB H4 base A3 (n1 + n2) c3 ((xs ++ (ns.take x.toNat).flatMap numB) ++ numB v) := ⟨w.own.frame fun k hk => hput_other (fun e => by
        subst e
        obtain ⟨_, _, q | ⟨b1, cs1, _, q1, o1, _⟩⟩ := w.own
        · rw [q.1] at hk; cases hk
        · rw [q1] at hk; cases hk; unfold objAt at o1 ob3; rw [ob3] at o1; cases o1), w.rng⟩
    have on4 : objAt H4 q (ns.map (Value.int .i64)).toArray 3 := ot2.obj (own1.keeps k12) (k12.obj on1) (by
      intro e; subst e; unfold objAt at on1 ob1; rw [ob1] at on1
      simp only [Option.some.injEq, Obj.cells.injEq] at on1; exact absurd on1.2.1 (by decide)) (by decide)
    clear_value H4
    refine ⟨by omega, ⟨by omega, by omega, on4, A3, _, c3, ob4, ?_, ot4, by omega⟩, by omega⟩
    rw [show (x + 1).toNat = x.toNat + 1 by omega, List.take_add_one, hv]
    simpa [List.flatMap_append, List.append_assoc] using own4
  · simp only [decide_eq_false_iff_not] at hx
    rw [List.take_of_length_le (by omega)] at own1
    exact ⟨rfl, A1, n1, c1, ob1, own1, ot1⟩
end Go.Proofs.Ytkkjjjgcfnhabaa.Eng
namespace Go.Proofs.Ytkkjjjgcfnhabaa.Eng
open Go Go.Proofs
/-! ### A filter's bytes -/
def filtL (all : Bool) (hashes : Int) (data : List Int) : List Int :=
  if all then [255] else if data.length = 0 then [0] else ([hashes % 256] ++ numB data.length) ++ data
theorem ownB_lit (H : Hp) (x : Int) (hx : 0 ≤ x ∧ x < 256) : ownB (H.push (.cells #[.int .u8 x] 5 (0, 0))) H.size (some ⟨H.size, 0, none⟩) 1 1 [x] :=
  ownB_obj (xs := [x]) (objAt_new H #[.int .u8 x] 5) (Nat.le_refl _) rfl (by intro y hy; simp at hy; subst hy; exact hx)
theorem f162.spec (φ : Fx) (all : Bool) (hashes : Int) (A : Option Addr) (n c : Nat) (data : List Int) (H : Hp) (hr : bytesR H A n data) (hf : filtRight all hashes n = true) :
    HCalls cx.P φ 162 [.agg #[.bool all, .int .i64 hashes, .slice A n c]] H fun r H' => ∃ A' m c', r = .tuple #[.slice A' m c', .int .i64 0] ∧ ownB H' H.size A' m c' (filtL all hashes data) ∧ Keeps H H' := by
  apply f162.of
  unfold f162.VC
  intro H1
  have e0 : cel H1 H.size 0 = some (.bool all) := cel_new ..
  have e1 : cel H1 H.size (0 + 1) = some (.int .i64 hashes) := cel_new ..
  have e2 : cel H1 H.size (0 + 2) = some (.slice A n c) := cel_new ..
  have k1 : Keeps H H1 := Keeps.push ..
  clear_value H1
  have hl := hr.1
  simp -zeta only [xB e0, xI e1, xL e2]
  refine HCalls.mono (f148.spec φ all hashes A n c H1) ?_
  rintro v H2 ⟨rfl, k12⟩
  have k2 := k1.trans k12
  have e1 := k12.cel e1
  have e2 := k12.cel e2
  refine ⟨_, rfl, fun h => ?_, fun h => ⟨fun h2 => ?_, fun h2 => ⟨fun h3 => ?_, fun h3 => ?_⟩⟩⟩
  · intro H3
    have ha : all = true := by simp only [filtKind] at h; grind
    refine ⟨_, _, _, rfl, ?_, k2.trans (Keeps.push ..)⟩
    rw [filtL, if_pos ha]
    exact (ownB_lit H2 255 (by omega)).base_le k2.size
  · intro H3
    have ha : all = false ∧ n = 0 := by simp only [filtKind] at h2; grind
    refine ⟨_, _, _, rfl, ?_, k2.trans (Keeps.push ..)⟩
    rw [filtL, if_neg (by simp [ha.1]), if_pos (by rw [hl]; exact ha.2)]
    exact (ownB_lit H2 0 (by omega)).base_le k2.size
  · have ha : all = false ∧ 1 ≤ n ∧ n ≤ 4096 ∧ 1 ≤ hashes ∧ hashes ≤ 8 := by simp only [filtKind] at h3; grind
    refine ⟨fun B m d H' => Keeps H2 H' ∧ ownB H' H2.size B m d ([hashes % 256] ++ numB n), ?_, ?_⟩
    · simp -zeta only [xI e1, xL e2]
      constructor
      · intro H5
        have k25 : Keeps H2 H5 := Keeps.push ..
        have o5 : ownB H5 H2.size (some ⟨H2.size, 0, none⟩) 1 1 [hashes % 256] := by
          have := ownB_lit H2 (hashes % 256) (by omega)
          rw [← wrap_u8] at this; rw [← wrap_u8]; exact this
        clear_value H5
        refine ⟨?_, HCalls.mono (f161.spec φ n H5 (by omega)) ?_⟩
        · intro j u hu
          match j, hu with
          | 0, hu => simp at hu; subst hu; exact k25.cel e2
        rintro r H6 ⟨A2, n2, c2, rfl, o6, k56⟩
        have := o6.len
        have := numB_len (n : Int) (by omega)
        refine ⟨_, _, _, rfl, app_bytes (o5.keeps k56) o6.row (by omega) (by have := k25.size; have := k56.size; omega) ?_⟩
        intro A3 c3 H7 w f _ _
        exact ⟨_, _, _, rfl, f.keeps (k25.trans k56) fun b hb => (o5.own.lt hb).1, w⟩
      · refine HCalls.mono (f161.spec φ n H2 (by omega)) ?_
        rintro r H6 ⟨A2, n2, c2, rfl, o6, k26⟩
        refine ⟨_, _, _, rfl, ?_, ?_⟩
        · intro j u hu
          match j, hu with
          | 0, hu => simp at hu; subst hu; exact k26.cel e1
        intro H9
        have k69 : Keeps H6 H9 := Keeps.push ..
        have o9 : ownB H9 H6.size (some ⟨H6.size, 0, none⟩) 1 1 [hashes % 256] := by
          have := ownB_lit H6 (hashes % 256) (by omega)
          rw [← wrap_u8] at this; rw [← wrap_u8]; exact this
        clear_value H9
        have := o6.len
        have := numB_len (n : Int) (by omega)
        have o9 := o9.base_le k26.size
        refine app_bytes o9 (o6.keeps k69).row (by omega) (by have := k26.size; have := k69.size; omega) ?_
        intro A3 c3 H7 w f _ _
        exact ⟨_, _, _, rfl, f.keeps (k26.trans k69) fun b hb => (o9.own.lt hb).1, w⟩
    · rintro B m d _ H11 ⟨k211, own⟩
      simp -zeta only [xL (k211.cel e2)]
      have hm := own.len
      have := numB_len (n : Int) (by omega)
      simp only [List.length_append, List.length_cons, List.length_nil] at hm
      refine app_bytes own ((hr.keeps isU8.mono k2).keeps isU8.mono k211) (by omega) (by have := k211.size; omega) ?_
      intro A7 c7 H12 w f _ _
      refine ⟨_, _, _, rfl, _, _, _, rfl, ?_, k2.trans (f.keeps k211 fun b hb => (own.own.lt hb).1)⟩
      rw [filtL, if_neg (by simp [ha.1]), if_neg (by omega), hl]
      exact w.base_le k2.size
  · exfalso
    have := filtKind_right all hashes n
    rw [hf] at this
    simp only [filtKind] at h h2 h3 this; grind
end Go.Proofs.Ytkkjjjgcfnhabaa.Eng
namespace Go.Proofs.Ytkkjjjgcfnhabaa.Eng
open Go Go.Proofs
theorem f167.spec (φ : Fx) (all : Bool) (hashes : Int) (A : Option Addr) (n c : Nat) (data : List Int) (H : Hp) (hr : bytesR H A n data) (hf : filtRight all hashes n = true) :
    HCalls cx.P φ 167 [.agg #[.bool all, .int .i64 hashes, .slice A n c]] H fun r H' => ∃ A' m c', r = .tuple #[.slice A' m c', .int .i64 0] ∧ ownB H' H.size A' m c' (filtL all hashes data) ∧ Keeps H H' := by
  apply f167.of
  unfold f167.VC
  intro H1
  have e0 : cel H1 H.size 0 = some (.bool all) := cel_new ..
  have e1 : cel H1 H.size (0 + 1) = some (.int .i64 hashes) := cel_new ..
  have e2 : cel H1 H.size (0 + 2) = some (.slice A n c) := cel_new ..
  have k1 : Keeps H H1 := Keeps.push ..
  clear_value H1
  have hl := hr.1
  simp -zeta only [xB e0, xI e1, xL e2]
  refine HCalls.mono (f89.spec φ all hashes A n c H1) ?_
  rintro v H2 ⟨rfl, k12⟩
  have k2 := k1.trans k12
  have e0 := k12.cel e0
  have e1 := k12.cel e1
  have e2 := k12.cel e2
  rw [hf]
  refine ⟨_, rfl, fun h => by simp at h, fun _ => ?_⟩
  simp -zeta only [xB e0, xL e2]
  refine ⟨fun ha => ?_, fun ha => ⟨fun h2 => ?_, fun h3 => ?_⟩⟩
  · intro H3
    refine ⟨_, _, _, rfl, ?_, k2.trans (Keeps.push ..)⟩
    rw [filtL, if_pos ha]
    exact (ownB_lit H2 255 (by omega)).base_le k2.size
  · intro H3
    simp only [decide_eq_true_eq] at h2
    refine ⟨_, _, _, rfl, ?_, k2.trans (Keeps.push ..)⟩
    rw [filtL, if_neg (by simp [ha]), if_pos (by omega)]
    exact (ownB_lit H2 0 (by omega)).base_le k2.size
  · simp only [decide_eq_false_iff_not] at h3
    have hb : 1 ≤ n ∧ n ≤ 4096 ∧ 1 ≤ hashes ∧ hashes ≤ 8 := by simp only [filtRight] at hf; grind
    refine ⟨fun B m d H' => Keeps H2 H' ∧ ownB H' H2.size B m d ([hashes % 256] ++ numB n), ?_, ?_⟩
    · simp -zeta only [xI e1, xL e2]
      constructor
      · intro H5
        have k25 : Keeps H2 H5 := Keeps.push ..
        have o5 : ownB H5 H2.size (some ⟨H2.size, 0, none⟩) 1 1 [hashes % 256] := by
          have := ownB_lit H2 (hashes % 256) (by omega)
          rw [← wrap_u8] at this; rw [← wrap_u8]; exact this
        clear_value H5
        refine ⟨?_, HCalls.mono (f174.spec φ n H5 (by omega)) ?_⟩
        · intro j u hu
          match j, hu with
          | 0, hu => simp at hu; subst hu; exact k25.cel e2
        rintro r H6 ⟨A2, n2, c2, rfl, o6, k56⟩
        have := o6.len
        have := numB_len (n : Int) (by omega)
        refine ⟨_, _, _, rfl, app_bytes (o5.keeps k56) o6.row (by omega) (by have := k25.size; have := k56.size; omega) ?_⟩
        intro A3 c3 H7 w f _ _
        exact ⟨_, _, _, rfl, f.keeps (k25.trans k56) fun b hb => (o5.own.lt hb).1, w⟩
      · refine HCalls.mono (f174.spec φ n H2 (by omega)) ?_
        rintro r H6 ⟨A2, n2, c2, rfl, o6, k26⟩
        refine ⟨_, _, _, rfl, ?_, ?_⟩
        · intro j u hu
          match j, hu with
          | 0, hu => simp at hu; subst hu; exact k26.cel e1
        intro H9
        have k69 : Keeps H6 H9 := Keeps.push ..
        have o9 : ownB H9 H6.size (some ⟨H6.size, 0, none⟩) 1 1 [hashes % 256] := by
          have := ownB_lit H6 (hashes % 256) (by omega)
          rw [← wrap_u8] at this; rw [← wrap_u8]; exact this
        clear_value H9
        have := o6.len
        have := numB_len (n : Int) (by omega)
        have o9 := o9.base_le k26.size
        refine app_bytes o9 (o6.keeps k69).row (by omega) (by have := k26.size; have := k69.size; omega) ?_
        intro A3 c3 H7 w f _ _
        exact ⟨_, _, _, rfl, f.keeps (k26.trans k69) fun b hb => (o9.own.lt hb).1, w⟩
    · rintro B m d _ H11 ⟨k211, own⟩
      simp -zeta only [xL (k211.cel e2)]
      have hm := own.len
      have := numB_len (n : Int) (by omega)
      simp only [List.length_append, List.length_cons, List.length_nil] at hm
      refine app_bytes own ((hr.keeps isU8.mono k2).keeps isU8.mono k211) (by omega) (by have := k211.size; omega) ?_
      intro A7 c7 H12 w f _ _
      refine ⟨_, _, _, rfl, _, _, _, rfl, ?_, k2.trans (f.keeps k211 fun b hb => (own.own.lt hb).1)⟩
      rw [filtL, if_neg (by simp [ha]), if_neg (by omega), hl]
      exact w.base_le k2.size
/-- A number behind owned bytes: the rest of the memory but the buffer stays. -/
theorem f166.spec (φ : Fx) (A : Option Addr) (n c base : Nat) (v : Int) (xs : List Int) (H : Hp) (own : ownB H base A n c xs) (hbase : base ≤ H.size) (hv : v ≤ 9223372036854775807) (hn : n ≤ 140737488350000) :
    HCalls cx.P φ 166 [.slice A n c, .int .i64 v] H fun r H' => ∃ A' n' c', r = .slice A' n' c' ∧ ownB H' base A' n' c' (xs ++ numB v) ∧ offA A H H' ∧ (A' = A ∨ ∃ q, H.size ≤ q ∧ A' = some ⟨q, 0, none⟩) := by
  apply f166.of
  unfold f166.VC
  refine HCalls.mono (f174.spec φ v H hv) ?_
  rintro r H1 ⟨A1, n1, c1, rfl, o1, k1⟩
  have := o1.len
  have := numB_len v hv
  refine ⟨_, _, _, rfl, app_bytes (own.keeps k1) o1.row (by omega) (by have := k1.size; omega) ?_⟩
  intro A2 c2 H2 w f e _
  refine ⟨_, _, _, rfl, _, _, _, rfl, w, ⟨Nat.le_trans k1.size f.1, fun k hk ha => ?_⟩, ?_⟩
  · rw [f.2 k (Nat.lt_of_lt_of_le hk k1.size) ha]; exact k1.old k hk
  · rcases e with e | e
    · exact Or.inl e
    · exact Or.inr ⟨_, k1.size, e⟩
end Go.Proofs.Ytkkjjjgcfnhabaa.Eng
namespace Go.Proofs.Ytkkjjjgcfnhabaa.Eng
open Go Go.Proofs
def sumSB : List Blk → Int
  | [] => 0
  | b :: r => b.st + 5 + sumSB r
def sumS : List PI → Int
  | [] => 0
  | p :: r => sumSB p.bs + sumS r
theorem sumSB_bd : ∀ (bs : List Blk), (∀ b ∈ bs, 1 ≤ b.st ∧ b.st ≤ 65536) → 0 ≤ sumSB bs ∧ sumSB bs ≤ 65541 * bs.length
  | [], _ => by simp [sumSB]
  | b :: r, h => by
    have := sumSB_bd r fun x hx => h x (List.mem_cons_of_mem _ hx)
    have := h b List.mem_cons_self
    simp only [sumSB, List.length_cons]; omega
theorem sumS_bd : ∀ (xs : List PI), (∀ x ∈ xs, ∀ b ∈ x.bs, 1 ≤ b.st ∧ b.st ≤ 65536) → 0 ≤ sumS xs ∧ sumS xs ≤ 65541 * sumB xs
  | [], _ => by simp [sumS, sumB]
  | p :: r, h => by
    have := sumS_bd r fun x hx => h x (List.mem_cons_of_mem _ hx)
    have := sumSB_bd p.bs (h p List.mem_cons_self)
    simp only [sumS, sumB]; omega
theorem drop_mem {α : Type} {l : List α} {n : Nat} {x : α} (h : x ∈ l.drop n) : x ∈ l := List.mem_of_mem_drop h
theorem f114.spec (φ : Fx) (parts : Int) (A : Option Addr) (n c : Nat) (xs : List PI) (H : Hp) (hr : rowR isPI 5 H A n xs) (hn : n ≤ 140737488351232) (hst : ∀ x ∈ xs, ∀ b ∈ x.bs, 1 ≤ b.st ∧ b.st ≤ 65536) (hsum : sumB xs ≤ 262144) :
    HCalls cx.P φ 114 [.agg #[.int .i64 parts, .slice A n c]] H fun r H' => r = .int .i64 (sumS xs) ∧ Keeps H H' := by
  apply f114.of
  unfold f114.VC
  intro H1
  have e1 : cel H1 H.size (0 + 1) = some (.slice A n c) := cel_new ..
  have k1 : Keeps H H1 := Keeps.push ..
  clear_value H1
  have hall := sumS_bd xs hst
  simp -zeta only [xL e1]
  refine ⟨fun s i H' => Keeps H1 H' ∧ 0 ≤ i ∧ i ≤ n ∧ 0 ≤ s ∧ s + sumS (xs.drop i.toNat) = sumS xs, fun _ i _ => (n - i).toNat, ⟨Keeps.refl _, by omega, by omega, by omega, by simp⟩, ?_⟩
  rintro s i _ H3 ⟨k3, h0, h1, hs0, hs⟩
  refine ⟨fun hi => ?_, fun hi => ?_⟩
  · simp only [decide_eq_true_eq] at hi
    obtain ⟨x, b, o, hx, rfl, BA, Bn, Bc, DA, Dn, Dc, c0, c1, c2, c3, c4, rb, rd, bn, dn⟩ := (hr.keeps isPI.mono (k1.trans k3)).at h0 hi
    rw [drop_at hx, sumS] at hs
    have hxm : x ∈ xs := List.mem_iff_getElem?.2 ⟨_, hx⟩
    have hrest := sumS_bd (xs.drop (i.toNat + 1)) fun y hy => hst y (drop_mem hy)
    have hxs := hst x hxm
    simp -zeta only [xA, xI c0, xL c1, xB c2, xI c3, xL c4]
    refine ⟨⟨h0, hi⟩, ?_⟩
    intro H4
    refine ⟨canPut_new _ _ _ _ _ (by simp) (by simp [Value.oneCell']), ?_⟩
    intro H5
    have hH5 : H5 = H3.push (.cells #[.int .i64 x.part, .slice BA Bn Bc, .bool x.all, .int .i64 x.hs, .slice DA Dn Dc] 146 (0, 0)) := hput_new _ _ _ _ _ (by simp)
    have d1 : cel H5 H3.size (0 + 1) = some (.slice BA Bn Bc) := by rw [hH5]; exact cel_new ..
    have k35 : Keeps H3 H5 := by rw [hH5]; exact Keeps.push ..
    have k5 : Keeps H1 H5 := k3.trans k35
    clear hH5
    clear_value H5 H4
    have lb := rb.1
    simp -zeta only [xL d1]
    refine ⟨fun t k H' => Keeps H5 H' ∧ 0 ≤ k ∧ k ≤ Bn ∧ 0 ≤ t ∧ t + sumSB (x.bs.drop k.toNat) = s + sumSB x.bs, fun _ k _ => (Bn - k).toNat, ⟨Keeps.refl _, by omega, by omega, by omega, by simp⟩, ?_⟩
    rintro t k _ H6 ⟨k56, hk0, hk1, ht0, ht⟩
    have k6 := k5.trans k56
    refine ⟨fun hk => ?_, fun hk => ?_⟩
    · simp only [decide_eq_true_eq] at hk
      obtain ⟨y, b2, o2, hy2, rfl, s0, s1, s2, s3, s4⟩ := (rb.keeps isBlk.mono (k35.trans k56)).at hk0 hk
      rw [drop_at hy2, sumSB] at ht
      have hy := hxs y (List.mem_iff_getElem?.2 ⟨_, hy2⟩)
      have hrest2 := sumSB_bd (x.bs.drop (k.toNat + 1)) fun z hz => hxs z (drop_mem hz)
      simp -zeta only [xA, xI s0, xI s1, xI s2, xS s3]
      refine ⟨⟨hk0, hk⟩, ?_⟩
      intro G9
      refine ⟨canPut_new _ _ _ _ _ (by simp) (by simp [Value.oneCell']), ?_⟩
      intro G10
      have hG : G10 = H6.push (.cells #[.int .i64 y.st, .int .i64 y.raw, .int .i64 y.cnt, .string y.cut] 150 (0, 0)) := hput_new _ _ _ _ _ (by simp)
      have q0 : cel G10 H6.size 0 = some (.int .i64 y.st) := by rw [hG]; exact cel_new ..
      have k8g : Keeps H6 G10 := by rw [hG]; exact Keeps.push ..
      clear hG
      clear_value G10 G9
      simp -zeta only [xI q0]
      refine ⟨by omega, by omega, by omega, ⟨k56.trans k8g, by omega, by omega, by omega, ?_⟩, by omega⟩
      rw [show (k + 1).toNat = k.toNat + 1 by omega]; omega
    · simp only [decide_eq_false_iff_not] at hk
      rw [List.drop_eq_nil_of_le (by omega), sumSB] at ht
      refine ⟨by omega, ⟨k6, by omega, by omega, by omega, ?_⟩, by omega⟩
      rw [show (i + 1).toNat = i.toNat + 1 by omega]; omega
  · simp only [decide_eq_false_iff_not] at hi
    rw [List.drop_eq_nil_of_le (by rw [hr.1]; omega), sumS] at hs
    exact ⟨by congr 1; omega, k1.trans k3⟩
end Go.Proofs.Ytkkjjjgcfnhabaa.Eng
namespace Go.Proofs.Ytkkjjjgcfnhabaa.Eng
open Go Go.Proofs
theorem f118.spec (φ : Fx) (parts : Int) (A : Option Addr) (n c : Nat) (xs : List PI) (H : Hp) (hr : rowR isPI 5 H A n xs) (hn : n ≤ 140737488351232) (hst : ∀ x ∈ xs, ∀ b ∈ x.bs, 1 ≤ b.st ∧ b.st ≤ 65536) (hsum : sumB xs ≤ 262144) :
    HCalls cx.P φ 118 [.agg #[.int .i64 parts, .slice A n c]] H fun r H' => r = .int .i64 (sumS xs) ∧ Keeps H H' := by
  apply f118.of
  unfold f118.VC
  intro H1
  have e1 : cel H1 H.size (0 + 1) = some (.slice A n c) := cel_new ..
  have k1 : Keeps H H1 := Keeps.push ..
  clear_value H1
  have hall := sumS_bd xs hst
  refine ⟨fun s i H' => H' = H1 ∧ 0 ≤ i ∧ i ≤ n ∧ 0 ≤ s ∧ s + sumS (xs.drop i.toNat) = sumS xs, fun _ i _ => (n - i).toNat, ⟨rfl, by omega, by omega, by omega, by simp⟩, ?_⟩
  rintro s i _ H3 ⟨rfl, h0, h1, hs0, hs⟩
  simp -zeta only [xL e1]
  refine ⟨fun hi => ?_, fun hi => ?_⟩
  · simp only [decide_eq_true_eq] at hi
    obtain ⟨x, b, o, hx, rfl, BA, Bn, Bc, DA, Dn, Dc, c0, c1, c2, c3, c4, rb, rd, bn, dn⟩ := (hr.keeps isPI.mono k1).at h0 hi
    rw [drop_at hx, sumS] at hs
    have hxm : x ∈ xs := List.mem_iff_getElem?.2 ⟨_, hx⟩
    have hrest := sumS_bd (xs.drop (i.toNat + 1)) fun y hy => hst y (drop_mem hy)
    have hxs := hst x hxm
    have lb := rb.1
    refine ⟨fun t k H' => H' = H3 ∧ 0 ≤ k ∧ k ≤ Bn ∧ 0 ≤ t ∧ t + sumSB (x.bs.drop k.toNat) = s + sumSB x.bs, fun _ k _ => (Bn - k).toNat, ⟨rfl, by omega, by omega, by omega, by simp⟩, ?_⟩
    rintro t k _ H6 ⟨rfl, hk0, hk1, ht0, ht⟩
    simp -zeta only [xL e1, xA, xL c1]
    refine ⟨⟨h0, hi⟩, fun hk => ?_, fun hk => ?_⟩
    · simp only [decide_eq_true_eq] at hk
      obtain ⟨y, b2, o2, hy2, rfl, s0, s1, s2, s3, s4⟩ := rb.at hk0 hk
      rw [drop_at hy2, sumSB] at ht
      have hy := hxs y (List.mem_iff_getElem?.2 ⟨_, hy2⟩)
      have hrest2 := sumSB_bd (x.bs.drop (k.toNat + 1)) fun z hz => hxs z (drop_mem hz)
      simp -zeta only [xA, xI s0]
      refine ⟨⟨h0, hi⟩, ⟨hk0, hk⟩, by omega, by omega, by omega, ⟨trivial, by omega, by omega, by omega, ?_⟩, by omega⟩
      rw [show (k + 1).toNat = k.toNat + 1 by omega]; omega
    · simp only [decide_eq_false_iff_not] at hk
      rw [List.drop_eq_nil_of_le (by omega), sumSB] at ht
      refine ⟨by omega, ⟨trivial, by omega, by omega, by omega, ?_⟩, by omega⟩
      rw [show (i + 1).toNat = i.toNat + 1 by omega]; omega
  · simp only [decide_eq_false_iff_not] at hi
    rw [List.drop_eq_nil_of_le (by rw [hr.1]; omega), sumS] at hs
    exact ⟨by congr 1; omega, k1⟩
end Go.Proofs.Ytkkjjjgcfnhabaa.Eng
namespace Go.Proofs.Ytkkjjjgcfnhabaa.Eng
open Go Go.Proofs
def blksL : ByteArray → List Blk → List Int
  | _, [] => []
  | key, b :: r => (numB b.st ++ numB b.raw ++ numB b.cnt ++ numB (com key b.cut) ++ numB (b.cut.size - com key b.cut) ++ strB (b.cut.extract (com key b.cut).toNat b.cut.size)) ++ blksL b.cut r
def infosL : Int → List PI → List Int
  | _, [] => []
  | last, p :: r => (numB (p.part - last - 1) ++ numB (filtL p.all p.hs p.data).length ++ filtL p.all p.hs p.data ++ numB p.bs.length ++ blksL ⟨#[]⟩ p.bs) ++ infosL p.part r
def bodyL (parts : Int) (xs : List PI) : List Int := numB parts ++ numB xs.length ++ infosL (-1) xs
/-- The variable b holds bytes that the function owns. -/
def outS (H : Hp) (b base : Nat) (xs : List Int) : Prop := ∃ A n c, objAt H b #[.slice A n c] 59 ∧ ownB H base A n c xs
/-- All else stays: what is below base, and what is no row of bytes. -/
structure oF (b base : Nat) (H H' : Hp) : Prop where
  size : H.size ≤ H'.size
  same : ∀ k, k < H.size → k ≠ b → (k < base ∨ ∀ cs, ¬ objAt H k cs 5) → H'[k]? = H[k]?
theorem oF.refl (b base : Nat) (H : Hp) : oF b base H H := ⟨Nat.le_refl _, fun _ _ _ _ => rfl⟩
theorem oF.trans {b base : Nat} {H H' H'' : Hp} (h : oF b base H H') (k : oF b base H' H'') : oF b base H H'' :=
  ⟨Nat.le_trans h.size k.size, fun i hi hb hc => by
    have e := h.same i hi hb hc
    rw [k.same i (Nat.lt_of_lt_of_le hi h.size) hb ?_]
    · exact e
    · rcases hc with q | q
      · exact Or.inl q
      · exact Or.inr fun cs o => q cs (by unfold objAt at o ⊢; rw [← e]; exact o)⟩
theorem Keeps.oF {b base : Nat} {H H' : Hp} (k : Keeps H H') : Go.Proofs.Ytkkjjjgcfnhabaa.Eng.oF b base H H' := ⟨k.size, fun i hi _ _ => k.old i hi⟩
theorem outT.oF {b base : Nat} {A A' : Option Addr} {H H' : Hp} {n c : Nat} {xs : List Int} (h : outT b A A' H H') (own : ownB H base A n c xs) : Go.Proofs.Ytkkjjjgcfnhabaa.Eng.oF b base H H' :=
  ⟨h.size, fun k hk hb hc => h.same k hk hb fun e => by
    obtain ⟨_, _, q | ⟨b1, cs1, hb1, e1, o1, _⟩⟩ := own.own
    · rw [q.1] at e; cases e
    · rw [e1] at e; cases e
      rcases hc with q | q
      · omega
      · exact q _ o1⟩
theorem oF.obj {b base : Nat} {H H' : Hp} (h : oF b base H H') {k : Nat} {cs : Array Value} {t : TypeId} (o : objAt H k cs t) (hb : k ≠ b) (ht : t ≠ 5) : objAt H' k cs t := by
  have hk := objAt_lt o
  unfold objAt at o ⊢
  rw [h.same k hk hb (Or.inr fun cs' o' => by unfold objAt at o'; rw [o] at o'; cases o'; exact ht rfl)]; exact o
theorem oF.keeps {b base : Nat} {G H H' : Hp} (h : oF b base H H') (k : Keeps G H) (hb : G.size ≤ b) (hg : G.size ≤ base) : Keeps G H' :=
  ⟨Nat.le_trans k.size h.size, fun i hi => by
    rw [h.same i (Nat.lt_of_lt_of_le hi k.size) (by omega) (Or.inl (by omega))]; exact k.old i hi⟩
theorem outS.len {H : Hp} {b base : Nat} {xs : List Int} (h : outS H b base xs) : ∃ A c, objAt H b #[.slice A xs.length c] 59 ∧ ownB H base A xs.length c xs := by
  obtain ⟨A, n, c, h1, h2⟩ := h
  have := h2.len
  subst this
  exact ⟨A, c, h1, h2⟩
theorem outS.keeps {H H' : Hp} {b base : Nat} {xs : List Int} (h : outS H b base xs) (k : Keeps H H') : outS H' b base xs := by
  obtain ⟨A, n, c, h1, h2⟩ := h
  exact ⟨A, n, c, k.obj h1, h2.keeps k⟩
/-- Owned bytes that came behind the variable's buffer stay. -/
def laterB (b : Nat) (H H' : Hp) : Prop := ∀ (base2 : Nat) (A2 : Option Addr) (n2 c2 : Nat) (ys : List Int), (∀ A n c, objAt H b #[.slice A n c] 59 → ∀ q, A = some ⟨q, 0, none⟩ → q < base2) → b < base2 → ownB H base2 A2 n2 c2 ys → ownB H' base2 A2 n2 c2 ys
theorem outT.later {b : Nat} {A A' : Option Addr} {H H' : Hp} {n c : Nat} (h : outT b A A' H H') (ob : objAt H b #[.slice A n c] 59) : laterB b H H' := fun base2 A2 n2 c2 ys hq hb o =>
  ⟨o.own.frame fun k hk => h.same k (o.own.lt hk).2 (by have := (o.own.lt hk).1; omega) (fun e => by have := hq A n c ob k e; have := (o.own.lt hk).1; omega), o.rng⟩
/-- Numbers are put. -/
theorem put_nums (φ : Fx) {H : Hp} {b base : Nat} {xs : List Int} (h : outS H b base xs) (hbase : base ≤ H.size) (ns : List Int) (hns : ∀ v ∈ ns, v ≤ 9223372036854775807) (hlen : xs.length + 9 * ns.length ≤ 140737488355328) {K : Value → Hp → Prop}
    (hK : ∀ H', outS H' b base (xs ++ ns.flatMap numB) → oF b base H H' → laterB b H H' → K (.tuple #[]) H') :
    HCalls cx.P φ 160 [.slice (some ⟨H.size, 0, none⟩) ns.length ns.length, .pointer (some ⟨b, 0, none⟩)] (H.push (.cells (ns.map (Value.int .i64)).toArray 3 (0, 0))) K := by
  obtain ⟨A, c, ob, own⟩ := h.len
  have k := Keeps.push H (.cells (ns.map (Value.int .i64)).toArray 3 (0, 0))
  refine HCalls.mono (f160.spec φ b base H.size ns A _ c xs _ (k.obj ob) (own.keeps k) (by have := k.size; omega) (objAt_new ..) hns hlen) ?_
  rintro v H' ⟨rfl, A', n', c', o', w', t'⟩
  exact hK H' ⟨A', n', c', o', w'⟩ (k.oF.trans (t'.oF (own.keeps k))) ((k.out.trans t').later ob)
/-- The variable's own append and store. -/
theorem out_app {H : Hp} {b base : Nat} {A : Option Addr} {n c : Nat} {xs : List Int} (ob : objAt H b #[.slice A n c] 59) (own : ownB H base A n c xs) {A' : Option Addr} {n' c' : Nat} {ys : List Int} {H1 : Hp}
    (w : ownB H1 base A' n' c' ys) (f : offA A H H1) (e : A' = A ∨ A' = some ⟨H.size, 0, none⟩) :
    canPut H1 b 0 [.slice A' n' c'] ∧ outS (hput H1 b 0 [.slice A' n' c']) b base ys ∧ oF b base H (hput H1 b 0 [.slice A' n' c']) := by
  have ob1 : objAt H1 b #[.slice A n c] 59 := by
    unfold objAt; rw [f.2 b (objAt_lt ob) ?_]; exact ob
    intro e
    obtain ⟨_, _, q | ⟨b1, cs1, _, q1, o1, _⟩⟩ := own.own
    · rw [q.1] at e; cases e
    · rw [q1] at e; cases e; unfold objAt at o1 ob; rw [ob] at o1; cases o1
  refine ⟨objAt_canPut ob1 (by simp) (by simp [Value.oneCell']), ⟨A', n', c', objAt_hput ob1 0 _, w.own.frame fun k hk => hput_other (fun e => by
    subst e
    obtain ⟨_, _, q | ⟨b1, cs1, _, q1, o1, _⟩⟩ := w.own
    · rw [q.1] at hk; cases hk
    · rw [q1] at hk; cases hk; unfold objAt at o1 ob1; rw [ob1] at o1; cases o1), w.rng⟩, (out_put (A := A) (A' := A') (n := 0) (c := 0) f e _).oF own⟩
end Go.Proofs.Ytkkjjjgcfnhabaa.Eng
namespace Go.Proofs.Ytkkjjjgcfnhabaa.Eng
open Go Go.Proofs
/-- What a right footer's parts are, as far as the encoders ask. -/
structure encOK (xs : List PI) : Prop where
  part : ∀ x ∈ xs, 0 ≤ x.part ∧ x.part ≤ 65535
  filt : ∀ x ∈ xs, filtRight x.all x.hs x.data.length = true
  blk : ∀ x ∈ xs, ∀ b ∈ x.bs, b.right = true
theorem right_bd {b : Blk} (h : b.right = true) : 1 ≤ b.st ∧ b.st ≤ 65536 ∧ 1 ≤ b.raw ∧ b.raw ≤ 65536 ∧ 1 ≤ b.cnt ∧ b.cnt ≤ 65536 ∧ b.cut.size ≤ 64 := by
  simp only [Blk.right, blkRight, Bool.and_eq_true, decide_eq_true_eq] at h; omega
theorem com_bd (a b : ByteArray) : 0 ≤ com a b ∧ com a b ≤ a.size ∧ com a b ≤ b.size := by
  have := comL_le a.data.toList b.data.toList
  have := len_data a
  have := len_data b
  simp only [com]; omega
theorem f113.spec (φ : Fx) (parts : Int) (A : Option Addr) (n c : Nat) (xs : List PI) (H : Hp) (hr : rowR isPI 5 H A n xs) (hn : n ≤ 140737488351232) (hp : 0 ≤ parts ∧ parts ≤ 65535) (ok : encOK xs) (hB : (bodyL parts xs).length ≤ 1099511627776) :
    HCalls cx.P φ 113 [.agg #[.int .i64 parts, .slice A n c]] H fun r H' => ∃ A' m c', r = .slice A' m c' ∧ ownB H' H.size A' m c' (bodyL parts xs) ∧ Keeps H H' := by
  apply f113.of
  unfold f113.VC
  intro H1
  have o1 : objAt H1 H.size #[.int .i64 parts, .slice A n c] 24 := objAt_new ..
  have k1 : Keeps H H1 := Keeps.push ..
  have z1 : H1.size = H.size + 1 := by simp [H1]
  clear_value H1
  intro H2
  have o2 : objAt H2 H1.size #[.slice none 0 0] 59 := objAt_new ..
  have k12 : Keeps H1 H2 := Keeps.push ..
  have z2 : H2.size = H1.size + 1 := by simp [H2]
  clear_value H2
  have o1 := k12.obj o1
  have k2 := k1.trans k12
  have e0 : cel H2 H.size 0 = some (.int .i64 parts) := by rw [objAt_cel o1]; rfl
  have e1 : cel H2 H.size (0 + 1) = some (.slice A n c) := by rw [objAt_cel o1]; rfl
  have out2 : outS H2 H1.size H2.size [] := ⟨none, 0, 0, o2, ownB_nil ..⟩
  have hxn := hr.1
  simp -zeta only [xI e0, xL e1]
  intro H3
  refine put_nums φ out2 (Nat.le_refl _) [parts, (n : Int)] (by intro v hv; simp at hv; rcases hv with e | e <;> subst e <;> omega) (by simp) ?_
  intro H4 out4 f24 _
  refine ⟨rfl, ?_⟩
  have o4 := f24.obj o1 (by omega) (by decide)
  have e1 : cel H4 H.size (0 + 1) = some (.slice A n c) := by rw [objAt_cel o4]; rfl
  simp -zeta only [xL e1]
  refine ⟨fun last i H' => 0 ≤ i ∧ i ≤ n ∧ -1 ≤ last ∧ last ≤ 65535 ∧ oF H1.size H2.size H2 H' ∧ ∃ ys, outS H' H1.size H2.size ys ∧ ys ++ infosL last (xs.drop i.toNat) = bodyL parts xs, fun _ i _ => (n - i).toNat,
    ⟨by omega, by omega, by omega, by omega, f24, _, out4, by simp [bodyL, hxn]⟩, ?_⟩
  rintro last i _ H5 ⟨h0, h1, hl0, hl1, f5, ys, out5, hys⟩
  have k5 : Keeps H H5 := f5.keeps k2 (by omega) (by omega)
  refine ⟨fun hi => ?_, fun hi => ?_⟩
  · simp only [decide_eq_true_eq] at hi
    obtain ⟨x, b, o, hx, rfl, BA, Bn, Bc, DA, Dn, Dc, c0, c1, c2, c3, c4, rb, rd, bn, dn⟩ := hr.at h0 hi
    have c0 := k5.cel c0
    have c1 := k5.cel c1
    have c2 := k5.cel c2
    have c3 := k5.cel c3
    have c4 := k5.cel c4
    rw [drop_at hx, infosL] at hys
    have hxm : x ∈ xs := List.mem_iff_getElem?.2 ⟨_, hx⟩
    have hpx := ok.part x hxm
    have hfx := ok.filt x hxm
    have hbx := ok.blk x hxm
    have lb := rb.1
    have ld := rd.1
    rw [ld] at hfx
    have hlen := congrArg List.length hys
    simp only [List.length_append] at hlen
    simp -zeta only [xA, xI c0, xL c1, xB c2, xI c3, xL c4]
    refine ⟨⟨h0, hi⟩, ?_⟩
    intro H6
    refine ⟨canPut_new _ _ _ _ _ (by simp) (by simp [Value.oneCell']), ?_⟩
    intro H7
    have hH7 : H7 = H5.push (.cells #[.int .i64 x.part, .slice BA Bn Bc, .bool x.all, .int .i64 x.hs, .slice DA Dn Dc] 146 (0, 0)) := hput_new _ _ _ _ _ (by simp)
    have o7 : objAt H7 H5.size #[.int .i64 x.part, .slice BA Bn Bc, .bool x.all, .int .i64 x.hs, .slice DA Dn Dc] 146 := by rw [hH7]; exact objAt_new ..
    have k57 : Keeps H5 H7 := by rw [hH7]; exact Keeps.push ..
    have z7 : H7.size = H5.size + 1 := by rw [hH7]; simp
    clear hH7
    clear_value H7 H6
    have d2 : cel H7 H5.size (0 + 2) = some (.bool x.all) := by rw [objAt_cel o7]; rfl
    have d3 : cel H7 H5.size (0 + 2 + 1) = some (.int .i64 x.hs) := by rw [objAt_cel o7]; rfl
    have d4 : cel H7 H5.size (0 + 2 + 2) = some (.slice DA Dn Dc) := by rw [objAt_cel o7]; rfl
    simp -zeta only [xB d2, xI d3, xL d4]
    refine HCalls.mono (f162.spec φ x.all x.hs DA Dn Dc x.data H7 ((rd.keeps isU8.mono k5).keeps isU8.mono k57) hfx) ?_
    rintro v H8 ⟨A3, n3, c3', rfl, own3, k78⟩
    refine ⟨_, _, _, _, rfl, ?_⟩
    have o8 := k78.obj o7
    have l3 := own3.len
    have p0 : cel H8 H5.size 0 = some (.int .i64 x.part) := by rw [objAt_cel o8]; rfl
    simp -zeta only [xI p0]
    refine ⟨by omega, by omega, ?_⟩
    intro H9
    have out8 := (out5.keeps k57).keeps k78
    have k58 := k57.trans k78
    refine put_nums φ out8 (by have := f5.size; have := k58.size; omega) [x.part - last - 1, (n3 : Int)] (by intro v hv; simp at hv; rcases hv with e | e <;> subst e <;> omega) (by simp; omega) ?_
    intro H10 out10 f810 later
    refine ⟨rfl, ?_⟩
    have own3' := later H7.size A3 n3 c3' _ (by
      intro A0 n0 c0' ho q hq
      obtain ⟨A1, n1, c1', ob1, w1⟩ := out5
      have ob8 := k58.obj ob1
      unfold objAt at ob8 ho
      rw [ob8] at ho; cases ho
      have := (w1.own.lt hq).2; omega) (by have := f5.size; omega) own3
    obtain ⟨A4, c4', ob10, w10⟩ := out10.len
    have ce10 : cel H10 H1.size 0 = some (.slice A4 (ys ++ [x.part - last - 1, (n3 : Int)].flatMap numB).length c4') := by rw [objAt_cel ob10]; rfl
    have m1 := numB_len (x.part - last - 1) (by omega)
    have m2 := numB_len (n3 : Int) (by omega)
    simp -zeta only [xL ce10]
    refine app_bytes w10 own3'.row (by simp; omega) (by have := f5.size; have := k58.size; have := f810.size; omega) ?_
    intro A5 c5 H11 w11 f11 e11 _
    refine ⟨_, _, _, rfl, ?_⟩
    obtain ⟨cp, out12, f1012⟩ := out_app ob10 w10 w11 f11 e11
    refine ⟨cp, ?_⟩
    intro H12
    have out12 : outS H12 H1.size H2.size _ := out12
    have f812 : oF H1.size H2.size H8 H12 := f810.trans f1012
    clear_value H12
    have hb5 : H5.size ≠ H1.size := by have := f5.size; omega
    have o12 := f812.obj o8 hb5 (by decide)
    have q1 : cel H12 H5.size (0 + 1) = some (.slice BA Bn Bc) := by rw [objAt_cel o12]; rfl
    simp -zeta only [xL q1]
    intro H13
    refine put_nums φ out12 (by have := f5.size; have := k58.size; have := f812.size; omega) [(Bn : Int)] (by intro v hv; simp at hv; subst hv; omega) (by simp; omega) ?_
    intro H14 out14 f1214 _
    refine ⟨rfl, ?_⟩
    have f814 := f812.trans f1214
    have o14 := f814.obj o8 hb5 (by decide)
    have q0 : cel H14 H5.size 0 = some (.int .i64 x.part) := by rw [objAt_cel o14]; rfl
    have q1 : cel H14 H5.size (0 + 1) = some (.slice BA Bn Bc) := by rw [objAt_cel o14]; rfl
    simp -zeta only [xI q0, xL q1]
    generalize hpre : ((ys ++ [x.part - last - 1, (n3 : Int)].flatMap numB) ++ filtL x.all x.hs x.data) ++ [(Bn : Int)].flatMap numB = pre at out14
    have hpre2 : (pre ++ blksL ⟨#[]⟩ x.bs) ++ infosL x.part (xs.drop (i.toNat + 1)) = bodyL parts xs := by
      rw [← hpre, ← hys, lb, l3]; simp [List.append_assoc]
    have hlen2 := congrArg List.length hpre2
    simp only [List.length_append] at hlen2
    have k514 : oF H1.size H2.size H5 H14 := k58.oF.trans f814
    refine ⟨fun key k H' => 0 ≤ k ∧ k ≤ Bn ∧ key.size ≤ 64 ∧ oF H1.size H2.size H14 H' ∧ ∃ zs, outS H' H1.size H2.size zs ∧ zs ++ blksL key (x.bs.drop k.toNat) = pre ++ blksL ⟨#[]⟩ x.bs, fun _ k _ => (Bn - k).toNat,
      ⟨by omega, by omega, Nat.zero_le _, oF.refl .., pre, out14, by simp⟩, ?_⟩
    rintro key k _ H15 ⟨hk0, hk1, hkey, f15, zs, out15, hzs⟩
    have f515 := k514.trans f15
    have k15 : Keeps H H15 := (f5.trans f515).keeps k2 (by omega) (by omega)
    have hlen3 := congrArg List.length hzs
    simp only [List.length_append] at hlen3
    refine ⟨fun hk => ?_, fun hk => ?_⟩
    · simp only [decide_eq_true_eq] at hk
      obtain ⟨y, b2, o2, hy2, rfl, s0, s1, s2, s3, s4⟩ := (rb.keeps isBlk.mono k15).at hk0 hk
      have hyr := right_bd (hbx y (List.mem_iff_getElem?.2 ⟨_, hy2⟩))
      rw [drop_at hy2, blksL] at hzs
      have hlen4 := congrArg List.length hzs
      simp only [List.length_append] at hlen4
      have hcm := com_bd key y.cut
      simp -zeta only [xA, xI s0, xI s1, xI s2, xS s3]
      refine ⟨⟨hk0, hk⟩, ?_⟩
      intro H16
      refine ⟨canPut_new _ _ _ _ _ (by simp) (by simp [Value.oneCell']), ?_⟩
      intro H17
      have hG : H17 = H15.push (.cells #[.int .i64 y.st, .int .i64 y.raw, .int .i64 y.cnt, .string y.cut] 150 (0, 0)) := hput_new _ _ _ _ _ (by simp)
      have o17 : objAt H17 H15.size #[.int .i64 y.st, .int .i64 y.raw, .int .i64 y.cnt, .string y.cut] 150 := by rw [hG]; exact objAt_new ..
      have k1517 : Keeps H15 H17 := by rw [hG]; exact Keeps.push ..
      clear hG
      clear_value H17 H16
      have t0 : cel H17 H15.size 0 = some (.int .i64 y.st) := by rw [objAt_cel o17]; rfl
      have t1 : cel H17 H15.size (0 + 1) = some (.int .i64 y.raw) := by rw [objAt_cel o17]; rfl
      have t2 : cel H17 H15.size (0 + 2) = some (.int .i64 y.cnt) := by rw [objAt_cel o17]; rfl
      have t3 : cel H17 H15.size (0 + 3) = some (.string y.cut) := by rw [objAt_cel o17]; rfl
      simp -zeta only [xS t3]
      refine HCalls.mono (f163.spec φ key y.cut (by omega) H17) ?_
      rintro v H18 ⟨rfl, rfl⟩
      refine ⟨_, rfl, ?_⟩
      simp -zeta only [xI t0, xI t1, xI t2, xS t3]
      refine ⟨by omega, ?_⟩
      intro H19
      have sz15 : H2.size ≤ H15.size := (f5.trans f515).size
      have n1 := numB_len y.st (by omega)
      have n2 := numB_len y.raw (by omega)
      have n3' := numB_len y.cnt (by omega)
      have n4 := numB_len (com key y.cut) (by omega)
      have n5 := numB_len (y.cut.size - com key y.cut) (by omega)
      refine put_nums φ (out15.keeps k1517) (by have := k1517.size; omega) [y.st, y.raw, y.cnt, com key y.cut, y.cut.size - com key y.cut] (by intro v hv; simp at hv; rcases hv with e | e | e | e | e <;> subst e <;> omega) (by simp; omega) ?_
      intro H20 out20 f1820 _
      refine ⟨rfl, ?_⟩
      obtain ⟨A8, c8, ob20, w20⟩ := out20.len
      have ce20 : cel H20 H1.size 0 = some (.slice A8 (zs ++ [y.st, y.raw, y.cnt, com key y.cut, y.cut.size - com key y.cut].flatMap numB).length c8) := by rw [objAt_cel ob20]; rfl
      have hb15 : H15.size ≠ H1.size := by omega
      have o20 := f1820.obj o17 hb15 (by decide)
      have t3 : cel H20 H15.size (0 + 3) = some (.string y.cut) := by rw [objAt_cel o20]; rfl
      simp -zeta only [xL ce20, xS t3]
      refine ⟨⟨by omega, by omega⟩, ?_⟩
      have hes : (y.cut.extract (com key y.cut).toNat y.cut.size).size ≤ 64 := by rw [ByteArray.size_extract]; omega
      refine app_str w20 (by simp; omega) (by have := k1517.size; have := f1820.size; omega) ?_
      intro A9 c9 H21 w21 f21 e21 _
      refine ⟨_, _, _, rfl, ?_⟩
      obtain ⟨cp, out22, f2022⟩ := out_app ob20 w20 w21 f21 e21
      refine ⟨cp, ?_⟩
      intro H22
      have out22 : outS H22 H1.size H2.size _ := out22
      have f1522 : oF H1.size H2.size H15 H22 := (k1517.oF.trans f1820).trans f2022
      have f1722 : oF H1.size H2.size H18 H22 := f1820.trans f2022
      clear_value H22
      have o22 := f1722.obj o17 hb15 (by decide)
      have t3 : cel H22 H15.size (0 + 3) = some (.string y.cut) := by rw [objAt_cel o22]; rfl
      simp -zeta only [xS t3]
      refine ⟨by omega, ⟨by omega, by omega, by omega, f15.trans f1522, _, out22, ?_⟩, by omega⟩
      rw [show (k + 1).toNat = k.toNat + 1 by omega, ← hzs]
      simp [List.append_assoc]
    · simp only [decide_eq_false_iff_not] at hk
      rw [List.drop_eq_nil_of_le (by omega), blksL, List.append_nil] at hzs
      refine ⟨by omega, ⟨by omega, by omega, by omega, by omega, f5.trans f515, zs, out15, ?_⟩, by omega⟩
      rw [show (i + 1).toNat = i.toNat + 1 by omega, hzs]; exact hpre2
  · simp only [decide_eq_false_iff_not] at hi
    rw [List.drop_eq_nil_of_le (by omega), infosL, List.append_nil] at hys
    obtain ⟨A10, n10, c10, ob, own⟩ := out5
    have ce : cel H5 H1.size 0 = some (.slice A10 n10 c10) := by rw [objAt_cel ob]; rfl
    simp only [xL ce]
    exact ⟨_, _, _, rfl, by rw [← hys]; exact own.base_le k2.size, k5⟩
end Go.Proofs.Ytkkjjjgcfnhabaa.Eng
namespace Go.Proofs.Ytkkjjjgcfnhabaa.Eng
open Go Go.Proofs
/-- All stays but rows of bytes from base on. -/
structure bF (base : Nat) (H H' : Hp) : Prop where
  size : H.size ≤ H'.size
  same : ∀ k, k < H.size → (k < base ∨ ∀ cs, ¬ objAt H k cs 5) → H'[k]? = H[k]?
theorem bF.refl (base : Nat) (H : Hp) : bF base H H := ⟨Nat.le_refl _, fun _ _ _ => rfl⟩
theorem bF.trans {base : Nat} {H H' H'' : Hp} (h : bF base H H') (k : bF base H' H'') : bF base H H'' :=
  ⟨Nat.le_trans h.size k.size, fun i hi hc => by
    have e := h.same i hi hc
    rw [k.same i (Nat.lt_of_lt_of_le hi h.size) ?_]
    · exact e
    · rcases hc with q | q
      · exact Or.inl q
      · exact Or.inr fun cs o => q cs (by unfold objAt at o ⊢; rw [← e]; exact o)⟩
theorem Keeps.bF {base : Nat} {H H' : Hp} (k : Keeps H H') : Go.Proofs.Ytkkjjjgcfnhabaa.Eng.bF base H H' := ⟨k.size, fun i hi _ => k.old i hi⟩
theorem offA.bF {base : Nat} {A : Option Addr} {H H' : Hp} {n c : Nat} {xs : List Int} (h : offA A H H') (own : ownB H base A n c xs) : Go.Proofs.Ytkkjjjgcfnhabaa.Eng.bF base H H' :=
  ⟨h.1, fun k hk hc => h.2 k hk fun e => by
    obtain ⟨_, _, q | ⟨b1, cs1, hb1, e1, o1, _⟩⟩ := own.own
    · rw [q.1] at e; cases e
    · rw [e1] at e; cases e
      rcases hc with q | q
      · omega
      · exact q _ o1⟩
theorem bF.obj {base : Nat} {H H' : Hp} (h : bF base H H') {k : Nat} {cs : Array Value} {t : TypeId} (o : objAt H k cs t) (ht : t ≠ 5) : objAt H' k cs t := by
  have hk := objAt_lt o
  unfold objAt at o ⊢
  rw [h.same k hk (Or.inr fun cs' o' => by unfold objAt at o'; rw [o] at o'; cases o'; exact ht rfl)]; exact o
theorem bF.keeps {base : Nat} {G H H' : Hp} (h : bF base H H') (k : Keeps G H) (hg : G.size ≤ base) : Keeps G H' :=
  ⟨Nat.le_trans k.size h.size, fun i hi => by
    rw [h.same i (Nat.lt_of_lt_of_le hi k.size) (Or.inl (by omega))]; exact k.old i hi⟩
/-- Other owned bytes that lie behind a buffer stay. -/
theorem offA.later {A A2 : Option Addr} {H H' : Hp} (h : offA A H H') {base2 n2 c2 : Nat} {ys : List Int} (hq : ∀ q, A = some ⟨q, 0, none⟩ → q < base2) (o : ownB H base2 A2 n2 c2 ys) : ownB H' base2 A2 n2 c2 ys :=
  ⟨o.own.frame fun k hk => h.2 k (o.own.lt hk).2 (fun e => by have := hq k e; have := (o.own.lt hk).1; omega), o.rng⟩
end Go.Proofs.Ytkkjjjgcfnhabaa.Eng
