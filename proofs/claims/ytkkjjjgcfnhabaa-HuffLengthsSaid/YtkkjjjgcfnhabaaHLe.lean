/- Part HLe of the proof of the claim in this folder: a way to walk code, and the contracts of the functions that the law reaches. Conditions: none. -/
import Derived.Test.YtkkjjjgcfnhabaaHLd
set_option linter.unusedVariables false
set_option linter.unusedSimpArgs false
set_option maxRecDepth 10000
namespace Go.Proofs.Ytkkjjjgcfnhabaa.Eng
open Go Go.Proofs
/-! ### Short numbers read -/
def getG : Nat → Int → List Int → Int × Int × Int
  | _, _, [] => (0, 0, 20)
  | i, v, c :: r => if i = 8 ∧ 128 ≤ c then (0, 0, 21) else if c < 128 then (if c = 0 ∧ 0 < i then (0, 0, 21) else (v + c % 128 * 2 ^ (7 * i), i + 1, 0)) else getG (i + 1) (v + c % 128 * 2 ^ (7 * i)) r
def getL (xs : List Int) : Int × Int × Int := getG 0 0 xs
theorem pow7 (i : Nat) : (2 : Int) ^ (7 * (i + 1)) = 2 ^ (7 * i) * 128 := by
  rw [show 7 * (i + 1) = 7 * i + 7 by omega, Int.pow_add]; rfl
theorem pow7_le {i : Nat} (h : i ≤ 8) : (2 : Int) ^ (7 * i) ≤ 72057594037927936 := by
  have : (2 : Int) ^ (7 * i) ≤ 2 ^ 56 := by exact_mod_cast Nat.pow_le_pow_right (by decide : 0 < 2) (show 7 * i ≤ 56 by omega)
  have e : (2 : Int) ^ 56 = 72057594037927936 := by decide
  omega
theorem pow_pos' (k : Nat) : (0 : Int) < 2 ^ k := Int.pow_pos (by decide)
theorem step7 {i : Nat} {v c : Int} (hi : i ≤ 8) (h0 : 0 ≤ v) (h1 : v < 2 ^ (7 * i)) (hc : 0 ≤ c ∧ c < 256) : 0 ≤ c % 128 * 2 ^ (7 * i) ∧ c % 128 * 2 ^ (7 * i) ≤ 9151314442816847872 ∧ 0 ≤ v + c % 128 * 2 ^ (7 * i) ∧ v + c % 128 * 2 ^ (7 * i) < 2 ^ (7 * (i + 1)) := by
  have hp := pow_pos' (7 * i)
  have hl := pow7_le hi
  rw [pow7]
  have h2 : c % 128 ≤ 127 := by omega
  have h3 : 0 ≤ c % 128 := by omega
  have a := Int.mul_nonneg h3 (Int.le_of_lt hp)
  have b : c % 128 * 2 ^ (7 * i) ≤ 127 * 2 ^ (7 * i) := Int.mul_le_mul_of_nonneg_right h2 (Int.le_of_lt hp)
  omega
theorem getG_spec : ∀ (xs : List Int) (i : Nat) (v : Int), i ≤ 8 → 0 ≤ v → v < 2 ^ (7 * i) → (∀ x ∈ xs, 0 ≤ x ∧ x < 256) →
    ((getG i v xs).2.2 = 0 ∧ (i : Int) < (getG i v xs).2.1 ∧ (getG i v xs).2.1 ≤ i + xs.length ∧ (getG i v xs).2.1 ≤ 9 ∧ 0 ≤ (getG i v xs).1 ∧ (getG i v xs).1 ≤ 9223372036854775807) ∨
    (((getG i v xs).2.2 = 20 ∨ (getG i v xs).2.2 = 21) ∧ (getG i v xs).1 = 0 ∧ (getG i v xs).2.1 = 0)
  | [], i, v, _, _, _, _ => Or.inr ⟨Or.inl rfl, rfl, rfl⟩
  | c :: r, i, v, hi, h0, h1, hx => by
    have hc := hx c List.mem_cons_self
    have st := step7 hi h0 h1 hc
    have hp : (2 : Int) ^ (7 * (i + 1)) ≤ 9223372036854775808 := by
      have := pow7_le hi; rw [pow7]; omega
    unfold getG
    by_cases h8 : i = 8 ∧ 128 ≤ c
    · rw [if_pos h8]; exact Or.inr ⟨Or.inr rfl, rfl, rfl⟩
    rw [if_neg h8]
    by_cases hs : c < 128
    · rw [if_pos hs]
      by_cases hz : c = 0 ∧ 0 < i
      · rw [if_pos hz]; exact Or.inr ⟨Or.inr rfl, rfl, rfl⟩
      · rw [if_neg hz]
        refine Or.inl ⟨rfl, ?_, ?_, ?_, ?_, ?_⟩ <;> simp only [List.length_cons] <;> omega
    · rw [if_neg hs]
      have ih := getG_spec r (i + 1) _ (by omega) st.2.2.1 st.2.2.2 fun x hx' => hx x (List.mem_cons_of_mem _ hx')
      simp only [List.length_cons]
      rcases ih with ⟨a, b, c1, d, e, f⟩ | h
      · exact Or.inl ⟨a, by omega, by omega, d, e, f⟩
      · exact Or.inr h
theorem getL_spec {xs : List Int} (hx : ∀ x ∈ xs, 0 ≤ x ∧ x < 256) : ((getL xs).2.2 = 0 ∧ 1 ≤ (getL xs).2.1 ∧ (getL xs).2.1 ≤ xs.length ∧ (getL xs).2.1 ≤ 9 ∧ 0 ≤ (getL xs).1 ∧ (getL xs).1 ≤ 9223372036854775807) ∨
    (((getL xs).2.2 = 20 ∨ (getL xs).2.2 = 21) ∧ (getL xs).1 = 0 ∧ (getL xs).2.1 = 0) := by
  rcases getG_spec xs 0 0 (by omega) (by omega) (by decide) hx with ⟨a, b, c, d, e, f⟩ | h
  · exact Or.inl ⟨a, by unfold getL; omega, by unfold getL; omega, d, e, f⟩
  · exact Or.inr h
theorem and127 (c : Int) (h : 0 ≤ c ∧ c < 256) : bAnd .u8 c 127 = c % 128 := by
  have key : ∀ b : BitVec 8, ((b &&& 127#8).toNat : Int) = (b.toNat : Int) % 128 := by decide
  have h1 := key (BitVec.ofInt 8 c)
  have e1 : ((BitVec.ofInt 8 c).toNat : Int) = c := by rw [BitVec.toNat_ofInt]; omega
  rw [e1] at h1
  have e2 : bAnd .u8 c 127 = IntKind.wrap .u8 (((BitVec.ofInt 8 c &&& 127#8).toNat : Nat) : Int) := rfl
  rw [e2, h1, wrap_u8]; omega
theorem nat_or_add {v d k : Nat} (h : v < 2 ^ k) : v ||| d * 2 ^ k = v + d * 2 ^ k := by
  have := Nat.two_pow_add_eq_or_of_lt h d
  rw [Nat.or_comm, Nat.mul_comm d, ← this, Nat.add_comm]
theorem or_add64 {v d : Int} {k : Nat} (h0 : 0 ≤ v) (h1 : v < 2 ^ k) (hd : 0 ≤ d) (hs : v + d * 2 ^ k ≤ 9223372036854775807) : bOr .i64 v (d * 2 ^ k) = v + d * 2 ^ k := by
  obtain ⟨a, rfl⟩ := Int.eq_ofNat_of_zero_le h0
  obtain ⟨b, rfl⟩ := Int.eq_ofNat_of_zero_le hd
  have e : ((b : Int) * 2 ^ k) = ((b * 2 ^ k : Nat) : Int) := by simp
  have h1' : a < 2 ^ k := by exact_mod_cast h1
  have hs' : a + b * 2 ^ k ≤ 9223372036854775807 := by rw [e] at hs; omega
  have e2 : bOr .i64 (a : Int) ((b : Int) * 2 ^ k) = IntKind.wrap .i64 (((BitVec.ofInt 64 (a : Int) ||| BitVec.ofInt 64 ((b : Int) * 2 ^ k)).toNat : Nat) : Int) := rfl
  have ta : (BitVec.ofInt 64 (a : Int)).toNat = a := by rw [BitVec.toNat_ofInt]; omega
  have tb : (BitVec.ofInt 64 ((b : Int) * 2 ^ k)).toNat = b * 2 ^ k := by rw [e, BitVec.toNat_ofInt]; omega
  rw [e2, BitVec.toNat_or, ta, tb, nat_or_add h1', wrap_in .i64 _ ⟨by show (-9223372036854775808 : Int) ≤ _; omega, by show _ ≤ (9223372036854775807 : Int); omega⟩, e, Int.natCast_add]
theorem or_addU {v d : Int} {k : Nat} (h0 : 0 ≤ v) (h1 : v < 2 ^ k) (hd : 0 ≤ d) (hs : v + d * 2 ^ k ≤ 18446744073709551615) : bOr .u64 v (d * 2 ^ k) = v + d * 2 ^ k := by
  obtain ⟨a, rfl⟩ := Int.eq_ofNat_of_zero_le h0
  obtain ⟨b, rfl⟩ := Int.eq_ofNat_of_zero_le hd
  have e : ((b : Int) * 2 ^ k) = ((b * 2 ^ k : Nat) : Int) := by simp
  have h1' : a < 2 ^ k := by exact_mod_cast h1
  have hs' : a + b * 2 ^ k ≤ 18446744073709551615 := by rw [e] at hs; omega
  have e2 : bOr .u64 (a : Int) ((b : Int) * 2 ^ k) = IntKind.wrap .u64 (((BitVec.ofInt 64 (a : Int) ||| BitVec.ofInt 64 ((b : Int) * 2 ^ k)).toNat : Nat) : Int) := rfl
  have ta : (BitVec.ofInt 64 (a : Int)).toNat = a := by rw [BitVec.toNat_ofInt]; omega
  have tb : (BitVec.ofInt 64 ((b : Int) * 2 ^ k)).toNat = b * 2 ^ k := by rw [e, BitVec.toNat_ofInt]; omega
  rw [e2, BitVec.toNat_or, ta, tb, nat_or_add h1', wrap_in .u64 _ ⟨by show (0 : Int) ≤ _; omega, by show _ ≤ (18446744073709551615 : Int); omega⟩, e, Int.natCast_add]
theorem f153.spec (φ : Fx) (A : Option Addr) (n c : Nat) (xs : List Int) (H : Hp) (hr : bytesR H A n xs) (hn : n ≤ 140737488355328) :
    HCalls cx.P φ 153 [.slice A n c] H fun r H' => r = .tuple #[.int .i64 (getL xs).1, .int .i64 (getL xs).2.1, .int .i64 (getL xs).2.2] ∧ H' = H := by
  apply f153.of
  unfold f153.VC
  have hl := hr.1
  refine ⟨fun v x H' => H' = H ∧ 0 ≤ x ∧ x ≤ 8 ∧ x ≤ n ∧ 0 ≤ v ∧ v < 2 ^ (7 * x.toNat) ∧ getG x.toNat v (xs.drop x.toNat) = getL xs, fun _ x _ => (n - x).toNat, ⟨rfl, by omega, by omega, by omega, by omega, by decide, rfl⟩, ?_⟩
  rintro v x _ H' ⟨rfl, h0, h8, h1, hv0, hv1, hg⟩
  refine ⟨fun hi => ?_, fun hi => ?_⟩
  · simp only [decide_eq_true_eq] at hi
    obtain ⟨u, b, o, hx, rfl, cx, hu⟩ := hr.at h0 hi
    rw [drop_at hx, getG] at hg
    have hk : min (Int.toNat (7 * x)) 64 = 7 * x.toNat := by omega
    have st := step7 (i := x.toNat) (by omega) hv0 hv1 ⟨hu.1, hu.2⟩
    have hpw := pow7_le (i := x.toNat) (by omega)
    have h71 : (2 : Int) ^ (7 * (x.toNat + 1)) ≤ 9223372036854775808 := by rw [pow7]; omega
    simp -zeta only [xA, xI cx, and127 u ⟨hu.1, hu.2⟩, hk]
    rw [or_add64 (k := 7 * x.toNat) hv0 hv1 (by omega) (by omega)]
    refine ⟨⟨h0, hi⟩, ?_⟩
    refine join1 (decide (x = 8) && decide (128 ≤ u)) H' ?_ ?_
    · grind
    intro _
    refine ⟨fun h => ?_, fun h => ?_⟩
    · simp only [Bool.and_eq_true, decide_eq_true_eq] at h
      rw [if_pos (by omega)] at hg
      rw [← hg]; exact ⟨rfl, rfl⟩
    have h : ¬ (x = 8 ∧ 128 ≤ u) := by simpa using h
    rw [if_neg (by omega)] at hg
    refine ⟨by omega, by omega, by omega, by omega, fun hs => ?_, fun hs => ?_⟩
    · simp only [decide_eq_true_eq] at hs
      rw [if_pos hs] at hg
      refine join1 (decide (u = 0) && decide (0 < x)) H' ?_ ?_
      · grind
      intro _
      refine ⟨fun hz => ?_, fun hz => ?_⟩
      · simp only [Bool.and_eq_true, decide_eq_true_eq] at hz
        rw [if_pos (by omega)] at hg
        rw [← hg]; exact ⟨rfl, rfl⟩
      · have hz : ¬ (u = 0 ∧ 0 < x) := by simpa using hz
        rw [if_neg (by omega)] at hg
        rw [← hg]
        refine ⟨by omega, ?_, rfl⟩
        rw [show ((x.toNat : Nat) : Int) = x by omega]
    · simp only [decide_eq_false_iff_not] at hs
      rw [if_neg hs] at hg
      refine ⟨by omega, ⟨rfl, by omega, by omega, by omega, by omega, ?_, ?_⟩, by omega⟩
      · rw [show (x + 1).toNat = x.toNat + 1 by omega]; exact st.2.2.2
      · rw [show (x + 1).toNat = x.toNat + 1 by omega]; exact hg
  · simp only [decide_eq_false_iff_not] at hi
    rw [List.drop_eq_nil_of_le (by omega), getG] at hg
    rw [← hg]; exact ⟨rfl, rfl⟩
theorem f154.spec (φ : Fx) (A : Option Addr) (n c : Nat) (xs : List Int) (H : Hp) (hr : bytesR H A n xs) (hn : n ≤ 140737488355328) :
    HCalls cx.P φ 154 [.slice A n c] H fun r H' => r = .tuple #[.int .i64 (getL xs).1, .int .i64 (getL xs).2.1, .int .i64 (getL xs).2.2] ∧ H' = H := by
  apply f154.of
  unfold f154.VC
  have hl := hr.1
  refine ⟨fun v un x H' => H' = H ∧ 0 ≤ x ∧ x ≤ 8 ∧ x ≤ n ∧ 0 ≤ v ∧ v < 2 ^ (7 * x.toNat) ∧ un = 2 ^ (7 * x.toNat) ∧ getG x.toNat v (xs.drop x.toNat) = getL xs, fun _ _ x _ => (n - x).toNat, ⟨rfl, by omega, by omega, by omega, by omega, by decide, by decide, rfl⟩, ?_⟩
  rintro v un x _ H' ⟨rfl, h0, h8, h1, hv0, hv1, rfl, hg⟩
  refine ⟨fun hi => ?_, fun hi => ?_⟩
  · simp only [decide_eq_true_eq] at hi
    obtain ⟨u, b, o, hx, rfl, cx, hu⟩ := hr.at h0 hi
    rw [drop_at hx, getG] at hg
    have st := step7 (i := x.toNat) (by omega) hv0 hv1 ⟨hu.1, hu.2⟩
    have hpw := pow7_le (i := x.toNat) (by omega)
    have h71 : (2 : Int) ^ (7 * (x.toNat + 1)) ≤ 9223372036854775808 := by rw [pow7]; omega
    simp -zeta only [xA, xI cx]
    refine ⟨⟨h0, hi⟩, by omega, by omega, by omega, by omega, ⟨h0, hi⟩, fun hs => ?_, fun hs => ?_⟩
    · simp only [decide_eq_true_eq] at hs
      rw [if_neg (by omega), if_pos hs] at hg
      refine join1 (decide (0 < x) && decide (u = 0)) H' ?_ ?_
      · grind
      intro _
      refine ⟨fun hz => ?_, fun hz => ?_⟩
      · simp only [Bool.and_eq_true, decide_eq_true_eq] at hz
        rw [if_pos (by omega)] at hg
        rw [← hg]; exact ⟨rfl, rfl⟩
      · have hz : ¬ (0 < x ∧ u = 0) := by simpa using hz
        rw [if_neg (by omega)] at hg
        rw [← hg]
        refine ⟨by omega, ?_, rfl⟩
        rw [show ((x.toNat : Nat) : Int) = x by omega]
    · simp only [decide_eq_false_iff_not] at hs
      refine ⟨fun h => ?_, fun h => ?_⟩
      · simp only [decide_eq_true_eq] at h
        rw [if_pos (by omega)] at hg
        rw [← hg]; exact ⟨rfl, trivial⟩
      · simp only [decide_eq_false_iff_not] at h
        rw [if_neg (by omega), if_neg hs] at hg
        have e7 := pow7 x.toNat
        have hq := pow7_le (i := x.toNat + 1) (by omega)
        rw [e7] at hq
        have hp0 := pow_pos' (7 * x.toNat)
        refine ⟨by omega, by omega, ⟨trivial, by omega, by omega, by omega, by omega, ?_, ?_, ?_⟩, by omega⟩
        · rw [show (x + 1).toNat = x.toNat + 1 by omega]; exact st.2.2.2
        · rw [show (x + 1).toNat = x.toNat + 1 by omega, e7]
        · rw [show (x + 1).toNat = x.toNat + 1 by omega]; exact hg
  · simp only [decide_eq_false_iff_not] at hi
    rw [List.drop_eq_nil_of_le (by omega), getG] at hg
    rw [← hg]; exact ⟨rfl, rfl⟩
/-! ### Words -/
def wordL : List Int → Int
  | [] => 0
  | c :: r => c + 256 * wordL r
theorem wordL_bd : ∀ (xs : List Int), (∀ x ∈ xs, 0 ≤ x ∧ x < 256) → 0 ≤ wordL xs ∧ wordL xs < 2 ^ (8 * xs.length)
  | [], _ => by simp [wordL]
  | c :: r, h => by
    have ih := wordL_bd r fun x hx => h x (List.mem_cons_of_mem _ hx)
    have hc := h c List.mem_cons_self
    rw [wordL, List.length_cons, show 8 * (r.length + 1) = 8 * r.length + 8 by omega, Int.pow_add, show (2 : Int) ^ 8 = 256 from rfl]
    omega
theorem pow8 (i : Nat) : (2 : Int) ^ (8 * (i + 1)) = 2 ^ (8 * i) * 256 := by
  rw [show 8 * (i + 1) = 8 * i + 8 by omega, Int.pow_add]; rfl
theorem pow8_le {i : Nat} (h : i ≤ 8) : (2 : Int) ^ (8 * i) ≤ 18446744073709551616 := by
  have : (2 : Int) ^ (8 * i) ≤ 2 ^ 64 := by exact_mod_cast Nat.pow_le_pow_right (by decide : 0 < 2) (show 8 * i ≤ 64 by omega)
  have e : (2 : Int) ^ 64 = 18446744073709551616 := by decide
  omega
theorem step8 {i : Nat} {v c : Int} (hi : i < 8) (h0 : 0 ≤ v) (h1 : v < 2 ^ (8 * i)) (hc : 0 ≤ c ∧ c < 256) : 0 ≤ c * 2 ^ (8 * i) ∧ c * 2 ^ (8 * i) ≤ 18446744073709551615 ∧ 0 ≤ v + c * 2 ^ (8 * i) ∧ v + c * 2 ^ (8 * i) < 2 ^ (8 * (i + 1)) ∧ v + c * 2 ^ (8 * i) ≤ 18446744073709551615 := by
  have hp := pow_pos' (8 * i)
  have hl := pow8_le (show i + 1 ≤ 8 by omega)
  rw [pow8] at hl ⊢
  have a := Int.mul_nonneg hc.1 (Int.le_of_lt hp)
  have b : c * 2 ^ (8 * i) ≤ 255 * 2 ^ (8 * i) := Int.mul_le_mul_of_nonneg_right (by omega) (Int.le_of_lt hp)
  omega
theorem take8_at {xs : List Int} {i : Nat} {u : Int} (h : xs[i]? = some u) (hi : i < 8) : (xs.take 8).drop i = u :: (xs.take 8).drop (i + 1) :=
  drop_at (by rw [List.getElem?_take, if_pos hi]; exact h)
theorem f147.spec (φ : Fx) (A : Option Addr) (n c : Nat) (xs : List Int) (H : Hp) (hr : bytesR H A n xs) (hn : n ≤ 140737488355328) :
    HCalls cx.P φ 147 [.slice A n c] H fun r H' => r = .int .u64 (wordL (xs.take 8)) ∧ H' = H := by
  apply f147.of
  unfold f147.VC
  have hl := hr.1
  refine ⟨fun v x H' => H' = H ∧ 0 ≤ x ∧ x ≤ 8 ∧ x ≤ n ∧ 0 ≤ v ∧ v < 2 ^ (8 * x.toNat) ∧ v + 2 ^ (8 * x.toNat) * wordL ((xs.take 8).drop x.toNat) = wordL (xs.take 8), fun _ x _ => (n - x).toNat, ⟨rfl, by omega, by omega, by omega, by omega, by decide, by simp⟩, ?_⟩
  rintro v x _ H' ⟨rfl, h0, h8, h1, hv0, hv1, hg⟩
  refine ⟨fun hi => ?_, fun hi => ?_⟩
  · simp only [decide_eq_true_eq] at hi
    obtain ⟨u, b, o, hx, rfl, cx, hu⟩ := hr.at h0 (show x < n by omega)
    rw [take8_at hx (by omega), wordL] at hg
    have hk : min (Int.toNat (8 * x)) 64 = 8 * x.toNat := by omega
    have st := step8 (i := x.toNat) (by omega) hv0 hv1 ⟨hu.1, hu.2⟩
    simp -zeta only [xA, xI cx, hk]
    rw [wrap_u64, Int.emod_eq_of_lt st.1 (by omega), or_addU hv0 hv1 hu.1 st.2.2.2.2]
    refine ⟨⟨h0, by omega⟩, by omega, by omega, by omega, by omega, ⟨trivial, by omega, by omega, by omega, by omega, ?_, ?_⟩, by omega⟩
    · rw [show (x + 1).toNat = x.toNat + 1 by omega]; exact st.2.2.2.1
    · rw [show (x + 1).toNat = x.toNat + 1 by omega, pow8, ← hg, Int.mul_add, Int.mul_comm u, Int.mul_assoc]
      omega
  · simp only [decide_eq_false_iff_not] at hi
    rw [List.drop_eq_nil_of_le (by simp; omega), wordL] at hg
    refine ⟨?_, rfl⟩
    rw [← hg]; simp
theorem f156.spec (φ : Fx) (A : Option Addr) (n c : Nat) (xs : List Int) (H : Hp) (hr : bytesR H A n xs) (hn : n ≤ 140737488355328) :
    HCalls cx.P φ 156 [.slice A n c] H fun r H' => r = .int .u64 (wordL (xs.take 8)) ∧ H' = H := by
  apply f156.of
  unfold f156.VC
  have hl := hr.1
  refine ⟨fun v un x H' => H' = H ∧ 0 ≤ x ∧ x ≤ 8 ∧ x ≤ n ∧ 0 ≤ v ∧ v < 2 ^ (8 * x.toNat) ∧ un = 2 ^ (8 * x.toNat) % 18446744073709551616 ∧ v + 2 ^ (8 * x.toNat) * wordL ((xs.take 8).drop x.toNat) = wordL (xs.take 8), fun _ _ x _ => (n - x).toNat, ⟨rfl, by omega, by omega, by omega, by omega, by decide, by decide, by simp⟩, ?_⟩
  rintro v un x _ H' ⟨rfl, h0, h8, h1, hv0, hv1, rfl, hg⟩
  refine join1 (decide (x < n) && decide (x < 8)) H' ?_ ?_
  · grind
  intro _
  refine ⟨fun hi => ?_, fun hi => ?_⟩
  · simp only [Bool.and_eq_true, decide_eq_true_eq] at hi
    obtain ⟨u, b, o, hx, rfl, cx, hu⟩ := hr.at h0 (show x < n by omega)
    rw [take8_at hx (by omega), wordL] at hg
    have st := step8 (i := x.toNat) (by omega) hv0 hv1 ⟨hu.1, hu.2⟩
    have hpl := pow8_le (i := x.toNat) (by omega)
    have hps : (2 : Int) ^ (8 * x.toNat) < 18446744073709551616 := by
      have := pow8_le (i := x.toNat + 1) (by omega)
      rw [pow8] at this
      have := pow_pos' (8 * x.toNat)
      omega
    have hpp := pow_pos' (8 * x.toNat)
    simp -zeta only [xA, xI cx]
    rw [Int.emod_eq_of_lt (by omega) hps]
    simp only [wrap_u64]
    rw [Int.emod_eq_of_lt st.1 (by omega), Int.emod_eq_of_lt st.2.2.1 (by omega)]
    refine ⟨⟨h0, by omega⟩, by omega, by omega, ⟨trivial, by omega, by omega, by omega, by omega, ?_, ?_, ?_⟩, by omega⟩
    · rw [show (x + 1).toNat = x.toNat + 1 by omega]; exact st.2.2.2.1
    · rw [show (x + 1).toNat = x.toNat + 1 by omega, pow8]
    · rw [show (x + 1).toNat = x.toNat + 1 by omega, pow8, ← hg, Int.mul_add, Int.mul_comm u, Int.mul_assoc]
      omega
  · have hi : ¬ (x < n ∧ x < 8) := by simpa using hi
    rw [List.drop_eq_nil_of_le (by simp; omega), wordL] at hg
    refine ⟨?_, rfl⟩
    rw [← hg]; simp
end Go.Proofs.Ytkkjjjgcfnhabaa.Eng
namespace Go.Proofs.Ytkkjjjgcfnhabaa.Eng
open Go Go.Proofs
/-! ### What a cursor does -/
structure Cu where
  xs : List Int
  at_ : Int
  e : Int
def Cu.left (s : Cu) : List Int := s.xs.drop s.at_.toNat
def Cu.num (most : Int) (s : Cu) : Int × Cu :=
  if s.e ≠ 0 then (0, s) else if (getL s.left).2.2 ≠ 0 then (0, { s with e := (getL s.left).2.2 }) else if most < (getL s.left).1 then (0, { s with e := 23 }) else ((getL s.left).1, { s with at_ := s.at_ + (getL s.left).2.1 })
def Cu.fixed (n : Int) (s : Cu) : Int × Cu :=
  if s.e ≠ 0 then (0, s) else if n < 1 ∨ 8 < n then (0, { s with e := 23 }) else if (s.left.length : Int) < n then (0, { s with e := 20 }) else (wordL (s.left.take n.toNat), { s with at_ := s.at_ + n })
def Cu.take (n : Int) (s : Cu) : List Int × Cu :=
  if s.e ≠ 0 then ([], s) else if n < 0 then ([], { s with e := 23 }) else if (s.left.length : Int) < n then ([], { s with e := 20 }) else (s.left.take n.toNat, { s with at_ := s.at_ + n })
def Cu.text (most : Int) (s : Cu) : List Int × Cu :=
  if s.e ≠ 0 then ([], s) else if (getL s.left).2.2 ≠ 0 then ([], { s with e := (getL s.left).2.2 }) else if most < (getL s.left).1 then ([], { s with e := 23 }) else
  if (s.left.length : Int) - (getL s.left).2.1 < (getL s.left).1 then ([], { s with e := 20 }) else
  ((s.left.drop (getL s.left).2.1.toNat).take (getL s.left).1.toNat, { s with at_ := s.at_ + ((getL s.left).2.1 + (getL s.left).1) })
def Cu.fail (k : Int) (s : Cu) : Cu := if s.e ≠ 0 then s else { s with e := k }
def Cu.rest (s : Cu) : Int := if s.e ≠ 0 then 0 else s.xs.length - s.at_
def Cu.endE (s : Cu) : Int × Int := if s.e ≠ 0 then (s.e, s.at_) else if s.at_ < s.xs.length then (22, s.at_) else (0, 0)
/-! ### The program's cursor in memory -/
/-- A cursor, or none; all its blocks lie from lo on, below hi. -/
def curP (H : Hp) (lo hi : Nat) (p : Option Addr) : Option Cu → Prop
  | none => p = none
  | some s => ∃ b A n c, p = some ⟨b, 0, none⟩ ∧ lo ≤ b ∧ b < hi ∧ objAt H b #[.slice A n c, .int .i64 s.at_, .int .i64 s.e] 68 ∧ ownB H lo A n c s.xs ∧ (∀ q, A = some ⟨q, 0, none⟩ → q < hi) ∧ 0 ≤ s.at_ ∧ s.at_ ≤ n ∧ n ≤ 140737488355328
theorem ownB.frame {H H' : Hp} {base : Nat} {A : Option Addr} {n c : Nat} {xs : List Int} (h : ownB H base A n c xs) (hf : ∀ b, A = some ⟨b, 0, none⟩ → H'[b]? = H[b]?) : ownB H' base A n c xs := ⟨h.own.frame hf, h.rng⟩
theorem objAt.frame {H H' : Hp} {b : Nat} {cs : Array Value} {t : TypeId} (h : objAt H b cs t) (hf : H'[b]? = H[b]?) : objAt H' b cs t := by unfold objAt at h ⊢; rw [hf]; exact h
theorem ownC.tob {H : Hp} {base : Nat} {t : TypeId} {sz : Nat} {A : Option Addr} {n c : Nat} {vs : List Value} (h : ownC H base t sz A n c vs) {b : Nat} (hb : A = some ⟨b, 0, none⟩) : ∃ cs, objAt H b cs t := by
  obtain ⟨_, _, h | ⟨b', cs, h1, h2, h3, _⟩⟩ := h
  · rw [h.1] at hb; cases hb
  · rw [h2] at hb; cases hb; exact ⟨cs, h3⟩
theorem objAt.ne {H : Hp} {b b' : Nat} {cs cs' : Array Value} {t t' : TypeId} (h : objAt H b cs t) (h' : objAt H b' cs' t') (ht : t ≠ t') : b ≠ b' := by
  intro e; subst e; unfold objAt at h h'; rw [h] at h'; cases h'; exact ht rfl
theorem curP.frame {H H' : Hp} {lo hi : Nat} {p : Option Addr} {s : Option Cu} (h : curP H lo hi p s) (hf : ∀ k, lo ≤ k → k < hi → H'[k]? = H[k]?) : curP H' lo hi p s := by
  cases s with
  | none => exact h
  | some s =>
    obtain ⟨b, A, n, c, h1, h2, h3, h4, h5, h6, h7⟩ := h
    exact ⟨b, A, n, c, h1, h2, h3, h4.frame (hf b h2 h3), h5.frame fun q hq => hf q (h5.own.lt hq).1 (h6 q hq), h6, h7⟩
theorem curP.lt {H : Hp} {lo hi : Nat} {p : Option Addr} {s : Option Cu} (h : curP H lo hi p s) {b : Nat} (hb : p = some ⟨b, 0, none⟩) : lo ≤ b ∧ b < hi ∧ b < H.size ∧ ∃ cs, objAt H b cs 68 := by
  cases s with
  | none => subst hb; exact absurd h (by simp [curP])
  | some s =>
    obtain ⟨b', A, n, c, h1, h2, h3, h4, _⟩ := h
    rw [h1] at hb; cases hb
    exact ⟨h2, h3, objAt_lt h4, _, h4⟩
theorem curP.keeps {H H' : Hp} {lo hi : Nat} {p : Option Addr} {s : Option Cu} (h : curP H lo hi p s) (k : Keeps H H') : curP H' lo hi p s := by
  cases s with
  | none => exact h
  | some s =>
    obtain ⟨b, A, n, c, h1, h2, h3, h4, h5, h6, h7⟩ := h
    exact ⟨b, A, n, c, h1, h2, h3, k.obj h4, h5.keeps k, h6, h7⟩
theorem objAt_put {H : Hp} {b : Nat} {cs : Array Value} {t : TypeId} (h : objAt H b cs t) (o : Nat) (vs : List Value) (cs' : Array Value) (he : spl cs o vs = cs') : objAt (hput H b o vs) b cs' t := by
  rw [← he]; exact objAt_hput h o vs
/-- What `reads` does with what a closure tells. -/
theorem f151.spec (φ : Fx) {lo hi : Nat} {p : Option Addr} {s : Option Cu} {H : Hp} (g : Value) (hs : curP H lo hi p s) (R : Value → Hp → Prop)
    (h0 : (s = none ∨ ∃ u, s = some u ∧ u.e ≠ 0) → R (.tuple #[]) H)
    (h1 : ∀ u b A n c A' m c', s = some u → u.e = 0 → p = some ⟨b, 0, none⟩ → objAt H b #[.slice A n c, .int .i64 u.at_, .int .i64 0] 68 → bytesR H A' m u.left → m ≤ c' → (m : Int) + u.at_ = n → m ≤ 140737488355328 →
      callW cx φ g [.slice A' m c'] H fun v H2 => ∃ k e, v = .tuple #[.int .i64 k, .int .i64 e] ∧ objAt H2 b #[.slice A n c, .int .i64 u.at_, .int .i64 0] 68 ∧
        (e ≠ 0 → R (.tuple #[]) (hput H2 b (0 + 2) [.int .i64 e])) ∧ (e = 0 → 0 ≤ k ∧ k ≤ m ∧ R (.tuple #[]) (hput H2 b (0 + 1) [.int .i64 (u.at_ + k)]))) :
    HCalls cx.P φ 151 [.pointer p, g] H R := by
  apply f151.of
  unfold f151.VC
  cases s with
  | none =>
    have hp : p = none := hs
    subst hp
    refine join1 true H ?_ ?_
    · exact ⟨fun _ => ⟨rfl, rfl⟩, fun h => (nomatch h)⟩
    intro _
    exact ⟨fun _ => h0 (Or.inl rfl), fun h => (nomatch h)⟩
  | some u =>
    obtain ⟨b, A, n, c, rfl, hb1, hb2, ob, own, hq, ha0, ha1, hn⟩ := hs
    have e0 : cel H b 0 = some (.slice A n c) := by rw [objAt_cel ob]; rfl
    have e1 : cel H b (0 + 1) = some (.int .i64 u.at_) := by rw [objAt_cel ob]; rfl
    have e2 : cel H b (0 + 2) = some (.int .i64 u.e) := by rw [objAt_cel ob]; rfl
    refine join1 (decide (u.e ≠ 0)) H ?_ ?_
    · refine ⟨fun h => (nomatch h), fun _ => ?_⟩
      simp -zeta only [xA, xI e2]
      exact ⟨by simp, trivial⟩
    intro _
    refine ⟨fun h => h0 (Or.inr ⟨u, rfl, by simpa using h⟩), fun h => ?_⟩
    have he : u.e = 0 := by simpa using h
    rw [he] at ob
    have part := bytesR_part own.row (i := u.at_.toNat) (j := n) (c := c) (by omega) (Nat.le_refl _) own.own.2.1
    have hl := own.len
    rw [List.take_of_length_le (by simp; omega)] at part
    have hnc := own.own.2.1
    simp -zeta only [xA, xL e0, xI e1]
    refine ⟨⟨ha0, ha1⟩, ?_⟩
    have := h1 u b A n c _ _ (c - u.at_.toNat) rfl he rfl ob part (by omega) (by omega) (by omega)
    refine callW_mono ?_ this
    rintro v H2 ⟨k, e, rfl, o2, g1, g2⟩
    have q1 : cel H2 b (0 + 1) = some (.int .i64 u.at_) := by rw [objAt_cel o2]; rfl
    refine ⟨k, e, rfl, fun h => ?_, fun h => ?_⟩
    · exact ⟨objAt_canPut o2 (by simp) (by simp [Value.oneCell']), g1 (by simpa using h)⟩
    · obtain ⟨k0, k1, hR⟩ := g2 (by simpa using h)
      simp -zeta only [xI q1]
      exact ⟨by omega, objAt_canPut o2 (by simp) (by simp [Value.oneCell']), hR⟩
end Go.Proofs.Ytkkjjjgcfnhabaa.Eng
namespace Go.Proofs.Ytkkjjjgcfnhabaa.Eng
open Go Go.Proofs
def liftO {α : Type} (d : α) (f : Cu → α × Cu) : Option Cu → α × Option Cu
  | none => (d, none)
  | some u => ((f u).1, some (f u).2)
theorem Keeps.offA {A : Option Addr} {H H' : Hp} (k : Keeps H H') : Go.Proofs.Ytkkjjjgcfnhabaa.Eng.offA A H H' := ⟨k.size, fun q hq _ => k.old q hq⟩
theorem offA.ofPut {H G : Hp} (k : Keeps H G) (b o : Nat) (vs : List Value) : Go.Proofs.Ytkkjjjgcfnhabaa.Eng.offA (some ⟨b, 0, none⟩) H (hput G b o vs) :=
  ⟨by rw [hput_size]; exact k.size, fun q hq hne => by rw [hput_other (fun e => hne (by rw [e]))]; exact k.old q hq⟩
/-- A cursor that went on. -/
theorem cur_at {H G : Hp} {lo hi b : Nat} {u : Cu} (h : curP H lo hi (some ⟨b, 0, none⟩) (some u)) (k : Keeps H G) {d : Int} (hd : 0 ≤ d) (hl : u.at_ + d ≤ u.xs.length) :
    curP (hput G b (0 + 1) [.int .i64 (u.at_ + d)]) lo hi (some ⟨b, 0, none⟩) (some { u with at_ := u.at_ + d }) := by
  obtain ⟨b', A, n, c, h1, h2, h3, h4, h5, h6, h7, h8, h9⟩ := h
  cases h1
  have o := k.obj h4
  have ow := h5.keeps k
  have hle := h5.len
  refine ⟨b, A, n, c, rfl, h2, h3, objAt_put o _ _ _ (by simp [spl]), ow.frame fun q hq => hput_other fun e => ?_, h6, by dsimp only; omega, by dsimp only; omega, h9⟩
  obtain ⟨cs, oq⟩ := ow.own.tob hq
  exact oq.ne o (by decide) e.symm
theorem cur_err {H G : Hp} {lo hi b : Nat} {u : Cu} (h : curP H lo hi (some ⟨b, 0, none⟩) (some u)) (k : Keeps H G) (e : Int) :
    curP (hput G b (0 + 2) [.int .i64 e]) lo hi (some ⟨b, 0, none⟩) (some { u with e := e }) := by
  obtain ⟨b', A, n, c, h1, h2, h3, h4, h5, h6, h7, h8, h9⟩ := h
  cases h1
  have o := k.obj h4
  have ow := h5.keeps k
  refine ⟨b, A, n, c, rfl, h2, h3, objAt_put o _ _ _ (by simp [spl]), ow.frame fun q hq => hput_other fun e => ?_, h6, h7, h8, h9⟩
  obtain ⟨cs, oq⟩ := ow.own.tob hq
  exact oq.ne o (by decide) e.symm
theorem curP.lenLeft {H : Hp} {lo hi : Nat} {p : Option Addr} {u : Cu} (h : curP H lo hi p (some u)) : 0 ≤ u.at_ ∧ u.at_ ≤ u.xs.length ∧ (u.left.length : Int) = u.xs.length - u.at_ ∧ (∀ x ∈ u.xs, 0 ≤ x ∧ x < 256) ∧ u.xs.length ≤ 140737488355328 := by
  obtain ⟨b', A, n, c, h1, h2, h3, h4, h5, h6, h7, h8, h9⟩ := h
  have := h5.len
  exact ⟨h7, by omega, by simp [Cu.left]; omega, h5.rng, by omega⟩
theorem left_rng {u : Cu} (h : ∀ x ∈ u.xs, 0 ≤ x ∧ x < 256) : ∀ x ∈ u.left, 0 ≤ x ∧ x < 256 := fun x hx => h x (List.mem_of_mem_drop hx)
/-! ### Num -/
def numE (most : Int) (xs : List Int) : Int := if (getL xs).2.2 ≠ 0 then (getL xs).2.2 else if most < (getL xs).1 then 23 else 0
theorem f152.spec (φ : Fx) (A : Option Addr) (n c b1 b2 : Nat) (xs : List Int) (most v0 : Int) (H : Hp) (hr : bytesR H A n xs) (hn : n ≤ 140737488355328) (e1 : cel H b1 0 = some (.int .i64 most)) (o2 : objAt H b2 #[.int .i64 v0] 2) :
    HCalls cx.P φ 152 [.slice A n c, .pointer (some ⟨b1, 0, none⟩), .pointer (some ⟨b2, 0, none⟩)] H fun r H' => r = .tuple #[.int .i64 (getL xs).2.1, .int .i64 (numE most xs)] ∧ H' = if numE most xs = 0 then hput H b2 0 [.int .i64 (getL xs).1] else H := by
  apply f152.of
  unfold f152.VC
  refine HCalls.mono (f153.spec φ A n c xs H hr hn) ?_
  rintro v H' ⟨rfl, rfl⟩
  refine ⟨_, _, _, rfl, ?_⟩
  simp -zeta only [xI e1]
  refine join1 (decide ((getL xs).2.2 = 0) && decide (most < (getL xs).1)) H' ?_ ?_
  · grind
  intro _
  refine join1 (numE most xs) H' ?_ ?_
  · simp only [numE]; grind
  intro _
  refine ⟨fun H2 => H2 = if numE most xs = 0 then hput H' b2 0 [.int .i64 (getL xs).1] else H', ⟨fun h => ?_, fun h => ?_⟩, fun _ H2 h => ⟨rfl, h⟩⟩
  · simp only [decide_eq_true_eq] at h
    exact ⟨objAt_canPut o2 (by simp) (by simp [Value.oneCell']), by rw [if_pos h]⟩
  · simp only [decide_eq_false_iff_not] at h
    rw [if_neg h]
theorem f100.spec (φ : Fx) {lo hi : Nat} {p : Option Addr} {s : Option Cu} (most : Int) {H : Hp} (hs : curP H lo hi p s) :
    HCalls cx.P φ 100 [.pointer p, .int .i64 most] H fun r H' => r = .int .i64 (liftO 0 (Cu.num most) s).1 ∧ curP H' lo hi p (liftO 0 (Cu.num most) s).2 ∧ offA p H H' := by
  apply f100.of
  unfold f100.VC
  intro H1
  have e1 : cel H1 H.size 0 = some (.int .i64 most) := cel_new ..
  have k1 : Keeps H H1 := Keeps.push ..
  clear_value H1
  intro H2
  have o2 : objAt H2 H1.size #[.int .i64 0] 2 := objAt_new ..
  have k12 : Keeps H1 H2 := Keeps.push ..
  clear_value H2
  have k2 := k1.trans k12
  have e1 := k12.cel e1
  have hs2 := hs.keeps k2
  have s1 := k1.size
  refine f151.spec φ _ hs2 _ (fun h => ?_) (fun u b A n c A' m c' hu he hp ob rb hm hmn hn => ?_)
  · have e2 : cel H2 H1.size 0 = some (.int .i64 0) := by rw [objAt_cel o2]; rfl
    simp -zeta only [xI e2]
    have : liftO 0 (Cu.num most) s = (0, s) := by
      rcases h with rfl | ⟨u, rfl, hu⟩
      · rfl
      · simp [liftO, Cu.num, hu]
    rw [this]
    exact ⟨trivial, rfl, hs2, k2.offA⟩
  · subst hu; subst hp
    have hlt := (hs.lt rfl).2.2.1
    obtain ⟨a0, a1, al, ar, an⟩ := hs.lenLeft
    have hl := rb.1
    show HCalls cx.P φ 152 [.slice A' m c', .pointer (some ⟨H.size, 0, none⟩), .pointer (some ⟨H1.size, 0, none⟩)] H2 _
    refine HCalls.mono (f152.spec φ A' m c' H.size H1.size u.left most 0 H2 rb hn e1 o2) ?_
    rintro v G ⟨rfl, hG⟩
    have gs := getL_spec (left_rng ar)
    refine ⟨_, _, rfl, ?_, fun h => ?_, fun h => ?_⟩
    · subst hG; split
      · exact ob.frame (hput_other (by omega))
      · exact ob
    · rw [if_neg h] at hG; subst hG
      have e2 : cel (hput G b (0 + 2) [.int .i64 (numE most u.left)]) H1.size 0 = some (.int .i64 0) := by
        rw [objAt_cel (o2.frame (hput_other (by omega)))]; rfl
      simp -zeta only [xI e2]
      have : liftO 0 (Cu.num most) (some u) = (0, some { u with e := numE most u.left }) := by
        simp only [liftO, Cu.num, he, numE] at h ⊢; grind
      rw [this]
      exact ⟨trivial, rfl, cur_err hs k2 _, offA.ofPut k2 _ _ _⟩
    · rw [if_pos h] at hG
      have hz : (getL u.left).2.2 = 0 ∧ ¬ most < (getL u.left).1 := by
        simp only [numE] at h; split at h
        · contradiction
        · split at h <;> simp_all
      have kG : Keeps H G := by subst hG; exact k2.hput (by omega)
      have oG : objAt G H1.size #[.int .i64 (getL u.left).1] 2 := by subst hG; exact objAt_put o2 _ _ _ (by simp [spl])
      have hk : 0 ≤ (getL u.left).2.1 ∧ (getL u.left).2.1 ≤ u.left.length := by omega
      have e2 : cel (hput G b (0 + 1) [.int .i64 (u.at_ + (getL u.left).2.1)]) H1.size 0 = some (.int .i64 (getL u.left).1) := by
        rw [objAt_cel (oG.frame (hput_other (by omega)))]; rfl
      simp -zeta only [xI e2]
      have : liftO 0 (Cu.num most) (some u) = ((getL u.left).1, some { u with at_ := u.at_ + (getL u.left).2.1 }) := by
        simp only [liftO, Cu.num, he]; simp [hz]
      rw [this]
      exact ⟨hk.1, by omega, trivial, rfl, cur_at hs kG hk.1 (by omega), offA.ofPut kG _ _ _⟩
/-! ### Fixed -/
def fixE (n : Int) (xs : List Int) : Int := if n < 1 ∨ 8 < n then 23 else if (xs.length : Int) < n then 20 else 0
theorem f155.spec (φ : Fx) (A : Option Addr) (m c b1 b2 : Nat) (xs : List Int) (n v0 : Int) (H : Hp) (hr : bytesR H A m xs) (hm : m ≤ 140737488355328) (hc : m ≤ c) (e1 : cel H b1 0 = some (.int .i64 n)) (o2 : objAt H b2 #[.int .u64 v0] 164) (hb : b1 ≠ b2) :
    HCalls cx.P φ 155 [.slice A m c, .pointer (some ⟨b1, 0, none⟩), .pointer (some ⟨b2, 0, none⟩)] H fun r H' => r = .tuple #[.int .i64 (if fixE n xs = 0 then n else 0), .int .i64 (fixE n xs)] ∧ H' = if fixE n xs = 0 then hput H b2 0 [.int .u64 (wordL (xs.take n.toNat))] else H := by
  apply f155.of
  unfold f155.VC
  have hl := hr.1
  refine join1 (decide (n < 1) || decide (8 < n)) H ?_ ?_
  · simp -zeta only [xI e1]; grind
  intro _
  simp -zeta only [xI e1]
  refine ⟨fun h => ?_, fun h => ⟨fun h2 => ?_, fun h2 => ?_⟩⟩
  · simp only [Bool.or_eq_true, decide_eq_true_eq] at h
    have : fixE n xs = 23 := by rw [fixE, if_pos h]
    rw [this]; exact ⟨rfl, rfl⟩
  · simp only [Bool.or_eq_false_iff, decide_eq_false_iff_not, decide_eq_true_eq] at h h2
    have : fixE n xs = 20 := by rw [fixE, if_neg (by omega), if_pos (by omega)]
    rw [this]; exact ⟨rfl, rfl⟩
  · simp only [Bool.or_eq_false_iff, decide_eq_false_iff_not] at h h2
    have : fixE n xs = 0 := by rw [fixE, if_neg (by omega), if_neg (by omega)]
    rw [this, if_pos rfl, if_pos rfl]
    refine ⟨by omega, ?_⟩
    refine HCalls.mono (f147.spec φ A n.toNat c _ H (bytesR_take hr (by omega)) (by omega)) ?_
    rintro v H' ⟨rfl, rfl⟩
    rw [List.take_of_length_le (by simp; omega)]
    refine ⟨_, rfl, objAt_canPut o2 (by simp) (by simp [Value.oneCell']), ?_⟩
    intro H2
    have q : cel H2 b1 0 = some (.int .i64 n) := by
      have : H2[b1]? = H'[b1]? := hput_other (fun e => hb e.symm)
      unfold cel at e1 ⊢; rw [this]; exact e1
    simp -zeta only [xI q]
    exact ⟨trivial, rfl⟩
theorem f102.spec (φ : Fx) {lo hi : Nat} {p : Option Addr} {s : Option Cu} (n : Int) {H : Hp} (hs : curP H lo hi p s) :
    HCalls cx.P φ 102 [.pointer p, .int .i64 n] H fun r H' => r = .int .u64 (liftO 0 (Cu.fixed n) s).1 ∧ curP H' lo hi p (liftO 0 (Cu.fixed n) s).2 ∧ offA p H H' := by
  apply f102.of
  unfold f102.VC
  intro H1
  have e1 : cel H1 H.size 0 = some (.int .i64 n) := cel_new ..
  have k1 : Keeps H H1 := Keeps.push ..
  have s01 : H1.size = H.size + 1 := by simp [H1]
  clear_value H1
  intro H2
  have o2 : objAt H2 H1.size #[.int .u64 0] 164 := objAt_new ..
  have k12 : Keeps H1 H2 := Keeps.push ..
  clear_value H2
  have k2 := k1.trans k12
  have e1 := k12.cel e1
  have hs2 := hs.keeps k2
  have s1 := k1.size
  refine f151.spec φ _ hs2 _ (fun h => ?_) (fun u b A m' c A' m c' hu he hp ob rb hm hmn hn => ?_)
  · have e2 : cel H2 H1.size 0 = some (.int .u64 0) := by rw [objAt_cel o2]; rfl
    simp -zeta only [xI e2]
    have : liftO 0 (Cu.fixed n) s = (0, s) := by
      rcases h with rfl | ⟨u, rfl, hu⟩
      · rfl
      · simp [liftO, Cu.fixed, hu]
    rw [this]
    exact ⟨trivial, rfl, hs2, k2.offA⟩
  · subst hu; subst hp
    have hlt := (hs.lt rfl).2.2.1
    obtain ⟨a0, a1, al, ar, an⟩ := hs.lenLeft
    have hl := rb.1
    show HCalls cx.P φ 155 [.slice A' m c', .pointer (some ⟨H.size, 0, none⟩), .pointer (some ⟨H1.size, 0, none⟩)] H2 _
    refine HCalls.mono (f155.spec φ A' m c' H.size H1.size u.left n 0 H2 rb hn hm e1 o2 (by omega)) ?_
    rintro v G ⟨rfl, hG⟩
    refine ⟨_, _, rfl, ?_, fun h => ?_, fun h => ?_⟩
    · subst hG; split
      · exact ob.frame (hput_other (by omega))
      · exact ob
    · rw [if_neg h] at hG; subst hG
      have e2 : cel (hput G b (0 + 2) [.int .i64 (fixE n u.left)]) H1.size 0 = some (.int .u64 0) := by
        rw [objAt_cel (o2.frame (hput_other (by omega)))]; rfl
      simp -zeta only [xI e2]
      have : liftO 0 (Cu.fixed n) (some u) = (0, some { u with e := fixE n u.left }) := by
        simp only [liftO, Cu.fixed, he, fixE] at h ⊢; grind
      rw [this]
      exact ⟨trivial, rfl, cur_err hs k2 _, offA.ofPut k2 _ _ _⟩
    · rw [if_pos h] at hG
      have hz : ¬ (n < 1 ∨ 8 < n) ∧ ¬ (u.left.length : Int) < n := by
        simp only [fixE] at h; grind
      have kG : Keeps H G := by subst hG; exact k2.hput (by omega)
      have oG : objAt G H1.size #[.int .u64 (wordL (u.left.take n.toNat))] 164 := by subst hG; exact objAt_put o2 _ _ _ (by simp [spl])
      have e2 : cel (hput G b (0 + 1) [.int .i64 (u.at_ + n)]) H1.size 0 = some (.int .u64 (wordL (u.left.take n.toNat))) := by
        rw [objAt_cel (oG.frame (hput_other (by omega)))]; rfl
      rw [if_pos h]
      simp -zeta only [xI e2]
      have : liftO 0 (Cu.fixed n) (some u) = (wordL (u.left.take n.toNat), some { u with at_ := u.at_ + n }) := by
        simp only [liftO, Cu.fixed, he]; simp [hz]
      rw [this]
      exact ⟨by omega, by omega, trivial, rfl, cur_at hs kG (by omega) (by omega), offA.ofPut kG _ _ _⟩
end Go.Proofs.Ytkkjjjgcfnhabaa.Eng
namespace Go.Proofs.Ytkkjjjgcfnhabaa.Eng
open Go Go.Proofs
/-! ### Take -/
def takE (n : Int) (xs : List Int) : Int := if n < 0 then 23 else if (xs.length : Int) < n then 20 else 0
theorem f157.spec (φ : Fx) (A : Option Addr) (m c b1 b2 : Nat) (xs : List Int) (n : Int) (H : Hp) (hr : bytesR H A m xs) (hm : m ≤ 140737488355328) (hc : m ≤ c) (e1 : cel H b1 0 = some (.int .i64 n)) (o2 : objAt H b2 #[.slice none 0 0] 59) (hb : b1 ≠ b2) (hb1 : b1 < H.size) :
    HCalls cx.P φ 157 [.slice A m c, .pointer (some ⟨b1, 0, none⟩), .pointer (some ⟨b2, 0, none⟩)] H fun r H' => r = .tuple #[.int .i64 (if takE n xs = 0 then n else 0), .int .i64 (takE n xs)] ∧
      if takE n xs = 0 then ∃ A' c' G, Keeps H G ∧ H' = hput G b2 0 [.slice A' n.toNat c'] ∧ ownB G H.size A' n.toNat c' (xs.take n.toNat) else H' = H := by
  apply f157.of
  unfold f157.VC
  have hl := hr.1
  have e2 : cel H b2 0 = some (.slice none 0 0) := by rw [objAt_cel o2]; rfl
  simp -zeta only [xI e1, xL e2]
  refine ⟨fun h => ?_, fun h => ⟨fun h2 => ?_, fun h2 => ?_⟩⟩
  · simp only [decide_eq_true_eq] at h
    have : takE n xs = 23 := by rw [takE, if_pos h]
    rw [this]; exact ⟨rfl, by simp⟩
  · simp only [decide_eq_false_iff_not, decide_eq_true_eq] at h h2
    have : takE n xs = 20 := by rw [takE, if_neg (by omega), if_pos (by omega)]
    rw [this]; exact ⟨rfl, by simp⟩
  · simp only [decide_eq_false_iff_not] at h h2
    have : takE n xs = 0 := by rw [takE, if_neg (by omega), if_neg (by omega)]
    rw [this]
    refine ⟨by omega, ?_⟩
    refine app_bytes (ownB_nil H H.size) (bytesR_take hr (m := n.toNat) (by omega)) (by omega) (Nat.le_refl _) ?_
    intro A' c' G own f _ _
    have kG := offA_none f
    have oG := kG.obj o2
    rw [Nat.zero_add, List.nil_append] at own
    refine ⟨_, _, _, rfl, objAt_canPut oG (by simp) (by simp [Value.oneCell']), ?_⟩
    intro H2
    have q : cel H2 b1 0 = some (.int .i64 n) := by
      have h2 : H2[b1]? = G[b1]? := hput_other (fun e => hb e.symm)
      have e1 := kG.cel e1
      unfold cel at e1 ⊢; rw [h2]; exact e1
    simp -zeta only [xI q]
    refine ⟨by rw [if_pos (by trivial)], ?_⟩
    rw [if_pos (by trivial)]
    refine ⟨A', c', G, kG, ?_, own⟩
    simp [H2]
theorem f104.spec (φ : Fx) {lo hi : Nat} {p : Option Addr} {s : Option Cu} (n : Int) {H : Hp} (hs : curP H lo hi p s) :
    HCalls cx.P φ 104 [.pointer p, .int .i64 n] H fun r H' => ∃ A' m' c', r = .slice A' m' c' ∧ ownB H' H.size A' m' c' (liftO [] (Cu.take n) s).1 ∧ curP H' lo hi p (liftO [] (Cu.take n) s).2 ∧ offA p H H' := by
  apply f104.of
  unfold f104.VC
  intro H1
  have e1 : cel H1 H.size 0 = some (.int .i64 n) := cel_new ..
  have k1 : Keeps H H1 := Keeps.push ..
  have s01 : H1.size = H.size + 1 := by simp [H1]
  clear_value H1
  intro H2
  have o2 : objAt H2 H1.size #[.slice none 0 0] 59 := objAt_new ..
  have k12 : Keeps H1 H2 := Keeps.push ..
  have s12 : H2.size = H1.size + 1 := by simp [H2]
  clear_value H2
  have k2 := k1.trans k12
  have e1 := k12.cel e1
  have hs2 := hs.keeps k2
  have s1 := k1.size
  refine f151.spec φ _ hs2 _ (fun h => ?_) (fun u b A m' c A' m c' hu he hp ob rb hm hmn hn => ?_)
  · have e2 : cel H2 H1.size 0 = some (.slice none 0 0) := by rw [objAt_cel o2]; rfl
    simp -zeta only [xL e2]
    have : liftO [] (Cu.take n) s = ([], s) := by
      rcases h with rfl | ⟨u, rfl, hu⟩
      · rfl
      · simp [liftO, Cu.take, hu]
    rw [this]
    exact ⟨trivial, _, _, _, rfl, ownB_nil .., hs2, k2.offA⟩
  · subst hu; subst hp
    have hlt := (hs.lt rfl).2.2.1
    obtain ⟨a0, a1, al, ar, an⟩ := hs.lenLeft
    have hl := rb.1
    show HCalls cx.P φ 157 [.slice A' m c', .pointer (some ⟨H.size, 0, none⟩), .pointer (some ⟨H1.size, 0, none⟩)] H2 _
    refine HCalls.mono (f157.spec φ A' m c' H.size H1.size u.left n H2 rb hn hm e1 o2 (by omega) (by omega)) ?_
    rintro v G ⟨rfl, hG⟩
    by_cases h : takE n u.left = 0
    · rw [if_pos h] at hG
      obtain ⟨A5, c5, G5, k5, rfl, own5⟩ := hG
      have hz : ¬ n < 0 ∧ ¬ (u.left.length : Int) < n := by
        simp only [takE] at h; grind
      have o5 := k5.obj ob
      have ob5 : objAt (hput G5 H1.size 0 [.slice A5 n.toNat c5]) b #[.slice A m' c, .int .i64 u.at_, .int .i64 0] 68 := o5.frame (hput_other (by omega))
      have kG : Keeps H (hput G5 H1.size 0 [.slice A5 n.toNat c5]) := (k2.trans k5).hput (by omega)
      have oG : objAt (hput G5 H1.size 0 [.slice A5 n.toNat c5]) H1.size #[.slice A5 n.toNat c5] 59 := objAt_put (k5.obj o2) _ _ _ (by simp [spl])
      have ownG : ownB (hput G5 H1.size 0 [.slice A5 n.toNat c5]) H2.size A5 n.toNat c5 (u.left.take n.toNat) := own5.frame fun q hq => hput_other (by have := (own5.own.lt hq).1; omega)
      generalize hput G5 H1.size 0 [.slice A5 n.toNat c5] = G at *
      refine ⟨_, _, rfl, ob5, fun h' => absurd h h', fun _ => ?_⟩
      rw [if_pos h]
      have e2 : cel (hput G b (0 + 1) [.int .i64 (u.at_ + n)]) H1.size 0 = some (.slice A5 n.toNat c5) := by
        rw [objAt_cel (oG.frame (hput_other (by omega)))]; rfl
      simp -zeta only [xL e2]
      have : liftO [] (Cu.take n) (some u) = (u.left.take n.toNat, some { u with at_ := u.at_ + n }) := by
        simp only [liftO, Cu.take, he]; simp [hz]
      rw [this]
      refine ⟨by omega, by omega, trivial, _, _, _, rfl, ?_, cur_at hs kG (by omega) (by omega), offA.ofPut kG _ _ _⟩
      exact (ownG.frame fun q hq => hput_other (by have := (ownG.own.lt hq).1; omega)).base_le (by omega)
    · rw [if_neg h] at hG; subst hG
      refine ⟨_, _, rfl, ob, fun _ => ?_, fun h' => absurd h' h⟩
      have e2 : cel (hput G b (0 + 2) [.int .i64 (takE n u.left)]) H1.size 0 = some (.slice none 0 0) := by
        rw [objAt_cel (o2.frame (hput_other (by omega)))]; rfl
      simp -zeta only [xL e2]
      have : liftO [] (Cu.take n) (some u) = ([], some { u with e := takE n u.left }) := by
        simp only [liftO, Cu.take, he, takE] at h ⊢; grind
      rw [this]
      exact ⟨trivial, _, _, _, rfl, ownB_nil .., cur_err hs k2 _, offA.ofPut k2 _ _ _⟩
/-! ### Text -/
def texE (most : Int) (xs : List Int) : Int := if (getL xs).2.2 ≠ 0 then (getL xs).2.2 else if most < (getL xs).1 then 23 else if (xs.length : Int) - (getL xs).2.1 < (getL xs).1 then 20 else 0
def texL (xs : List Int) : List Int := (xs.drop (getL xs).2.1.toNat).take (getL xs).1.toNat
theorem f158.spec (φ : Fx) (A : Option Addr) (m c b1 b2 : Nat) (xs : List Int) (most : Int) (v0 : ByteArray) (H : Hp) (hr : bytesR H A m xs) (hm : m ≤ 140737488355328) (hc : m ≤ c) (e1 : cel H b1 0 = some (.int .i64 most)) (o2 : objAt H b2 #[.string v0] 9) :
    HCalls cx.P φ 158 [.slice A m c, .pointer (some ⟨b1, 0, none⟩), .pointer (some ⟨b2, 0, none⟩)] H fun r H' => r = .tuple #[.int .i64 (if texE most xs = 0 then (getL xs).2.1 + (getL xs).1 else 0), .int .i64 (texE most xs)] ∧
      H' = if texE most xs = 0 then hput H b2 0 [.string (bytesOf (texL xs))] else H := by
  apply f158.of
  unfold f158.VC
  have hl := hr.1
  have gs := getL_spec (bytesR.rng hr)
  refine HCalls.mono (f153.spec φ A m c xs H hr hm) ?_
  rintro v H' ⟨rfl, rfl⟩
  refine ⟨_, _, _, rfl, fun h => ?_, fun h => ?_⟩
  · have h : (getL xs).2.2 ≠ 0 := by simpa using h
    have : texE most xs = (getL xs).2.2 := by rw [texE, if_pos h]
    rw [this, if_neg h, if_neg h]; exact ⟨rfl, rfl⟩
  have h : (getL xs).2.2 = 0 := by simpa using h
  simp -zeta only [xI e1]
  refine ⟨fun h2 => ?_, fun h2 => ?_⟩
  · simp only [decide_eq_true_eq] at h2
    have : texE most xs = 23 := by rw [texE, if_neg (by simp [h]), if_pos h2]
    rw [this]; exact ⟨rfl, rfl⟩
  simp only [decide_eq_false_iff_not] at h2
  refine ⟨by omega, fun h3 => ?_, fun h3 => ?_⟩
  · simp only [decide_eq_true_eq] at h3
    have : texE most xs = 20 := by rw [texE, if_neg (by simp [h]), if_neg h2, if_pos (by omega)]
    rw [this]; exact ⟨rfl, rfl⟩
  · simp only [decide_eq_false_iff_not] at h3
    have : texE most xs = 0 := by rw [texE, if_neg (by simp [h]), if_neg h2, if_neg (by omega)]
    rw [this, if_pos rfl, if_pos rfl]
    have part := bytesR_part hr (i := (getL xs).2.1.toNat) (j := ((getL xs).2.1 + (getL xs).1).toNat) (c := c) (by omega) (by omega) hc
    have rd := bytesR_rd part
    rw [Nat.mul_one] at rd
    refine ⟨by omega, by omega, _, rd, objAt_canPut o2 (by simp) (by simp [Value.oneCell']), by omega, rfl, ?_⟩
    rw [texL, show ((getL xs).2.1 + (getL xs).1).toNat - (getL xs).2.1.toNat = (getL xs).1.toNat by omega]
theorem f108.spec (φ : Fx) {lo hi : Nat} {p : Option Addr} {s : Option Cu} (most : Int) {H : Hp} (hs : curP H lo hi p s) :
    HCalls cx.P φ 108 [.pointer p, .int .i64 most] H fun r H' => r = .string (bytesOf (liftO [] (Cu.text most) s).1) ∧ curP H' lo hi p (liftO [] (Cu.text most) s).2 ∧ offA p H H' := by
  apply f108.of
  unfold f108.VC
  intro H1
  have e1 : cel H1 H.size 0 = some (.int .i64 most) := cel_new ..
  have k1 : Keeps H H1 := Keeps.push ..
  have s01 : H1.size = H.size + 1 := by simp [H1]
  clear_value H1
  intro H2
  have o2 : objAt H2 H1.size #[.string ⟨#[]⟩] 9 := objAt_new ..
  have k12 : Keeps H1 H2 := Keeps.push ..
  clear_value H2
  have k2 := k1.trans k12
  have e1 := k12.cel e1
  have hs2 := hs.keeps k2
  have s1 := k1.size
  have hnil : (bytesOf [] : ByteArray) = ⟨#[]⟩ := rfl
  refine f151.spec φ _ hs2 _ (fun h => ?_) (fun u b A m' c A' m c' hu he hp ob rb hm hmn hn => ?_)
  · have e2 : cel H2 H1.size 0 = some (.string ⟨#[]⟩) := by rw [objAt_cel o2]; rfl
    simp -zeta only [xS e2]
    have : liftO [] (Cu.text most) s = ([], s) := by
      rcases h with rfl | ⟨u, rfl, hu⟩
      · rfl
      · simp [liftO, Cu.text, hu]
    rw [this]
    exact ⟨trivial, rfl, hs2, k2.offA⟩
  · subst hu; subst hp
    have hlt := (hs.lt rfl).2.2.1
    obtain ⟨a0, a1, al, ar, an⟩ := hs.lenLeft
    have hl := rb.1
    have gs := getL_spec (left_rng ar)
    show HCalls cx.P φ 158 [.slice A' m c', .pointer (some ⟨H.size, 0, none⟩), .pointer (some ⟨H1.size, 0, none⟩)] H2 _
    refine HCalls.mono (f158.spec φ A' m c' H.size H1.size u.left most ⟨#[]⟩ H2 rb hn hm e1 o2) ?_
    rintro v G ⟨rfl, hG⟩
    refine ⟨_, _, rfl, ?_, fun h => ?_, fun h => ?_⟩
    · subst hG; split
      · exact ob.frame (hput_other (by omega))
      · exact ob
    · rw [if_neg h] at hG; subst hG
      have e2 : cel (hput G b (0 + 2) [.int .i64 (texE most u.left)]) H1.size 0 = some (.string ⟨#[]⟩) := by
        rw [objAt_cel (o2.frame (hput_other (by omega)))]; rfl
      simp -zeta only [xS e2]
      have : liftO [] (Cu.text most) (some u) = ([], some { u with e := texE most u.left }) := by
        simp only [liftO, Cu.text, he, texE] at h ⊢; grind
      rw [this]
      exact ⟨trivial, rfl, cur_err hs k2 _, offA.ofPut k2 _ _ _⟩
    · rw [if_pos h] at hG
      have hz : (getL u.left).2.2 = 0 ∧ ¬ most < (getL u.left).1 ∧ ¬ (u.left.length : Int) - (getL u.left).2.1 < (getL u.left).1 := by
        simp only [texE] at h; grind
      have kG : Keeps H G := by subst hG; exact k2.hput (by omega)
      have oG : objAt G H1.size #[.string (bytesOf (texL u.left))] 9 := by subst hG; exact objAt_put o2 _ _ _ (by simp [spl])
      have e2 : cel (hput G b (0 + 1) [.int .i64 (u.at_ + ((getL u.left).2.1 + (getL u.left).1))]) H1.size 0 = some (.string (bytesOf (texL u.left))) := by
        rw [objAt_cel (oG.frame (hput_other (by omega)))]; rfl
      rw [if_pos h]
      simp -zeta only [xS e2]
      have : liftO [] (Cu.text most) (some u) = (texL u.left, some { u with at_ := u.at_ + ((getL u.left).2.1 + (getL u.left).1) }) := by
        simp only [liftO, Cu.text, he, texL]; simp [hz]
      rw [this]
      exact ⟨by omega, by omega, trivial, rfl, cur_at hs kG (by omega) (by omega), offA.ofPut kG _ _ _⟩
/-! ### Fail, Rest, End, NewCursor -/
def failO (k : Int) : Option Cu → Option Cu
  | none => none
  | some u => some (u.fail k)
theorem f159.spec (φ : Fx) (A : Option Addr) (m c b1 : Nat) (k : Int) (H : Hp) (e1 : cel H b1 0 = some (.int .i64 k)) :
    HCalls cx.P φ 159 [.slice A m c, .pointer (some ⟨b1, 0, none⟩)] H fun r H' => r = .tuple #[.int .i64 0, .int .i64 k] ∧ H' = H := by
  apply f159.of
  unfold f159.VC
  simp -zeta only [xI e1]
  exact ⟨trivial, trivial⟩
theorem f110.spec (φ : Fx) {lo hi : Nat} {p : Option Addr} {s : Option Cu} (k : Int) {H : Hp} (hs : curP H lo hi p s) :
    HCalls cx.P φ 110 [.pointer p, .int .i64 k] H fun r H' => r = .tuple #[] ∧ curP H' lo hi p (failO k s) ∧ offA p H H' := by
  apply f110.of
  unfold f110.VC
  intro H1
  have e1 : cel H1 H.size 0 = some (.int .i64 k) := cel_new ..
  have k1 : Keeps H H1 := Keeps.push ..
  clear_value H1
  have hs1 := hs.keeps k1
  refine f151.spec φ _ hs1 _ (fun h => ?_) (fun u b A m' c A' m c' hu he hp ob rb hm hmn hn => ?_)
  · have : failO k s = s := by
      rcases h with rfl | ⟨u, rfl, hu⟩
      · rfl
      · simp [failO, Cu.fail, hu]
    rw [this]
    exact ⟨rfl, rfl, hs1, k1.offA⟩
  · subst hu; subst hp
    obtain ⟨a0, a1, al, ar, an⟩ := hs.lenLeft
    show HCalls cx.P φ 159 [.slice A' m c', .pointer (some ⟨H.size, 0, none⟩)] H1 _
    refine HCalls.mono (f159.spec φ A' m c' H.size k H1 e1) ?_
    rintro v G ⟨rfl, rfl⟩
    have : failO k (some u) = some { u with e := k } := by simp [failO, Cu.fail, he]
    rw [this]
    refine ⟨_, _, rfl, ob, fun h => ⟨rfl, rfl, cur_err hs k1 _, offA.ofPut k1 _ _ _⟩, fun h => ⟨by omega, by omega, rfl, rfl, ?_, offA.ofPut k1 _ _ _⟩⟩
    have := cur_at hs k1 (d := 0) (by omega) (by omega)
    have e : ({ u with e := k } : Cu) = { u with at_ := u.at_ + 0 } := by cases u; simp at he ⊢; omega
    rw [e]; exact this
def restO : Option Cu → Int
  | none => 0
  | some u => u.rest
def endO : Option Cu → Int × Int
  | none => (1, 0)
  | some u => u.endE
theorem f40.spec (φ : Fx) {lo hi : Nat} {p : Option Addr} {s : Option Cu} {H : Hp} (hs : curP H lo hi p s) :
    HCalls cx.P φ 40 [.pointer p] H fun r H' => r = .int .i64 (restO s) ∧ H' = H := by
  apply f40.of
  unfold f40.VC
  cases s with
  | none =>
    have hp : p = none := hs
    subst hp
    refine join1 true H ?_ ?_
    · exact ⟨fun _ => ⟨rfl, rfl⟩, fun h => (nomatch h)⟩
    intro _
    exact ⟨fun _ => ⟨rfl, rfl⟩, fun h => (nomatch h)⟩
  | some u =>
    obtain ⟨a0, a1, al, ar, an⟩ := hs.lenLeft
    obtain ⟨b, A, n, c, rfl, hb1, hb2, ob, own, hq, ha0, ha1, hn⟩ := hs
    have hl := own.len
    have e0 : cel H b 0 = some (.slice A n c) := by rw [objAt_cel ob]; rfl
    have e1 : cel H b (0 + 1) = some (.int .i64 u.at_) := by rw [objAt_cel ob]; rfl
    have e2 : cel H b (0 + 2) = some (.int .i64 u.e) := by rw [objAt_cel ob]; rfl
    refine join1 (decide (u.e ≠ 0)) H ?_ ?_
    · refine ⟨fun h => (nomatch h), fun _ => ?_⟩
      simp -zeta only [xA, xI e2]
      exact ⟨by simp, trivial⟩
    intro _
    simp -zeta only [xA, xL e0, xI e1]
    refine ⟨fun h => ⟨?_, trivial⟩, fun h => ⟨by omega, ?_, trivial⟩⟩
    · have h : u.e ≠ 0 := by simpa using h
      simp [restO, Cu.rest, h]
    · have h : u.e = 0 := by simpa using h
      simp [restO, Cu.rest, h, hl]
theorem f42.spec (φ : Fx) {lo hi : Nat} {p : Option Addr} {s : Option Cu} {H : Hp} (hs : curP H lo hi p s) :
    HCalls cx.P φ 42 [.pointer p] H fun r H' => r = .agg #[.int .i64 (endO s).1, .int .i64 (endO s).2] ∧ Keeps H H' := by
  apply f42.of
  unfold f42.VC
  intro H1
  have o1 : objAt H1 H.size #[.int .i64 0, .int .i64 0] 70 := objAt_new ..
  have k1 : Keeps H H1 := Keeps.push ..
  clear_value H1
  have fin : ∀ a b : Int, canPut H1 H.size 0 [.int .i64 a, .int .i64 b] ∧ cel (hput H1 H.size 0 [.int .i64 a, .int .i64 b]) H.size 0 = some (.int .i64 a) ∧ cel (hput H1 H.size 0 [.int .i64 a, .int .i64 b]) H.size (0 + 1) = some (.int .i64 b) ∧ Keeps H (hput H1 H.size 0 [.int .i64 a, .int .i64 b]) := fun a b => by
    have o := objAt_put o1 0 [.int .i64 a, .int .i64 b] #[.int .i64 a, .int .i64 b] (by simp [spl])
    exact ⟨objAt_canPut o1 (by simp) (by simp [Value.oneCell']), by rw [objAt_cel o]; rfl, by rw [objAt_cel o]; rfl, k1.hput (Nat.le_refl _)⟩
  cases s with
  | none =>
    have hp : p = none := hs
    subst hp
    obtain ⟨f1, f2, f3, f4⟩ := fin 1 0
    refine ⟨fun _ => ⟨f1, ?_⟩, fun h => (nomatch h)⟩
    simp only [xI f2, xI f3]
    exact ⟨rfl, f4⟩
  | some u =>
    obtain ⟨a0, a1, al, ar, an⟩ := hs.lenLeft
    obtain ⟨b, A, n, c, rfl, hb1, hb2, ob, own, hq, ha0, ha1, hn⟩ := hs.keeps k1
    have hl := own.len
    have e0 : cel H1 b 0 = some (.slice A n c) := by rw [objAt_cel ob]; rfl
    have e1 : cel H1 b (0 + 1) = some (.int .i64 u.at_) := by rw [objAt_cel ob]; rfl
    have e2 : cel H1 b (0 + 2) = some (.int .i64 u.e) := by rw [objAt_cel ob]; rfl
    refine ⟨fun h => (nomatch h), fun _ => ?_⟩
    simp -zeta only [xA, xI e2, xI e1, xL e0]
    refine ⟨fun h => ?_, fun h => ⟨fun h2 => ?_, fun h2 => ?_⟩⟩
    · have h : u.e ≠ 0 := by simpa using h
      obtain ⟨f1, f2, f3, f4⟩ := fin u.e u.at_
      refine ⟨f1, ?_⟩
      simp only [xI f2, xI f3]
      exact ⟨by simp [endO, Cu.endE, h], f4⟩
    · have h : u.e = 0 := by simpa using h
      simp only [decide_eq_true_eq] at h2
      obtain ⟨f1, f2, f3, f4⟩ := fin 22 u.at_
      refine ⟨f1, ?_⟩
      simp only [xI f2, xI f3]
      refine ⟨?_, f4⟩
      have : u.at_ < u.xs.length := by omega
      simp [endO, Cu.endE, h, this]
    · have h : u.e = 0 := by simpa using h
      simp only [decide_eq_false_iff_not] at h2
      obtain ⟨f1, f2, f3, f4⟩ := fin 0 0
      refine ⟨f1, ?_⟩
      simp only [xI f2, xI f3]
      refine ⟨?_, f4⟩
      have : ¬ u.at_ < u.xs.length := by omega
      simp [endO, Cu.endE, h, this]
theorem f37.spec (φ : Fx) (A : Option Addr) (n c : Nat) (xs : List Int) (H : Hp) (hr : bytesR H A n xs) (hn : n ≤ 140737488355328) :
    HCalls cx.P φ 37 [.slice A n c] H fun r H' => ∃ b, r = .pointer (some ⟨b, 0, none⟩) ∧ curP H' H.size H'.size (some ⟨b, 0, none⟩) (some ⟨xs, 0, 0⟩) ∧ Keeps H H' := by
  apply f37.of
  unfold f37.VC
  refine app_bytes (ownB_nil H H.size) hr (by omega) (Nat.le_refl _) ?_
  intro A' c' H1 own f _ _
  have k1 := offA_none f
  rw [Nat.zero_add, List.nil_append] at own
  refine ⟨_, _, _, rfl, ?_⟩
  simp -zeta only [Nat.zero_add]
  intro H2
  have o2 : objAt H2 H1.size #[.slice A' n c', .int .i64 0, .int .i64 0] 68 := objAt_new ..
  have k12 : Keeps H1 H2 := Keeps.push ..
  have s2 : H2.size = H1.size + 1 := by simp [H2]
  clear_value H2
  have s1 := k1.size
  exact ⟨H1.size, rfl, ⟨H1.size, A', n, c', rfl, s1, by omega, o2, own.keeps k12, fun q hq => by have := (own.own.lt hq).2; omega, by dsimp only; omega, by dsimp only; omega, hn⟩, k1.trans k12⟩
end Go.Proofs.Ytkkjjjgcfnhabaa.Eng
namespace Go.Proofs.Ytkkjjjgcfnhabaa.Eng
open Go Go.Proofs
/-! ### The document's cursor in memory -/
def cellsR (A : Option Addr) (n c : Nat) (s : Cu) : Array Value := #[.slice A n c, .int .i64 s.at_, .bool (decide (s.e ≠ 0)), .int .i64 s.e, .int .i64 (if s.e = 0 then 0 else s.at_)]
def curR (H : Hp) (lo hi : Nat) (p : Option Addr) : Option Cu → Prop
  | none => p = none
  | some s => ∃ b A n c, p = some ⟨b, 0, none⟩ ∧ lo ≤ b ∧ b < hi ∧ objAt H b (cellsR A n c s) 72 ∧ ownB H lo A n c s.xs ∧ (∀ q, A = some ⟨q, 0, none⟩ → q < hi) ∧ 0 ≤ s.at_ ∧ s.at_ ≤ n ∧ n ≤ 140737488355328
theorem curR.frame {H H' : Hp} {lo hi : Nat} {p : Option Addr} {s : Option Cu} (h : curR H lo hi p s) (hf : ∀ k, lo ≤ k → k < hi → H'[k]? = H[k]?) : curR H' lo hi p s := by
  cases s with
  | none => exact h
  | some s =>
    obtain ⟨b, A, n, c, h1, h2, h3, h4, h5, h6, h7⟩ := h
    exact ⟨b, A, n, c, h1, h2, h3, h4.frame (hf b h2 h3), h5.frame fun q hq => hf q (h5.own.lt hq).1 (h6 q hq), h6, h7⟩
theorem curR.keeps {H H' : Hp} {lo hi : Nat} {p : Option Addr} {s : Option Cu} (h : curR H lo hi p s) (k : Keeps H H') : curR H' lo hi p s := by
  cases s with
  | none => exact h
  | some s =>
    obtain ⟨b, A, n, c, h1, h2, h3, h4, h5, h6, h7⟩ := h
    exact ⟨b, A, n, c, h1, h2, h3, k.obj h4, h5.keeps k, h6, h7⟩
theorem curR.lt {H : Hp} {lo hi : Nat} {p : Option Addr} {s : Option Cu} (h : curR H lo hi p s) {b : Nat} (hb : p = some ⟨b, 0, none⟩) : lo ≤ b ∧ b < hi ∧ b < H.size ∧ ∃ cs, objAt H b cs 72 := by
  cases s with
  | none => subst hb; exact absurd h (by simp [curR])
  | some s =>
    obtain ⟨b', A, n, c, h1, h2, h3, h4, _⟩ := h
    rw [h1] at hb; cases hb
    exact ⟨h2, h3, objAt_lt h4, _, h4⟩
/-- A change of an object of another kind. -/
theorem curR.off {H H' : Hp} {lo hi : Nat} {p q : Option Addr} {s : Option Cu} (h : curR H lo hi p s) (f : offA q H H') (hq : ∀ b, q = some ⟨b, 0, none⟩ → ∃ cs t, objAt H b cs t ∧ t ≠ 72 ∧ t ≠ 5) : curR H' lo hi p s := by
  cases s with
  | none => exact h
  | some s =>
    obtain ⟨b, A, n, c, h1, h2, h3, h4, h5, h6, h7⟩ := h
    refine ⟨b, A, n, c, h1, h2, h3, h4.frame (f.2 b (objAt_lt h4) fun e => ?_), h5.frame fun d hd => f.2 d (h5.own.lt hd).2 fun e => ?_, h6, h7⟩
    · obtain ⟨cs, t, o, t1, _⟩ := hq b e
      exact o.ne h4 t1 rfl
    · obtain ⟨cs, t, o, _, t2⟩ := hq d e
      obtain ⟨cs', o'⟩ := h5.own.tob hd
      exact o.ne o' t2 rfl
theorem curP.off {H H' : Hp} {lo hi : Nat} {p q : Option Addr} {s : Option Cu} (h : curP H lo hi p s) (f : offA q H H') (hq : ∀ b, q = some ⟨b, 0, none⟩ → ∃ cs t, objAt H b cs t ∧ t ≠ 68 ∧ t ≠ 5) : curP H' lo hi p s := by
  cases s with
  | none => exact h
  | some s =>
    obtain ⟨b, A, n, c, h1, h2, h3, h4, h5, h6, h7⟩ := h
    refine ⟨b, A, n, c, h1, h2, h3, h4.frame (f.2 b (objAt_lt h4) fun e => ?_), h5.frame fun d hd => f.2 d (h5.own.lt hd).2 fun e => ?_, h6, h7⟩
    · obtain ⟨cs, t, o, t1, _⟩ := hq b e
      exact o.ne h4 t1 rfl
    · obtain ⟨cs, t, o, _, t2⟩ := hq d e
      obtain ⟨cs', o'⟩ := h5.own.tob hd
      exact o.ne o' t2 rfl
theorem curR.lenLeft {H : Hp} {lo hi : Nat} {p : Option Addr} {u : Cu} (h : curR H lo hi p (some u)) : 0 ≤ u.at_ ∧ u.at_ ≤ u.xs.length ∧ (u.left.length : Int) = u.xs.length - u.at_ ∧ (∀ x ∈ u.xs, 0 ≤ x ∧ x < 256) ∧ u.xs.length ≤ 140737488355328 := by
  obtain ⟨b', A, n, c, h1, h2, h3, h4, h5, h6, h7, h8, h9⟩ := h
  have := h5.len
  exact ⟨h7, by omega, by simp [Cu.left]; omega, h5.rng, by omega⟩
theorem curR_at {H G : Hp} {lo hi b : Nat} {u : Cu} (h : curR H lo hi (some ⟨b, 0, none⟩) (some u)) (k : Keeps H G) (he : u.e = 0) {v : Int} (hd : 0 ≤ v) (hl : v ≤ u.xs.length) :
    canPut G b (0 + 1) [.int .i64 v] ∧ curR (hput G b (0 + 1) [.int .i64 v]) lo hi (some ⟨b, 0, none⟩) (some { u with at_ := v }) := by
  obtain ⟨b', A, n, c, h1, h2, h3, h4, h5, h6, h7, h8, h9⟩ := h
  cases h1
  have o := k.obj h4
  have ow := h5.keeps k
  have hle := h5.len
  refine ⟨objAt_canPut o (by simp [cellsR]) (by simp [Value.oneCell']), b, A, n, c, rfl, h2, h3, objAt_put o _ _ _ (by simp [spl, cellsR, he]), ow.frame fun q hq => hput_other fun e => ?_, h6, hd, by dsimp only; omega, h9⟩
  obtain ⟨cs, oq⟩ := ow.own.tob hq
  exact oq.ne o (by decide) e.symm
theorem f111.spec (φ : Fx) {lo hi : Nat} {p : Option Addr} {s : Option Cu} (k : Int) {H : Hp} (hs : curR H lo hi p s) :
    HCalls cx.P φ 111 [.pointer p, .int .i64 k] H fun r H' => r = .tuple #[] ∧ curR H' lo hi p (failO k s) ∧ offA p H H' := by
  apply f111.of
  unfold f111.VC
  cases s with
  | none =>
    have hp : p = none := hs
    subst hp
    refine join1 true H ?_ ?_
    · exact ⟨fun _ => ⟨rfl, rfl⟩, fun h => (nomatch h)⟩
    intro _
    exact ⟨fun _ => ⟨rfl, hs, offA.refl ..⟩, fun h => (nomatch h)⟩
  | some u =>
    have hs0 := hs
    obtain ⟨b, A, n, c, rfl, hb1, hb2, ob, own, hq, ha0, ha1, hn⟩ := hs
    have e2 : cel H b (0 + 2) = some (.bool (decide (u.e ≠ 0))) := by rw [objAt_cel ob]; rfl
    refine join1 (decide (u.e ≠ 0) || decide (k = 0)) H ?_ ?_
    · refine ⟨fun h => (nomatch h), fun _ => ?_⟩
      simp -zeta only [xA, xB e2]
      grind
    intro _
    refine ⟨fun h => ?_, fun h => ?_⟩
    · have : failO k (some u) = some u := by
        simp only [Bool.or_eq_true, decide_eq_true_eq] at h
        simp only [failO, Cu.fail]
        split
        · rfl
        · obtain ⟨x, a, e⟩ := u
          simp_all
      rw [this]
      exact ⟨rfl, hs0, offA.refl ..⟩
    · simp only [Bool.or_eq_false_iff, decide_eq_false_iff_not, Decidable.not_not] at h
      obtain ⟨he, hk⟩ := h
      simp -zeta only [xA]
      refine ⟨objAt_canPut ob (by simp [cellsR]) (by simp [Value.oneCell']), ?_⟩
      intro H2
      have o2 : objAt H2 b #[.slice A n c, .int .i64 u.at_, .bool true, .int .i64 u.e, .int .i64 (if u.e = 0 then 0 else u.at_)] 72 := objAt_put ob _ _ _ (by simp [spl, cellsR])
      have x2 : ∀ q, q ≠ b → H2[q]? = H[q]? := fun q hq => hput_other (fun e => hq e.symm)
      have s2 : H2.size = H.size := hput_size ..
      clear_value H2
      have q1 : cel H2 b (0 + 1) = some (.int .i64 u.at_) := by rw [objAt_cel o2]; rfl
      simp -zeta only [xI q1]
      refine ⟨objAt_canPut o2 (by simp) (by simp [Value.oneCell']), ?_⟩
      have : failO k (some u) = some { u with e := k } := by simp [failO, Cu.fail, he]
      rw [this]
      have ne : ∀ q, A = some ⟨q, 0, none⟩ → q ≠ b := fun q hq e => by
        obtain ⟨cs, oq⟩ := own.own.tob hq
        exact oq.ne ob (by decide) e
      refine ⟨trivial, ⟨b, A, n, c, rfl, hb1, hb2, objAt_put o2 _ _ _ (by simp [spl, cellsR, hk]), own.frame fun q hq' => ?_, hq, ha0, ha1, hn⟩, ⟨by rw [hput_size]; omega, fun q hq' hne => ?_⟩⟩
      · rw [hput_other (ne q hq').symm, x2 q (ne q hq')]
      · have : q ≠ b := fun e => hne (by rw [e])
        rw [hput_other this.symm, x2 q this]
theorem f41.spec (φ : Fx) {lo hi : Nat} {p : Option Addr} {s : Option Cu} {H : Hp} (hs : curR H lo hi p s) :
    HCalls cx.P φ 41 [.pointer p] H fun r H' => r = .int .i64 (restO s) ∧ H' = H := by
  apply f41.of
  unfold f41.VC
  cases s with
  | none =>
    have hp : p = none := hs
    subst hp
    refine join1 true H ?_ ?_
    · exact ⟨fun _ => ⟨rfl, rfl⟩, fun h => (nomatch h)⟩
    intro _
    exact ⟨fun _ => ⟨rfl, rfl⟩, fun h => (nomatch h)⟩
  | some u =>
    obtain ⟨a0, a1, al, ar, an⟩ := hs.lenLeft
    obtain ⟨b, A, n, c, rfl, hb1, hb2, ob, own, hq, ha0, ha1, hn⟩ := hs
    have hl := own.len
    have e0 : cel H b 0 = some (.slice A n c) := by rw [objAt_cel ob]; rfl
    have e1 : cel H b (0 + 1) = some (.int .i64 u.at_) := by rw [objAt_cel ob]; rfl
    have e2 : cel H b (0 + 2) = some (.bool (decide (u.e ≠ 0))) := by rw [objAt_cel ob]; rfl
    refine join1 (decide (u.e ≠ 0)) H ?_ ?_
    · refine ⟨fun h => (nomatch h), fun _ => ?_⟩
      simp -zeta only [xA, xB e2]
      exact ⟨trivial, trivial⟩
    intro _
    simp -zeta only [xA, xL e0, xI e1]
    refine ⟨fun h => ⟨?_, trivial⟩, fun h => ⟨by omega, ?_, trivial⟩⟩
    · have h : u.e ≠ 0 := by simpa using h
      simp [restO, Cu.rest, h]
    · have h : u.e = 0 := by simpa using h
      simp [restO, Cu.rest, h, hl]
/-- The head of the document's calls: none, or failed already. -/
theorem isFail {p : Option Addr} {s : Option Cu} {H : Hp} {lo hi : Nat} (hs : curR H lo hi p s) {B : Bool → (Nat → Value) → Hp → Prop} (h1 : ∀ j, B (match s with | none => true | some u => decide (u.e ≠ 0)) j H) :
    ∃ M : Bool → Hp → Prop, ((Option.isNone p = true → M true H) ∧ (Option.isNone p = false → ∃ b o : Nat, p = some ⟨b, o, none⟩ ∧ ∃ x : Bool, cel H b (o + 2) = some (.bool x) ∧ M x H)) ∧
      ∀ (x : Bool) (j : Nat → Value) (H' : Hp), M x H' → B x j H' := by
  refine join1 _ H ?_ h1
  cases s with
  | none =>
    have hp : p = none := hs
    subst hp
    exact ⟨fun _ => ⟨rfl, rfl⟩, fun h => (nomatch h)⟩
  | some u =>
    obtain ⟨b, A, n, c, rfl, hb1, hb2, ob, own, hq, ha0, ha1, hn⟩ := hs
    have e2 : cel H b (0 + 2) = some (.bool (decide (u.e ≠ 0))) := by rw [objAt_cel ob]; rfl
    exact ⟨fun h => (nomatch h), fun _ => ⟨b, 0, rfl, _, e2, rfl, rfl⟩⟩
theorem f101.spec (φ : Fx) {lo hi : Nat} {p : Option Addr} {s : Option Cu} (most : Int) {H : Hp} (hs : curR H lo hi p s) :
    HCalls cx.P φ 101 [.pointer p, .int .i64 most] H fun r H' => r = .int .i64 (liftO 0 (Cu.num most) s).1 ∧ curR H' lo hi p (liftO 0 (Cu.num most) s).2 ∧ offA p H H' := by
  apply f101.of
  unfold f101.VC
  refine isFail hs fun _ => ?_
  cases s with
  | none => exact ⟨fun _ => ⟨rfl, hs, offA.refl ..⟩, fun h => (nomatch h)⟩
  | some u =>
    refine ⟨fun h => ?_, fun h => ?_⟩
    · have h : u.e ≠ 0 := by simpa using h
      have : liftO 0 (Cu.num most) (some u) = (0, some u) := by simp [liftO, Cu.num, h]
      rw [this]; exact ⟨rfl, hs, offA.refl ..⟩
    have he : u.e = 0 := by simpa using h
    have hs0 := hs
    obtain ⟨a0, a1, al, ar, an⟩ := hs.lenLeft
    have gs := getL_spec (left_rng ar)
    obtain ⟨b, A, n, c, rfl, hb1, hb2, ob, own, hq, ha0, ha1, hn⟩ := hs
    have hl := own.len
    have hnc := own.own.2.1
    have e0 : cel H b 0 = some (.slice A n c) := by rw [objAt_cel ob]; rfl
    have e1 : cel H b (0 + 1) = some (.int .i64 u.at_) := by rw [objAt_cel ob]; rfl
    simp -zeta only [xA, xL e0, xI e1]
    have part := bytesR_part own.row (i := u.at_.toNat) (j := n) (c := c) (by omega) (Nat.le_refl _) hnc
    rw [List.take_of_length_le (by simp; omega)] at part
    refine ⟨⟨ha0, ha1⟩, HCalls.mono (f154.spec φ _ _ _ u.left H part (by omega)) ?_⟩
    rintro v H' ⟨rfl, rfl⟩
    refine ⟨_, _, _, rfl, ?_⟩
    refine join1 (decide ((getL u.left).2.2 = 0) && decide (most < (getL u.left).1)) H' ?_ ?_
    · grind
    intro _
    refine join1 (numE most u.left) H' ?_ ?_
    · simp only [numE]; grind
    intro _
    refine ⟨fun h => ?_, fun h => ?_⟩
    · have h : numE most u.left ≠ 0 := by simpa using h
      have e : liftO 0 (Cu.num most) (some u) = (0, some { u with e := numE most u.left }) := by
        simp only [liftO, Cu.num, he, numE] at h ⊢; grind
      rw [e]
      refine HCalls.mono (f111.spec φ (numE most u.left) hs0) ?_
      rintro v G ⟨rfl, cG, fG⟩
      have e2 : failO (numE most u.left) (some u) = some { u with e := numE most u.left } := by simp [failO, Cu.fail, he]
      rw [e2] at cG
      exact ⟨rfl, rfl, cG, fG⟩
    · have h : numE most u.left = 0 := by simpa using h
      have hz : (getL u.left).2.2 = 0 ∧ ¬ most < (getL u.left).1 := by
        simp only [numE] at h; split at h
        · contradiction
        · split at h <;> simp_all
      have e : liftO 0 (Cu.num most) (some u) = ((getL u.left).1, some { u with at_ := u.at_ + (getL u.left).2.1 }) := by
        simp only [liftO, Cu.num, he]; simp [hz]
      rw [e]
      obtain ⟨c1, c2⟩ := curR_at hs0 (Keeps.refl _) he (v := u.at_ + (getL u.left).2.1) (by omega) (by omega)
      exact ⟨_, e1, by omega, c1, rfl, c2, offA.ofPut (Keeps.refl _) _ _ _⟩
theorem f106.spec (φ : Fx) {lo hi : Nat} {p : Option Addr} {s : Option Cu} (n : Int) {H : Hp} (hs : curR H lo hi p s) :
    HCalls cx.P φ 106 [.pointer p, .int .i64 n] H fun r H' => ∃ A' m' c', r = .slice A' m' c' ∧ ownB H' H.size A' m' c' (liftO [] (Cu.take n) s).1 ∧ curR H' lo hi p (liftO [] (Cu.take n) s).2 ∧ offA p H H' := by
  apply f106.of
  unfold f106.VC
  refine isFail hs fun _ => ?_
  cases s with
  | none => exact ⟨fun _ => ⟨_, _, _, rfl, ownB_nil .., hs, offA.refl ..⟩, fun h => (nomatch h)⟩
  | some u =>
    refine ⟨fun h => ?_, fun h => ?_⟩
    · have h : u.e ≠ 0 := by simpa using h
      have : liftO [] (Cu.take n) (some u) = ([], some u) := by simp [liftO, Cu.take, h]
      rw [this]; exact ⟨_, _, _, rfl, ownB_nil .., hs, offA.refl ..⟩
    have he : u.e = 0 := by simpa using h
    have hs0 := hs
    obtain ⟨a0, a1, al, ar, an⟩ := hs.lenLeft
    have bad : ∀ k : Int, k ≠ 0 → liftO [] (Cu.take n) (some u) = ([], some { u with e := k }) → ∀ K : Value → Hp → Prop, (∀ H', curR H' lo hi p (some { u with e := k }) → offA p H H' → K (.tuple #[]) H') → HCalls cx.P φ 111 [.pointer p, .int .i64 k] H K := by
      intro k hk _ K hK
      refine HCalls.mono (f111.spec φ k hs0) ?_
      rintro v G ⟨rfl, cG, fG⟩
      have e2 : failO k (some u) = some { u with e := k } := by simp [failO, Cu.fail, he]
      rw [e2] at cG
      exact hK G cG fG
    refine ⟨fun h => ?_, fun h => ?_⟩
    · simp only [decide_eq_true_eq] at h
      have e : liftO [] (Cu.take n) (some u) = ([], some { u with e := 23 }) := by simp [liftO, Cu.take, he, h]
      refine bad 23 (by decide) e _ fun H' c f => ⟨rfl, _, _, _, rfl, ?_⟩
      rw [e]; exact ⟨ownB_nil .., c, f⟩
    simp only [decide_eq_false_iff_not] at h
    refine HCalls.mono (f41.spec φ hs0) ?_
    rintro v H' ⟨rfl, rfl⟩
    have hrest : restO (some u) = u.left.length := by simp [restO, Cu.rest, he]; omega
    rw [hrest]
    refine ⟨_, rfl, fun h2 => ?_, fun h2 => ?_⟩
    · simp only [decide_eq_true_eq] at h2
      have e : liftO [] (Cu.take n) (some u) = ([], some { u with e := 20 }) := by simp [liftO, Cu.take, he, h, h2]
      refine bad 20 (by decide) e _ fun H' c f => ⟨rfl, _, _, _, rfl, ?_⟩
      rw [e]; exact ⟨ownB_nil .., c, f⟩
    simp only [decide_eq_false_iff_not] at h2
    have e : liftO [] (Cu.take n) (some u) = (u.left.take n.toNat, some { u with at_ := u.at_ + n }) := by
      simp only [liftO, Cu.take, he]; simp [h, h2]
    rw [e]
    obtain ⟨b, A, m, c, rfl, hb1, hb2, ob, own, hq, ha0, ha1, hn⟩ := hs
    have hl := own.len
    have hnc := own.own.2.1
    have e0 : cel H' b 0 = some (.slice A m c) := by rw [objAt_cel ob]; rfl
    have e1 : cel H' b (0 + 1) = some (.int .i64 u.at_) := by rw [objAt_cel ob]; rfl
    simp -zeta only [xA, xL e0, xI e1]
    refine ⟨by omega, by omega, ?_⟩
    have part := bytesR_part own.row (i := u.at_.toNat) (j := (u.at_ + n).toNat) (c := c) (by omega) (by omega) hnc
    rw [show (u.at_ + n).toNat - u.at_.toNat = n.toNat by omega] at part ⊢
    refine app_bytes (ownB_nil H' H'.size) part (by omega) (Nat.le_refl _) ?_
    intro A' c' G ownG f _ _
    have kG := offA_none f
    rw [Nat.zero_add, List.nil_append] at ownG
    refine ⟨_, _, _, rfl, ?_⟩
    simp -zeta only [xI (kG.cel e1), Nat.zero_add]
    obtain ⟨c1, c2⟩ := curR_at hs0 kG he (v := u.at_ + n) (by omega) (by omega)
    rw [Nat.zero_add] at c1 c2
    refine ⟨by omega, c1, _, _, _, rfl, ownG.frame fun q hq => hput_other (by have := (ownG.own.lt hq).1; have := objAt_lt ob; omega), c2, offA.ofPut kG _ _ _⟩
theorem f103.spec (φ : Fx) {lo hi : Nat} {p : Option Addr} {s : Option Cu} (n : Int) {H : Hp} (hs : curR H lo hi p s) :
    HCalls cx.P φ 103 [.pointer p, .int .i64 n] H fun r H' => r = .int .u64 (liftO 0 (Cu.fixed n) s).1 ∧ curR H' lo hi p (liftO 0 (Cu.fixed n) s).2 ∧ offA p H H' := by
  apply f103.of
  unfold f103.VC
  refine isFail hs fun _ => ?_
  cases s with
  | none => exact ⟨fun _ => ⟨rfl, hs, offA.refl ..⟩, fun h => (nomatch h)⟩
  | some u =>
    refine ⟨fun h => ?_, fun h => ?_⟩
    · have h : u.e ≠ 0 := by simpa using h
      have : liftO 0 (Cu.fixed n) (some u) = (0, some u) := by simp [liftO, Cu.fixed, h]
      rw [this]; exact ⟨rfl, hs, offA.refl ..⟩
    have he : u.e = 0 := by simpa using h
    have hs0 := hs
    obtain ⟨a0, a1, al, ar, an⟩ := hs.lenLeft
    refine join1 (decide (n < 1) || decide (8 < n)) H ?_ ?_
    · grind
    intro _
    refine ⟨fun h => ?_, fun h => ?_⟩
    · simp only [Bool.or_eq_true, decide_eq_true_eq] at h
      have e : liftO 0 (Cu.fixed n) (some u) = (0, some { u with e := 23 }) := by simp [liftO, Cu.fixed, he, h]
      refine HCalls.mono (f111.spec φ 23 hs0) ?_
      rintro v G ⟨rfl, cG, fG⟩
      have e2 : failO 23 (some u) = some { u with e := 23 } := by simp [failO, Cu.fail, he]
      rw [e2] at cG
      rw [e]; exact ⟨rfl, rfl, cG, fG⟩
    · simp only [Bool.or_eq_false_iff, decide_eq_false_iff_not] at h
      refine HCalls.mono (f106.spec φ n hs0) ?_
      rintro v G ⟨A', m', c', rfl, own, cG, fG⟩
      have hm := own.len
      have hlt : (liftO [] (Cu.take n) (some u)).1.length ≤ 140737488355328 := by
        simp only [liftO, Cu.take]; split
        · simp
        · split
          · simp
          · split <;> simp <;> omega
      refine ⟨_, _, _, rfl, HCalls.mono (f156.spec φ _ _ _ _ G own.row (by omega)) ?_⟩
      rintro v G' ⟨rfl, rfl⟩
      refine ⟨_, rfl, ?_, ?_, fG⟩
      · by_cases q : (u.left.length : Int) < n
        · simp only [liftO, Cu.take, Cu.fixed, he]
          simp [q, h, show ¬ n < 0 by omega, wordL]
        · simp only [liftO, Cu.take, Cu.fixed, he]
          simp only [ne_eq, not_true, if_false, q, show ¬ n < 0 by omega, show ¬ (n < 1 ∨ 8 < n) by omega]
          rw [List.take_of_length_le (by simp; omega)]
      · have : (liftO [] (Cu.take n) (some u)).2 = (liftO 0 (Cu.fixed n) (some u)).2 := by
          simp only [liftO, Cu.take, Cu.fixed, he]
          simp only [ne_eq, not_true, if_false, show ¬ n < 0 by omega, show ¬ (n < 1 ∨ 8 < n) by omega]
          split <;> rfl
        rw [← this]; exact cG
theorem f43.spec (φ : Fx) {lo hi : Nat} {p : Option Addr} {s : Option Cu} {H : Hp} (hs : curR H lo hi p s) :
    HCalls cx.P φ 43 [.pointer p] H fun r H' => r = .agg #[.int .i64 (endO s).1, .int .i64 (endO s).2] ∧ Keeps H H' := by
  apply f43.of
  unfold f43.VC
  intro H1
  have o1 : objAt H1 H.size #[.int .i64 0, .int .i64 0] 70 := objAt_new ..
  have k1 : Keeps H H1 := Keeps.push ..
  clear_value H1
  have fin : ∀ a b : Int, canPut H1 H.size 0 [.int .i64 a, .int .i64 b] ∧ cel (hput H1 H.size 0 [.int .i64 a, .int .i64 b]) H.size 0 = some (.int .i64 a) ∧ cel (hput H1 H.size 0 [.int .i64 a, .int .i64 b]) H.size (0 + 1) = some (.int .i64 b) ∧ Keeps H (hput H1 H.size 0 [.int .i64 a, .int .i64 b]) := fun a b => by
    have o := objAt_put o1 0 [.int .i64 a, .int .i64 b] #[.int .i64 a, .int .i64 b] (by simp [spl])
    exact ⟨objAt_canPut o1 (by simp) (by simp [Value.oneCell']), by rw [objAt_cel o]; rfl, by rw [objAt_cel o]; rfl, k1.hput (Nat.le_refl _)⟩
  cases s with
  | none =>
    have hp : p = none := hs
    subst hp
    obtain ⟨f1, f2, f3, f4⟩ := fin 1 0
    refine ⟨fun _ => ⟨f1, ?_⟩, fun h => (nomatch h)⟩
    simp only [xI f2, xI f3]
    exact ⟨rfl, f4⟩
  | some u =>
    obtain ⟨a0, a1, al, ar, an⟩ := hs.lenLeft
    obtain ⟨b, A, n, c, rfl, hb1, hb2, ob, own, hq, ha0, ha1, hn⟩ := hs.keeps k1
    have hl := own.len
    have e0 : cel H1 b 0 = some (.slice A n c) := by rw [objAt_cel ob]; rfl
    have e1 : cel H1 b (0 + 1) = some (.int .i64 u.at_) := by rw [objAt_cel ob]; rfl
    have e2 : cel H1 b (0 + 2) = some (.bool (decide (u.e ≠ 0))) := by rw [objAt_cel ob]; rfl
    have e3 : cel H1 b (0 + 3) = some (.int .i64 u.e) := by rw [objAt_cel ob]; rfl
    have e4 : cel H1 b (0 + 3 + 1) = some (.int .i64 (if u.e = 0 then 0 else u.at_)) := by rw [objAt_cel ob]; rfl
    refine ⟨fun h => (nomatch h), fun _ => ?_⟩
    simp -zeta only [xA, xB e2, xI e1, xL e0, xI e3, xI e4]
    refine ⟨fun h => ?_, fun h => ⟨fun h2 => ?_, fun h2 => ?_⟩⟩
    · have h : u.e ≠ 0 := by simpa using h
      rw [if_neg h]
      obtain ⟨f1, f2, f3, f4⟩ := fin u.e u.at_
      refine ⟨f1, ?_⟩
      simp only [xI f2, xI f3]
      exact ⟨by simp [endO, Cu.endE, h], f4⟩
    · have h : u.e = 0 := by simpa using h
      simp only [decide_eq_true_eq] at h2
      obtain ⟨f1, f2, f3, f4⟩ := fin 22 u.at_
      refine ⟨f1, ?_⟩
      simp only [xI f2, xI f3]
      refine ⟨?_, f4⟩
      have : u.at_ < u.xs.length := by omega
      simp [endO, Cu.endE, h, this]
    · have h : u.e = 0 := by simpa using h
      simp only [decide_eq_false_iff_not] at h2
      obtain ⟨f1, f2, f3, f4⟩ := fin 0 0
      refine ⟨f1, ?_⟩
      simp only [xI f2, xI f3]
      refine ⟨?_, f4⟩
      have : ¬ u.at_ < u.xs.length := by omega
      simp [endO, Cu.endE, h, this]
theorem f39.spec (φ : Fx) (A : Option Addr) (n c : Nat) (xs : List Int) (H : Hp) (hr : bytesR H A n xs) (hn : n ≤ 140737488355328) :
    HCalls cx.P φ 39 [.slice A n c] H fun r H' => ∃ b, r = .pointer (some ⟨b, 0, none⟩) ∧ curR H' H.size H'.size (some ⟨b, 0, none⟩) (some ⟨xs, 0, 0⟩) ∧ Keeps H H' := by
  apply f39.of
  unfold f39.VC
  intro H1
  have o1 : objAt H1 H.size #[.slice none 0 0, .int .i64 0, .bool false, .int .i64 0, .int .i64 0] 72 := objAt_new ..
  have k1 : Keeps H H1 := Keeps.push ..
  have s1 : H1.size = H.size + 1 := by simp [H1]
  clear_value H1
  have e0 : cel H1 H.size 0 = some (.slice none 0 0) := by rw [objAt_cel o1]; rfl
  simp -zeta only [xA, xL e0]
  refine app_bytes (ownB_nil H1 H1.size) (hr.keeps isU8.mono k1) (by omega) (Nat.le_refl _) ?_
  intro A' c' H2 own f _ _
  have k12 := offA_none f
  rw [Nat.zero_add, List.nil_append] at own
  refine ⟨_, _, _, rfl, ?_⟩
  have o2 := k12.obj o1
  refine ⟨objAt_canPut o2 (by simp) (by simp [Value.oneCell']), ?_⟩
  have s2 := k12.size
  simp -zeta only [Nat.zero_add]
  intro H3
  have o3 : objAt H3 H.size (cellsR A' n c' ⟨xs, 0, 0⟩) 72 := objAt_put o2 _ _ _ (by simp [spl, cellsR])
  have s3 : H3.size = H2.size := hput_size ..
  have own3 : ownB H3 H1.size A' n c' xs := own.frame fun q hq => hput_other (by have := (own.own.lt hq).1; omega)
  have k3 : Keeps H H3 := (k1.trans k12).hput (Nat.le_refl _)
  clear_value H3
  exact ⟨H.size, rfl, ⟨H.size, A', n, c', rfl, Nat.le_refl _, by omega, o3, own3.base_le (by omega), fun q hq => by have := (own3.own.lt hq).2; omega, by dsimp only; omega, by dsimp only; omega, hn⟩, k3⟩
end Go.Proofs.Ytkkjjjgcfnhabaa.Eng
namespace Go.Proofs.Ytkkjjjgcfnhabaa.Eng
open Go Go.Proofs
theorem f109.spec (φ : Fx) {lo hi : Nat} {p : Option Addr} {s : Option Cu} (most : Int) {H : Hp} (hs : curR H lo hi p s) :
    HCalls cx.P φ 109 [.pointer p, .int .i64 most] H fun r H' => r = .string (bytesOf (liftO [] (Cu.text most) s).1) ∧ curR H' lo hi p (liftO [] (Cu.text most) s).2 ∧ offA p H H' := by
  apply f109.of
  unfold f109.VC
  have hnil : (bytesOf [] : ByteArray) = ⟨#[]⟩ := rfl
  refine isFail hs fun _ => ?_
  cases s with
  | none => exact ⟨fun _ => ⟨rfl, hs, offA.refl ..⟩, fun h => (nomatch h)⟩
  | some u =>
    refine ⟨fun h => ?_, fun h => ?_⟩
    · have h : u.e ≠ 0 := by simpa using h
      have : liftO [] (Cu.text most) (some u) = ([], some u) := by simp [liftO, Cu.text, h]
      rw [this]; exact ⟨rfl, hs, offA.refl ..⟩
    have he : u.e = 0 := by simpa using h
    have hs0 := hs
    obtain ⟨a0, a1, al, ar, an⟩ := hs.lenLeft
    have gs := getL_spec (left_rng ar)
    obtain ⟨b, A, n, c, rfl, hb1, hb2, ob, own, hq, ha0, ha1, hn⟩ := hs
    have e1 : cel H b (0 + 1) = some (.int .i64 u.at_) := by rw [objAt_cel ob]; rfl
    simp -zeta only [xA, xI e1]
    refine HCalls.mono (f101.spec φ most hs0) ?_
    rintro v H2 ⟨rfl, c2, f2⟩
    refine ⟨_, rfl, ?_⟩
    by_cases hbad : (getL u.left).2.2 ≠ 0 ∨ most < (getL u.left).1
    · -- the number failed
      obtain ⟨k, hk, e, et⟩ : ∃ k : Int, k ≠ 0 ∧ liftO 0 (Cu.num most) (some u) = (0, some { u with e := k }) ∧ liftO [] (Cu.text most) (some u) = ([], some { u with e := k }) := by
        by_cases q : (getL u.left).2.2 ≠ 0
        · exact ⟨_, q, by simp [liftO, Cu.num, he, q], by simp [liftO, Cu.text, he, q]⟩
        · have q2 : most < (getL u.left).1 := by omega
          have q : (getL u.left).2.2 = 0 := by omega
          exact ⟨23, by decide, by simp [liftO, Cu.num, he, q, q2], by simp [liftO, Cu.text, he, q, q2]⟩
      rw [e] at c2 ⊢
      rw [et]
      have c2' := c2
      obtain ⟨b', A', n', c', hb', _, _, ob2, _⟩ := c2
      cases hb'
      have q2 : cel H2 b (0 + 2) = some (.bool (decide (k ≠ 0))) := by rw [objAt_cel ob2]; rfl
      simp -zeta only [xB q2]
      refine ⟨fun _ => ⟨rfl, c2', f2⟩, fun h => ?_⟩
      simp [hk] at h
    · have hz : (getL u.left).2.2 = 0 ∧ ¬ most < (getL u.left).1 := by omega
      have hg : 1 ≤ (getL u.left).2.1 ∧ (getL u.left).2.1 ≤ u.left.length ∧ 0 ≤ (getL u.left).1 ∧ (getL u.left).1 ≤ 9223372036854775807 := by omega
      have e : liftO 0 (Cu.num most) (some u) = ((getL u.left).1, some { u with at_ := u.at_ + (getL u.left).2.1 }) := by
        simp only [liftO, Cu.num, he]; simp [hz]
      rw [e] at c2 ⊢
      generalize hu1 : ({ u with at_ := u.at_ + (getL u.left).2.1 } : Cu) = u1 at c2 ⊢
      have u1e : u1.e = 0 := by rw [← hu1]; exact he
      have u1at : u1.at_ = u.at_ + (getL u.left).2.1 := by rw [← hu1]
      have u1xs : u1.xs = u.xs := by rw [← hu1]
      have c2' := c2
      obtain ⟨b', A', n', c', hb', _, _, ob2, _⟩ := c2
      cases hb'
      have q2 : cel H2 b (0 + 2) = some (.bool (decide (u1.e ≠ 0))) := by rw [objAt_cel ob2]; rfl
      simp -zeta only [xB q2]
      refine ⟨fun h => by simp [u1e] at h, fun _ => ?_⟩
      refine HCalls.mono (f41.spec φ c2') ?_
      rintro v H3 ⟨rfl, rfl⟩
      have hrest : restO (some u1) = u.left.length - (getL u.left).2.1 := by simp [restO, Cu.rest, u1e, u1at, u1xs]; omega
      rw [hrest]
      refine ⟨_, rfl, fun h => ?_, fun h => ?_⟩
      · simp only [decide_eq_true_eq] at h
        have et : liftO [] (Cu.text most) (some u) = ([], some { u with e := 20 }) := by
          simp only [liftO, Cu.text, he]; simp [hz, h]
        obtain ⟨p1, p2⟩ := curR_at c2' (Keeps.refl _) u1e (v := u.at_) (by omega) (by rw [u1xs]; omega)
        refine ⟨p1, ?_⟩
        have eu : ({ u1 with at_ := u.at_ } : Cu) = u := by rw [← hu1]
        rw [eu] at p2
        refine HCalls.mono (f111.spec φ 20 p2) ?_
        rintro v H5 ⟨rfl, c5, f5⟩
        have e2 : failO 20 (some u) = some { u with e := 20 } := by simp [failO, Cu.fail, he]
        rw [e2] at c5
        rw [et]
        refine ⟨rfl, rfl, c5, f2.step (Or.inl rfl) (offA.step (offA.ofPut (Keeps.refl _) b (0 + 1) _) (Or.inl rfl) f5)⟩
      · simp only [decide_eq_false_iff_not] at h
        have et : liftO [] (Cu.text most) (some u) = (texL u.left, some { u with at_ := u.at_ + ((getL u.left).2.1 + (getL u.left).1) }) := by
          simp only [liftO, Cu.text, he, texL]; simp [hz, h]
        refine HCalls.mono (f106.spec φ (getL u.left).1 c2') ?_
        rintro v H6 ⟨A6, m6, c6, rfl, own6, c6', f6⟩
        have u1left : u1.left = u.left.drop (getL u.left).2.1.toNat := by
          show u1.xs.drop u1.at_.toNat = (u.xs.drop u.at_.toNat).drop _
          rw [u1xs, u1at, List.drop_drop]; congr 1; omega
        have tk : liftO [] (Cu.take (getL u.left).1) (some u1) = (texL u.left, some { u with at_ := u.at_ + ((getL u.left).2.1 + (getL u.left).1) }) := by
          have h1 : ¬ (getL u.left).1 < 0 := by omega
          have h2 : ¬ (u1.left.length : Int) < (getL u.left).1 := by rw [u1left, List.length_drop]; omega
          have eq : ({ u1 with at_ := u1.at_ + (getL u.left).1 } : Cu) = { u with at_ := u.at_ + ((getL u.left).2.1 + (getL u.left).1) } := by
            rw [← hu1]
            simp only [Cu.mk.injEq, true_and, and_true]
            omega
          have tk1 : u1.take (getL u.left).1 = (u1.left.take (getL u.left).1.toNat, { u1 with at_ := u1.at_ + (getL u.left).1 }) := by
            rw [Cu.take, if_neg (by simp [u1e]), if_neg h1, if_neg h2]
          simp only [liftO, tk1, eq, texL, u1left]
        rw [tk] at own6 c6'
        rw [et]
        have rd := bytesR_rd own6.row
        rw [Nat.mul_one] at rd
        exact ⟨_, _, _, rfl, _, rd, rfl, c6', f2.step (Or.inl rfl) f6⟩
end Go.Proofs.Ytkkjjjgcfnhabaa.Eng
namespace Go.Proofs.Ytkkjjjgcfnhabaa.Eng
open Go Go.Proofs
/-- As app_own; and where the list moved, nothing that was there has turned. -/
theorem app_own' {C : Ctx} {t tx : TypeId} {i : TI} {e : TypeId} {ie : TI} (hi : tget C.T t = some i) (hk : i.k = .slc e) (hie : tget C.T e = some ie)
    {x : Value} (hb : (srcB C tx x && Nat.blt 0 ie.size && Nat.blt 0 ie.bytes && Nat.beq ie.zero.length ie.size) = true) {H : Hp} {base : Nat} {A : Option Addr} {n c : Nat} {vs : List Value}
    (h : ownC H base e ie.size A n c vs) {m : Nat} {ys : List Value} (hs : srcC H ie.size x m ys) (hy : ys.length = m * ie.size) (hv : ∀ v ∈ ys, v.oneCell' = true) (hn : (n + m) * ie.bytes ≤ 140737488355328)
    (hbase : base ≤ H.size) {K : Value → Hp → Prop}
    (hK : ∀ A' c' H', ownC H' base e ie.size A' (n + m) c' (vs ++ ys) → offA A H H' → ((A' = A ∧ c' = c) ∨ (A' = some ⟨H.size, 0, none⟩ ∧ Keeps H H')) → (m = 0 ∨ A' ≠ none) → K (.slice A' (n + m) c') H') :
    appW C t tx (.slice A n c) x H K := by
  obtain ⟨hl, hnc, ho⟩ := h
  have hsz : 0 < ie.size := by
    simp only [Bool.and_eq_true] at hb; exact Nat.le_of_ble_eq_true hb.1.1.2
  have hzl : ie.zero.length = ie.size := by
    simp only [Bool.and_eq_true] at hb; exact Nat.eq_of_beq_eq_true hb.2
  unfold appW
  simp only [hi, hk, hie]
  rw [hb]
  refine ⟨m, ys, hs, fun hc => ?_, fun hc => ⟨hn, vs, ?_, fun cap h1 h2 => ?_⟩⟩
  · rcases ho with ⟨rfl, rfl⟩ | ⟨b, cs, h3, rfl, h5, h6, h7⟩
    · have : m = 0 := by omega
      subst this
      have : ys = [] := List.eq_nil_of_length_eq_zero (by omega)
      subst this
      refine ⟨Or.inl rfl, ?_⟩
      have := hK none 0 H ⟨by simp [hl], by omega, Or.inl ⟨rfl, rfl⟩⟩ ⟨Nat.le_refl _, fun _ _ _ => rfl⟩ (Or.inl ⟨rfl, rfl⟩) (Or.inl rfl)
      simpa [hputA] using this
    · have hle : n * ie.size + ys.length ≤ cs.size := by
        rw [hy, h6, ← Nat.add_mul]; exact Nat.mul_le_mul_right _ hc
      refine ⟨Or.inr ⟨b, 0, rfl, cs, e, 0, 0, h5, by simpa using hle, by omega, hv⟩, ?_⟩
      have ho' := objAt_hput h5 (0 + n * ie.size) ys
      rw [Nat.zero_add] at ho'
      refine hK _ _ _ ⟨by simp [hl, hy, Nat.add_mul], hc, Or.inr ⟨b, _, h3, rfl, ?_, by rw [size_spl _ _ _ hle]; exact h6, ?_⟩⟩ ⟨by simp [hputA, hput_size], fun k hk hne => ?_⟩ (Or.inl ⟨rfl, rfl⟩) (Or.inr (by simp))
      · simpa [hputA] using ho'
      · rw [Nat.add_mul, ← hy, spl_take hle, h7]
      · simp only [hputA]
        exact hput_other (fun e => hne (by rw [e]))
  · have h : ownC H base e ie.size A n c vs := ⟨hl, hnc, ho⟩
    exact h.rd
  · refine hK _ _ _ ⟨by simp [hl, hy, Nat.add_mul], h1, Or.inr ⟨H.size, _, hbase, rfl, objAt_new _ _ _, ?_, ?_⟩⟩ ⟨by simp, fun k hk _ => ?_⟩ (Or.inr ⟨rfl, Keeps.push ..⟩) (Or.inr (by simp))
    · simp only [List.size_toArray, List.length_append, hl, hy, zrow_length, hzl]
      rw [← Nat.add_mul, ← Nat.add_mul]; congr 1; omega
    · simp only [List.toList_toArray]
      rw [List.take_append_of_le_length (by simp [hl, hy, Nat.add_mul])]
      rw [List.take_of_length_le (by simp [hl, hy, Nat.add_mul])]
    · rw [Array.getElem?_push, if_neg (by omega)]
theorem app_byte' {H : Hp} {base : Nat} {A : Option Addr} {n c : Nat} {xs : List Int} (own : ownB H base A n c xs) (hbase : base ≤ H.size) (hn : n ≤ 140737488355327) {y : Int} (hy : 0 ≤ y ∧ y < 256) {d : Nat} {K : Value → Hp → Prop}
    (hK : ∀ A' c' H', ownB H' base A' (n + 1) c' (xs ++ [y]) → offA A H H' → ((A' = A ∧ c' = c) ∨ ((∃ q, H.size ≤ q ∧ A' = some ⟨q, 0, none⟩) ∧ Keeps H H')) → K (.slice A' (n + 1) c') H') :
    appW cx 59 59 (.slice A n c) (.slice (some ⟨H.size, 0, none⟩) 1 d) (Array.push H (.cells #[.int .u8 y] 5 (0, 0))) K := by
  have k : Keeps H (Array.push H (.cells #[.int .u8 y] 5 (0, 0))) := Keeps.push ..
  have r : bytesR (Array.push H (.cells #[.int .u8 y] 5 (0, 0))) (some ⟨H.size, 0, none⟩) 1 [y] := by
    have := bytes_new H [y] (by intro x hx; simp at hx; subst hx; exact hy) (0, 0) 1 rfl
    simpa using this
  have hr := bytesR_rd r
  refine app_own' (i := ⟨59, .slc 5, 1, 24, [.slice none 0 0], [.slc], [(false, [.slc])], false⟩) (e := 5) (ie := ⟨5, .int .u8, 1, 1, [.int .u8 0], [.int .u8], [(false, [.int .u8])], false⟩) rfl rfl rfl rfl (own.own.keeps k) (m := 1) (ys := [Value.int .u8 y])
    (show srcC _ 1 (.slice (some ⟨H.size, 0, none⟩) 1 d) 1 _ from ⟨rfl, hr⟩) rfl (by simp [Value.oneCell']) (by show (n + 1) * 1 ≤ _; omega) (by have := k.size; omega) ?_
  intro A' c' H' w f e _
  refine hK A' c' H' ⟨by rw [List.map_append]; exact w, fun x hx => ?_⟩ ⟨Nat.le_trans k.size f.1, fun q hq hne => by rw [f.2 q (Nat.lt_of_lt_of_le hq k.size) hne]; exact k.old q hq⟩ ?_
  · rcases List.mem_append.1 hx with q | q
    · exact own.rng x q
    · simp at q; subst q; exact hy
  · rcases e with e | ⟨e, k2⟩
    · exact Or.inl e
    · exact Or.inr ⟨⟨_, k.size, e⟩, k.trans k2⟩
theorem f105.same (φ : Fx) (A B : Option Addr) (n m c d : Nat) (xs : List Int) (H : Hp) (hx : bytesR H A n xs) (hy : bytesR H B m xs) (hn : n ≤ 140737488355328) :
    HCalls cx.P φ 105 [.slice A n c, .slice B m d] H fun v H' => v = .bool true ∧ H' = H := by
  apply f105.of
  unfold f105.VC
  have hl : n = m := by rw [← hx.1, ← hy.1]
  subst hl
  refine ⟨fun h => by simp at h, fun _ => ?_⟩
  refine ⟨fun i H' => H' = H ∧ 0 ≤ i ∧ i ≤ n, fun i _ => (n - i).toNat, ⟨rfl, by omega, by omega⟩, ?_⟩
  rintro i _ H' ⟨rfl, h0, h1⟩
  refine ⟨fun hi => ?_, fun hi => ⟨rfl, rfl⟩⟩
  simp only [decide_eq_true_eq] at hi
  obtain ⟨x, b, o, hx1, rfl, cx, _⟩ := hx.at h0 hi
  obtain ⟨y, b2, o2, hy1, rfl, cy, _⟩ := hy.at h0 hi
  rw [hx1] at hy1; cases hy1
  simp only [xA, xI cx, xI cy]
  simp
  omega
/-! ### Bytes in new memory, with marks behind them -/
theorem f38.same (φ : Fx) (A B : Option Addr) (n c d : Nat) (xs : List Int) (H : Hp) (hx : bytesR H A (n + 64) (xs ++ List.replicate 64 150)) (hy : bytesR H B n xs) (hn : n ≤ 140737488355264) :
    HCalls cx.P φ 38 [.slice A (n + 64) c, .slice B n d] H fun v H' => v = .bool true ∧ H' = H := by
  apply f38.of
  unfold f38.VC
  have hl := hy.1
  refine ⟨by omega, fun h => ?_, fun _ => ?_⟩
  · simp at h
  refine ⟨fun i H' => H' = H ∧ 0 ≤ i ∧ i ≤ n + 64, fun i _ => (n + 64 - i).toNat, ⟨rfl, by omega, by omega⟩, ?_⟩
  rintro i _ H' ⟨rfl, h0, h1⟩
  refine ⟨fun hi => ?_, fun hi => ⟨rfl, rfl⟩⟩
  simp only [decide_eq_true_eq] at hi
  obtain ⟨x, b, o, hx1, rfl, cx, _⟩ := hx.at h0 (by omega)
  refine join1 false H' ?_ ?_
  · by_cases q : i < n
    · obtain ⟨y, b2, o2, hy1, rfl, cy, _⟩ := hy.at h0 q
      rw [List.getElem?_append_left (by omega), hy1] at hx1
      cases hx1
      simp only [xA, xI cx, xI cy]
      simp [q]; omega
    · rw [List.getElem?_append_right (by omega), List.getElem?_replicate, if_pos (by omega)] at hx1
      cases hx1
      simp only [xA, xI cx]
      simp [q]; omega
  intro _
  exact ⟨fun h => (nomatch h), fun _ => ⟨by omega, ⟨rfl, by omega, by omega⟩, by dsimp only; omega⟩⟩
theorem f36.spec (φ : Fx) (A : Option Addr) (n c : Nat) (xs : List Int) (H : Hp) (hr : bytesR H A n xs) (hn : n ≤ 140737488355264) :
    HCalls cx.P φ 36 [.slice A n c] H fun r H' => ∃ b, r = .slice (some ⟨b, 0, none⟩) (n + 64) (n + 64) ∧ b = H.size ∧ ownB H' H.size (some ⟨b, 0, none⟩) (n + 64) (n + 64) (xs ++ List.replicate 64 150) ∧ Keeps H H' := by
  apply f36.of
  unfold f36.VC
  have hl := hr.1
  have hN : Int.toNat (((n : Nat) : Int) + 64) = n + 64 := by omega
  simp -zeta only [hN]
  refine ⟨by omega, by omega, ?_⟩
  intro H1
  have o1 : objAt H1 H.size (zrow [Value.int .u8 0] (n + 64)).toArray 5 := objAt_new ..
  have k1 : Keeps H H1 := Keeps.push ..
  clear_value H1
  rw [zrow_one] at o1
  have own1 : ownB H1 H.size (some ⟨H.size, 0, none⟩) (n + 64) (n + 64) (List.replicate (n + 64) 0) := by
    refine ownB_obj ?_ (Nat.le_refl _) (by simp) (by intro x hx; have := List.eq_of_mem_replicate hx; omega)
    have : (List.replicate (n + 64) (0 : Int)).map (Value.int .u8) = (List.range (n + 64)).map fun _ => Value.int .u8 0 := by
      rw [List.map_replicate]; apply List.ext_getElem? ; intro i; by_cases h : i < n + 64 <;> simp [h]
    rw [this]; exact o1
  -- after i rounds
  have key : ∀ i : Nat, i ≤ n + 64 → ((xs ++ List.replicate 64 150).take i ++ List.replicate (n + 64 - i) (0 : Int)).length = n + 64 := by
    intro i hi; simp; omega
  refine ⟨fun i H' => 0 ≤ i ∧ i ≤ n + 64 ∧ Keeps H H' ∧ ownB H' H.size (some ⟨H.size, 0, none⟩) (n + 64) (n + 64) ((xs ++ List.replicate 64 150).take i.toNat ++ List.replicate (n + 64 - i.toNat) 0), fun i _ => (n + 64 - i).toNat, ⟨by omega, by omega, k1, by simpa using own1⟩, ?_⟩
  rintro i _ H2 ⟨h0, h1, k2, own2⟩
  refine ⟨fun hi => ?_, fun hi => ?_⟩
  · simp only [decide_eq_true_eq] at hi
    simp -zeta only [xA]
    have setE : ∀ v : Int, ((xs ++ List.replicate 64 150).take i.toNat ++ List.replicate (n + 64 - i.toNat) (0 : Int)).set i.toNat v = (xs ++ List.replicate 64 150).take i.toNat ++ v :: List.replicate (n + 64 - (i.toNat + 1)) 0 := by
      intro v
      rw [List.set_append_right _ _ (by simp; omega)]
      have : i.toNat - ((xs ++ List.replicate 64 150).take i.toNat).length = 0 := by simp; omega
      rw [this, show n + 64 - i.toNat = (n + 64 - (i.toNat + 1)) + 1 by omega, List.replicate_succ]
      rfl
    obtain ⟨p1, p2⟩ := ownB_set own2 (i := i.toNat) (by omega) (y := 150) (by omega)
    refine ⟨⟨h0, by omega⟩, p1, ?_⟩
    intro H3
    have k3 : Keeps H H3 := k2.hput (Nat.le_refl _)
    have p2 : ownB H3 H.size (some ⟨H.size, 0, none⟩) (n + 64) (n + 64) (((xs ++ List.replicate 64 150).take i.toNat ++ List.replicate (n + 64 - i.toNat) (0 : Int)).set i.toNat 150) := p2
    clear_value H3
    have nextE : ∀ (v : Int) (G : Hp), (xs ++ List.replicate 64 150)[i.toNat]? = some v → ownB G H.size (some ⟨H.size, 0, none⟩) (n + 64) (n + 64) (((xs ++ List.replicate 64 150).take i.toNat ++ List.replicate (n + 64 - i.toNat) (0 : Int)).set i.toNat v) →
        ownB G H.size (some ⟨H.size, 0, none⟩) (n + 64) (n + 64) ((xs ++ List.replicate 64 150).take (i + 1).toNat ++ List.replicate (n + 64 - (i + 1).toNat) 0) := by
      intro v G hv hw
      have e : (i + 1).toNat = i.toNat + 1 := by omega
      rw [setE] at hw
      rw [e, List.take_add_one, hv]
      simpa using hw
    refine ⟨fun H' => Keeps H H' ∧ ownB H' H.size (some ⟨H.size, 0, none⟩) (n + 64) (n + 64) ((xs ++ List.replicate 64 150).take (i + 1).toNat ++ List.replicate (n + 64 - (i + 1).toNat) 0), ⟨fun hj => ?_, fun hj => ?_⟩, fun _ H5 h5 => ⟨by omega, ⟨by omega, by omega, h5.1, h5.2⟩, by omega⟩⟩
    · simp only [decide_eq_true_eq] at hj
      obtain ⟨x, b, o, hx, rfl, cx, hu⟩ := hr.at h0 hj
      simp -zeta only [xA, xI (k3.cel cx)]
      obtain ⟨r1, r2⟩ := ownB_set p2 (i := i.toNat) (by omega) (y := x) ⟨hu.1, hu.2⟩
      rw [List.set_set] at r2
      exact ⟨⟨h0, hj⟩, ⟨h0, by omega⟩, r1, k3.hput (Nat.le_refl _), nextE x _ (by rw [List.getElem?_append_left (by omega)]; exact hx) r2⟩
    · simp only [decide_eq_false_iff_not] at hj
      exact ⟨k3, nextE 150 _ (by rw [List.getElem?_append_right (by omega), List.getElem?_replicate, if_pos (by omega)]) p2⟩
  · simp only [decide_eq_false_iff_not] at hi
    have : i.toNat = n + 64 := by omega
    rw [this, List.take_of_length_le (by simp; omega), Nat.sub_self] at own2
    exact ⟨H.size, rfl, rfl, by simpa using own2, k2⟩
end Go.Proofs.Ytkkjjjgcfnhabaa.Eng
