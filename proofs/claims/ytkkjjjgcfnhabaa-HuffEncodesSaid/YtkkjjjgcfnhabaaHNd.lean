/- Part HNd of the proof of the claim in this folder: a way to walk code, and the contracts of the functions that the law reaches. Conditions: none. -/
import Derived.Test.YtkkjjjgcfnhabaaHNc
set_option linter.unusedVariables false
set_option linter.unusedSimpArgs false
set_option maxRecDepth 10000
namespace Go.Proofs.Ytkkjjjgcfnhabaa.Eng
open Go Go.Proofs
section
variable (rk : Th → Nat)
theorem getA {p A B s : List Th} {c : Nat} (h : c < p.length + A.length) (h0 : p.length ≤ c) : (p ++ A ++ B ++ s)[c]? = A[c - p.length]? := by
  rw [List.getElem?_append_left (by simp; omega), List.getElem?_append_left (by simp; omega), List.getElem?_append_right (by omega)]
theorem getB {p A B s : List Th} {c : Nat} (h0 : p.length + A.length ≤ c) (h : c < p.length + A.length + B.length) : (p ++ A ++ B ++ s)[c]? = B[c - (p.length + A.length)]? := by
  rw [List.getElem?_append_left (by simp; omega), List.getElem?_append_right (by simp; omega)]; simp
theorem snoc_of {l : List Th} {x : Th} {k : Nat} (h : l[k]? = some x) : l.take (k + 1) = l.take k ++ [x] := by rw [List.take_add_one, h]; rfl
/-- The one thing on the left goes to its place. -/
theorem merge1 {x : Th} {B : List Th} {i : Nat} (hB : srt rk B) (hr : rbe rk [x] B) (h1 : ∀ (k : Nat) (y : Th), k < i → B[k]? = some y → y.w < x.w) (h2 : ∀ (k : Nat) (y : Th), i ≤ k → B[k]? = some y → ¬ y.w < x.w) :
    srt rk (B.take i ++ x :: B.drop i) := by
  refine srt_insert rk (by rw [List.take_append_drop]; exact hB) (fun y hy => ?_) (fun y hy => ?_)
  · obtain ⟨k, hk⟩ := List.mem_iff_getElem?.1 hy
    rw [List.getElem?_take] at hk
    split at hk
    · rename_i hki; exact Or.inl (h1 k y hki hk)
    · cases hk
  · obtain ⟨k, hk⟩ := List.mem_iff_getElem?.1 hy
    rw [List.getElem?_drop] at hk
    have a := h2 _ y (Nat.le_add_right i k) hk
    have b := hr x (by simp) y (List.mem_iff_getElem?.2 ⟨_, hk⟩)
    unfold lx; omega
theorem merge2 {x : Th} {A : List Th} {i : Nat} (hA : srt rk A) (hr : rbe rk A [x]) (h1 : ∀ (k : Nat) (y : Th), k < i → A[k]? = some y → ¬ x.w < y.w) (h2 : ∀ (k : Nat) (y : Th), i ≤ k → A[k]? = some y → x.w < y.w) :
    srt rk (A.take i ++ x :: A.drop i) := by
  refine srt_insert rk (by rw [List.take_append_drop]; exact hA) (fun y hy => ?_) (fun y hy => ?_)
  · obtain ⟨k, hk⟩ := List.mem_iff_getElem?.1 hy
    rw [List.getElem?_take] at hk
    split at hk
    · rename_i hki
      have a := h1 k y hki hk
      have b := hr y (List.mem_iff_getElem?.2 ⟨_, hk⟩) x (by simp)
      unfold lx; omega
    · cases hk
  · obtain ⟨k, hk⟩ := List.mem_iff_getElem?.1 hy
    rw [List.getElem?_drop] at hk
    exact Or.inl (h2 _ y (Nat.le_add_right i k) hk)
theorem f195.left (φ : Fx) {b n c base : Nat} {p A B s : List Th} {H : Hp} (own : ownTh H base (some ⟨b, 0, none⟩) n c (p ++ A ++ B ++ s)) (hn : n ≤ 1099511627776) (hAl : 0 < A.length) (hBl : 0 < B.length) (hA : srt rk A) (hB : srt rk B) (hr : rbe rk A B)
    {a m e : Nat} (ha : a = p.length) (hm : m = p.length + A.length) (he : e = p.length + A.length + B.length) (h1 : A.length = 1) :
    HCalls cx.P φ 195 [.slice (some ⟨b, 0, none⟩) n c, .int .i64 (a : Int), .int .i64 (m : Int), .int .i64 (e : Int), cmpV] H fun r H' => r = .tuple #[] ∧ offA (some ⟨b, 0, none⟩) H H' ∧ ∃ C, C.Perm (A ++ B) ∧ srt rk C ∧ ownTh H' base (some ⟨b, 0, none⟩) n c (p ++ C ++ s) := by
  apply f195.of
  unfold f195.VC
  have hl := own.len
  simp only [List.length_append] at hl
  subst ha
  refine ⟨by omega, fun hone => ?_, fun hone => ?_⟩
  · -- one thing on the left
    simp only [decide_eq_true_eq] at hone
    obtain ⟨x, rfl⟩ : ∃ x, A = [x] := by
      match A, hAl with
      | [x], _ => exact ⟨x, rfl⟩
      | x :: y :: r, _ => simp at hm; omega
    simp only [List.length_cons, List.length_nil] at *
    have hx0 : (p ++ [x] ++ B ++ s)[p.length]? = some x := by simp
    refine ⟨fun i j H' => (m : Int) ≤ i ∧ i ≤ j ∧ j ≤ e ∧ offA (some ⟨b, 0, none⟩) H H' ∧ ownTh H' base (some ⟨b, 0, none⟩) n c (p ++ [x] ++ B ++ s) ∧
        (∀ (k : Nat) (y : Th), (k : Int) < i - m → B[k]? = some y → y.w < x.w) ∧ (∀ (k : Nat) (y : Th), j - m ≤ (k : Int) → B[k]? = some y → ¬ y.w < x.w), fun i j _ => (j - i).toNat,
      ⟨by omega, by omega, by omega, offA.refl .., own, fun k y hk => by omega, fun k y hk hy => by have := (List.getElem?_eq_some_iff.1 hy).1; omega⟩, ?_⟩
    rintro i j _ H1 ⟨i0, ij, je, f1, ow, L, R⟩
    refine ⟨fun hij => ?_, fun hij => ?_⟩
    · simp only [decide_eq_true_eq] at hij
      have hh := half i j (by omega) (by omega)
      obtain ⟨h, hh2⟩ : ∃ h : Nat, (i + j) / 2 = (h : Int) := ⟨((i + j) / 2).toNat, by omega⟩
      rw [hh, hh2]
      have hb1 : m ≤ h ∧ h < e := by omega
      obtain ⟨y, hy, ty⟩ := ow.at (i := h) (by omega)
      have gy := hy
      rw [getB (p := p) (A := [x]) (by simp; omega) (by simp; omega)] at gy
      simp only [List.length_cons, List.length_nil] at gy
      obtain ⟨x', hx', tx⟩ := ow.at (i := p.length) (by omega)
      rw [hx0] at hx'; cases hx'
      simp -zeta only [xA, Int.toNat_natCast, xT ty, xT tx]
      refine ⟨by omega, by omega, ⟨by omega, by omega⟩, ⟨by omega, by omega⟩, cmp_call φ y x H1 fun H2 k2 => ⟨_, rfl, ?_⟩⟩
      have mono : ∀ (k : Nat) (z : Th), B[k]? = some z → (k ≤ h - (p.length + (0 + 1)) → z.w ≤ y.w) ∧ (h - (p.length + (0 + 1)) ≤ k → y.w ≤ z.w) := fun k z hz => ⟨fun q => srt_w rk hB q hz gy, fun q => srt_w rk hB q gy hz⟩
      refine ⟨fun i2 j2 H' => ((m : Int) ≤ i2 ∧ i2 ≤ j2 ∧ j2 ≤ e ∧ offA (some ⟨b, 0, none⟩) H H' ∧ ownTh H' base (some ⟨b, 0, none⟩) n c (p ++ [x] ++ B ++ s) ∧
        (∀ (k : Nat) (y : Th), (k : Int) < i2 - m → B[k]? = some y → y.w < x.w) ∧ (∀ (k : Nat) (y : Th), j2 - m ≤ (k : Int) → B[k]? = some y → ¬ y.w < x.w)) ∧ (j2 - i2).toNat < (j - i).toNat, ⟨fun hc => ?_, fun hc => ?_⟩, fun i2 j2 _ H' h => h⟩
      · simp only [decide_eq_true_eq] at hc
        have hw := (cmpW_neg y x).1 hc
        exact ⟨by omega, ⟨by omega, by omega, by omega, f1.keep k2, ow.keeps k2, fun k z hk hz => by have := (mono k z hz).1 (by omega); omega, R⟩, by omega⟩
      · simp only [decide_eq_false_iff_not] at hc
        have hw : ¬ y.w < x.w := fun q => hc ((cmpW_neg y x).2 q)
        exact ⟨⟨by omega, by omega, by omega, f1.keep k2, ow.keeps k2, L, fun k z hk hz => by have := (mono k z hz).2 (by omega); omega⟩, by omega⟩
    · simp only [decide_eq_false_iff_not] at hij
      obtain ⟨t, ht⟩ : ∃ t : Nat, i - m = (t : Int) := ⟨(i - m).toNat, by omega⟩
      have htB : t ≤ B.length := by omega
      have S := merge1 rk hB hr (i := t) (fun k y hk hy => L k y (by omega) hy) (fun k y hk hy => R k y (by omega) hy)
      have lt1 : (B.take t).length = t := by simp; omega
      refine ⟨fun k H' => (p.length : Int) ≤ k ∧ k ≤ p.length + t ∧ offA (some ⟨b, 0, none⟩) H H' ∧ ownTh H' base (some ⟨b, 0, none⟩) n c ((p ++ B.take (k - p.length).toNat) ++ x :: (B.drop (k - p.length).toNat ++ s)), fun k _ => (i - 1 - k).toNat,
        ⟨by omega, by omega, f1, by simpa using ow⟩, ?_⟩
      rintro k _ H4 ⟨k0, k1, f4, o4⟩
      refine ⟨by omega, fun hk => ?_, fun hk => ?_⟩
      · simp only [decide_eq_true_eq] at hk
        obtain ⟨d, hd⟩ : ∃ d : Nat, k - p.length = (d : Int) := ⟨(k - p.length).toNat, by omega⟩
        have hdt : (k - p.length).toNat = d := by omega
        rw [hdt] at o4
        have hdB : d < B.length := by omega
        have hz := List.getElem?_eq_getElem hdB
        generalize B[d] = z at hz
        rw [drop_at hz] at o4
        have o4' : ownTh H4 base (some ⟨b, 0, none⟩) n c ((p ++ B.take d) ++ x :: z :: (B.drop (d + 1) ++ s)) := o4
        have lpre : (p ++ B.take d).length = p.length + d := by simp; omega
        obtain ⟨z', hz', tz⟩ := o4'.at (i := p.length + d + 1) (by omega)
        have g1 := at_len1 (p ++ B.take d) x z (B.drop (d + 1) ++ s)
        rw [lpre, hz'] at g1; cases g1
        obtain ⟨x', hx', tx⟩ := o4'.at (i := p.length + d) (by omega)
        have g2 := at_len (p ++ B.take d) x (z :: (B.drop (d + 1) ++ s))
        rw [lpre, hx'] at g2; cases g2
        obtain ⟨p1, p2⟩ := o4'.set (i := p.length + d) (by omega) z
        obtain ⟨r1, r2⟩ := p2.set (i := p.length + d + 1) (by omega) x
        have sw := swap_adj' z x (B.drop (d + 1) ++ s) (p ++ B.take d)
        rw [lpre] at sw
        rw [sw] at r2
        have e1 : Int.toNat (k + 1) = p.length + d + 1 := by omega
        have e2 : Int.toNat k = p.length + d := by omega
        simp -zeta only [xA, e1, e2, xT tx, xT tz, fitsTh]
        refine ⟨by omega, by omega, ⟨by omega, by omega⟩, ⟨by omega, by omega⟩, ⟨by omega, by omega⟩, p1, ?_⟩
        try intro H5
        refine ⟨⟨by omega, by omega⟩, r1, ?_⟩
        try intro H6
        refine ⟨by omega, ⟨by omega, by omega, (f4.put _ _).put _ _, ?_⟩, by omega⟩
        rw [show (k + 1 - p.length).toNat = d + 1 by omega, snoc_of hz]
        have : p ++ (B.take d ++ [z]) ++ x :: (B.drop (d + 1) ++ s) = (p ++ B.take d) ++ z :: x :: (B.drop (d + 1) ++ s) := by simp
        rw [this]; exact r2
      · simp only [decide_eq_false_iff_not] at hk
        rw [show (k - p.length).toNat = t by omega] at o4
        refine ⟨trivial, f4, B.take t ++ x :: B.drop t, ?_, S, by simpa using o4⟩
        have := List.perm_middle (a := x) (l₁ := B.take t) (l₂ := B.drop t)
        rw [List.take_append_drop] at this
        exact this
  · simp only [decide_eq_false_iff_not] at hone; omega
theorem f195.right (φ : Fx) {b n c base : Nat} {p A B s : List Th} {H : Hp} (own : ownTh H base (some ⟨b, 0, none⟩) n c (p ++ A ++ B ++ s)) (hn : n ≤ 1099511627776) (hAl : 0 < A.length) (hBl : 0 < B.length) (hA : srt rk A) (hB : srt rk B) (hr : rbe rk A B)
    {a m e : Nat} (ha : a = p.length) (hm : m = p.length + A.length) (he : e = p.length + A.length + B.length) (h0 : A.length ≠ 1) (h1 : B.length = 1) :
    HCalls cx.P φ 195 [.slice (some ⟨b, 0, none⟩) n c, .int .i64 (a : Int), .int .i64 (m : Int), .int .i64 (e : Int), cmpV] H fun r H' => r = .tuple #[] ∧ offA (some ⟨b, 0, none⟩) H H' ∧ ∃ C, C.Perm (A ++ B) ∧ srt rk C ∧ ownTh H' base (some ⟨b, 0, none⟩) n c (p ++ C ++ s) := by
  apply f195.of
  unfold f195.VC
  have hl := own.len
  simp only [List.length_append] at hl
  subst ha
  refine ⟨by omega, fun hone => ?_, fun hone => ?_⟩
  · simp only [decide_eq_true_eq] at hone; omega
  · simp only [decide_eq_false_iff_not] at hone
    refine ⟨by omega, fun hone2 => ?_, fun hone2 => ?_⟩
    · -- one thing on the right
      simp only [decide_eq_true_eq] at hone2
      obtain ⟨x, rfl⟩ : ∃ x, B = [x] := by
        match B, hBl with
        | [x], _ => exact ⟨x, rfl⟩
        | x :: y :: r, _ => simp at he; omega
      simp only [List.length_cons, List.length_nil] at *
      have hx0 : (p ++ A ++ [x] ++ s)[m]? = some x := by
        rw [getB (by omega) (by simp; omega)]; simp [hm]
      refine ⟨fun i j H' => (p.length : Int) ≤ i ∧ i ≤ j ∧ j ≤ m ∧ offA (some ⟨b, 0, none⟩) H H' ∧ ownTh H' base (some ⟨b, 0, none⟩) n c (p ++ A ++ [x] ++ s) ∧
          (∀ (k : Nat) (y : Th), (k : Int) < i - p.length → A[k]? = some y → ¬ x.w < y.w) ∧ (∀ (k : Nat) (y : Th), j - p.length ≤ (k : Int) → A[k]? = some y → x.w < y.w), fun i j _ => (j - i).toNat,
        ⟨by omega, by omega, by omega, offA.refl .., own, fun k y hk => by omega, fun k y hk hy => by have := (List.getElem?_eq_some_iff.1 hy).1; omega⟩, ?_⟩
      rintro i j _ H1 ⟨i0, ij, je, f1, ow, L, R⟩
      refine ⟨fun hij => ?_, fun hij => ?_⟩
      · simp only [decide_eq_true_eq] at hij
        have hh := half i j (by omega) (by omega)
        obtain ⟨h, hh2⟩ : ∃ h : Nat, (i + j) / 2 = (h : Int) := ⟨((i + j) / 2).toNat, by omega⟩
        rw [hh, hh2]
        have hb1 : p.length ≤ h ∧ h < m := by omega
        obtain ⟨y, hy, ty⟩ := ow.at (i := h) (by omega)
        have gy := hy
        rw [getA (by omega) (by omega)] at gy
        obtain ⟨x', hx', tx⟩ := ow.at (i := m) (by omega)
        rw [hx0] at hx'; cases hx'
        simp -zeta only [xA, Int.toNat_natCast, xT ty, xT tx]
        refine ⟨by omega, by omega, ⟨by omega, by omega⟩, ⟨by omega, by omega⟩, cmp_call φ x y H1 fun H2 k2 => ⟨_, rfl, ?_⟩⟩
        have mono : ∀ (k : Nat) (z : Th), A[k]? = some z → (k ≤ h - p.length → z.w ≤ y.w) ∧ (h - p.length ≤ k → y.w ≤ z.w) := fun k z hz => ⟨fun q => srt_w rk hA q hz gy, fun q => srt_w rk hA q gy hz⟩
        refine ⟨fun i2 j2 H' => ((p.length : Int) ≤ i2 ∧ i2 ≤ j2 ∧ j2 ≤ m ∧ offA (some ⟨b, 0, none⟩) H H' ∧ ownTh H' base (some ⟨b, 0, none⟩) n c (p ++ A ++ [x] ++ s) ∧
          (∀ (k : Nat) (y : Th), (k : Int) < i2 - p.length → A[k]? = some y → ¬ x.w < y.w) ∧ (∀ (k : Nat) (y : Th), j2 - p.length ≤ (k : Int) → A[k]? = some y → x.w < y.w)) ∧ (j2 - i2).toNat < (j - i).toNat, ⟨fun hc => ?_, fun hc => ?_⟩, fun i2 j2 _ H' h => h⟩
        · have hw : ¬ x.w < y.w := fun q => by have := (cmpW_neg x y).2 q; simp [this] at hc
          exact ⟨by omega, ⟨by omega, by omega, by omega, f1.keep k2, ow.keeps k2, fun k z hk hz => by have := (mono k z hz).1 (by omega); omega, R⟩, by omega⟩
        · have hw : x.w < y.w := (cmpW_neg x y).1 (by simpa using hc)
          exact ⟨⟨by omega, by omega, by omega, f1.keep k2, ow.keeps k2, L, fun k z hk hz => by have := (mono k z hz).2 (by omega); omega⟩, by omega⟩
      · simp only [decide_eq_false_iff_not] at hij
        obtain ⟨t, ht⟩ : ∃ t : Nat, i - p.length = (t : Int) := ⟨(i - p.length).toNat, by omega⟩
        have htB : t ≤ A.length := by omega
        have S := merge2 rk hA hr (i := t) (fun k y hk hy => L k y (by omega) hy) (fun k y hk hy => R k y (by omega) hy)
        refine ⟨fun k H' => i ≤ k ∧ k ≤ m ∧ offA (some ⟨b, 0, none⟩) H H' ∧ ownTh H' base (some ⟨b, 0, none⟩) n c ((p ++ A.take (k - p.length).toNat) ++ x :: (A.drop (k - p.length).toNat ++ s)), fun k _ => k.toNat,
          ⟨by omega, by omega, f1, by
            rw [show ((m : Int) - p.length).toNat = A.length by omega, List.take_length, List.drop_length]
            simpa using ow⟩, ?_⟩
        rintro k _ H4 ⟨k0, k1, f4, o4⟩
        refine ⟨fun hk => ?_, fun hk => ?_⟩
        · simp only [decide_eq_true_eq] at hk
          obtain ⟨d, hd⟩ : ∃ d : Nat, k - p.length = (d : Int) + 1 := ⟨(k - p.length).toNat - 1, by omega⟩
          have hdt : (k - p.length).toNat = d + 1 := by omega
          rw [hdt] at o4
          have hdB : d < A.length := by omega
          have hz := List.getElem?_eq_getElem hdB
          generalize A[d] = z at hz
          rw [snoc_of hz] at o4
          have o4' : ownTh H4 base (some ⟨b, 0, none⟩) n c ((p ++ A.take d) ++ z :: x :: (A.drop (d + 1) ++ s)) := by simpa using o4
          have lpre : (p ++ A.take d).length = p.length + d := by simp; omega
          obtain ⟨x', hx', tx⟩ := o4'.at (i := p.length + d + 1) (by omega)
          have g1 := at_len1 (p ++ A.take d) z x (A.drop (d + 1) ++ s)
          rw [lpre, hx'] at g1; cases g1
          obtain ⟨z', hz', tz⟩ := o4'.at (i := p.length + d) (by omega)
          have g2 := at_len (p ++ A.take d) z (x :: (A.drop (d + 1) ++ s))
          rw [lpre, hz'] at g2; cases g2
          obtain ⟨p1, p2⟩ := o4'.set (i := p.length + d + 1) (by omega) z
          obtain ⟨r1, r2⟩ := p2.set (i := p.length + d) (by omega) x
          have sw := swap_adj x z (A.drop (d + 1) ++ s) (p ++ A.take d)
          rw [lpre] at sw
          rw [sw] at r2
          have e1 : Int.toNat k = p.length + d + 1 := by omega
          have e2 : Int.toNat (k - 1) = p.length + d := by omega
          simp -zeta only [xA, e1, e2, xT tx, xT tz, fitsTh]
          refine ⟨by omega, by omega, ⟨by omega, by omega⟩, ⟨by omega, by omega⟩, ⟨by omega, by omega⟩, p1, ?_⟩
          try intro H5
          refine ⟨⟨by omega, by omega⟩, r1, ?_⟩
          try intro H6
          refine ⟨by omega, ⟨by omega, by omega, (f4.put _ _).put _ _, ?_⟩, by omega⟩
          rw [show (k - 1 - p.length).toNat = d by omega, drop_at hz]
          exact r2
        · simp only [decide_eq_false_iff_not] at hk
          rw [show (k - p.length).toNat = t by omega] at o4
          refine ⟨trivial, f4, A.take t ++ x :: A.drop t, ?_, S, by simpa using o4⟩
          have := List.perm_middle (a := x) (l₁ := A.take t) (l₂ := A.drop t)
          rw [List.take_append_drop] at this
          exact this.trans (List.perm_append_singleton x A).symm
    · simp only [decide_eq_false_iff_not] at hone2; omega
theorem f195.gen (φ : Fx) (N : Nat) (ih : ∀ {b n c base : Nat} {p A B s : List Th} {H : Hp} (own : ownTh H base (some ⟨b, 0, none⟩) n c (p ++ A ++ B ++ s)) (hn : n ≤ 1099511627776) (hAl : 0 < A.length) (hBl : 0 < B.length) (hA : srt rk A) (hB : srt rk B) (hr : rbe rk A B)
    {a m e : Nat} (ha : a = p.length) (hm : m = p.length + A.length) (he : e = p.length + A.length + B.length) (hN : A.length + B.length ≤ N),
    HCalls cx.P φ 195 [.slice (some ⟨b, 0, none⟩) n c, .int .i64 (a : Int), .int .i64 (m : Int), .int .i64 (e : Int), cmpV] H fun r H' => r = .tuple #[] ∧ offA (some ⟨b, 0, none⟩) H H' ∧ ∃ C, C.Perm (A ++ B) ∧ srt rk C ∧ ownTh H' base (some ⟨b, 0, none⟩) n c (p ++ C ++ s)) {b n c base : Nat} {p A B s : List Th} {H : Hp} (own : ownTh H base (some ⟨b, 0, none⟩) n c (p ++ A ++ B ++ s)) (hn : n ≤ 1099511627776) (hAl : 0 < A.length) (hBl : 0 < B.length) (hA : srt rk A) (hB : srt rk B) (hr : rbe rk A B)
    {a m e : Nat} (ha : a = p.length) (hm : m = p.length + A.length) (he : e = p.length + A.length + B.length) (hN : A.length + B.length ≤ N + 1) (h0 : A.length ≠ 1) (h1 : B.length ≠ 1) :
    HCalls cx.P φ 195 [.slice (some ⟨b, 0, none⟩) n c, .int .i64 (a : Int), .int .i64 (m : Int), .int .i64 (e : Int), cmpV] H fun r H' => r = .tuple #[] ∧ offA (some ⟨b, 0, none⟩) H H' ∧ ∃ C, C.Perm (A ++ B) ∧ srt rk C ∧ ownTh H' base (some ⟨b, 0, none⟩) n c (p ++ C ++ s) := by
  apply f195.of
  unfold f195.VC
  have hl := own.len
  simp only [List.length_append] at hl
  subst ha
  refine ⟨by omega, fun hone => ?_, fun hone => ?_⟩
  · simp only [decide_eq_true_eq] at hone; omega
  · simp only [decide_eq_false_iff_not] at hone
    refine ⟨by omega, fun hone2 => ?_, fun hone2 => ?_⟩
    · simp only [decide_eq_true_eq] at hone2; omega
    · simp only [decide_eq_false_iff_not] at hone2
      have hh := half (p.length : Int) e (by omega) (by omega)
      obtain ⟨mid, hmid⟩ : ∃ mid : Nat, ((p.length : Int) + e) / 2 = (mid : Int) := ⟨(((p.length : Int) + e) / 2).toNat, by omega⟩
      rw [hh, hmid]
      have hm1 : p.length < mid ∧ mid < e := by omega
      refine ⟨by omega, by omega, by omega, ?_⟩
      refine ⟨fun st r H' => H' = H ∧ ∃ s0 r0 : Nat, st = s0 ∧ r = r0 ∧ ((mid < m ∧ s0 + e = mid + m ∧ r0 = mid) ∨ (m ≤ mid ∧ s0 = p.length ∧ r0 = m)), ⟨fun hlt => ?_, fun hlt => ?_⟩, ?_⟩
      · simp only [decide_eq_true_eq] at hlt
        exact ⟨by omega, rfl, mid + m - e, mid, by omega, rfl, Or.inl ⟨by omega, by omega, rfl⟩⟩
      · simp only [decide_eq_false_iff_not] at hlt
        exact ⟨rfl, _, _, rfl, rfl, Or.inr ⟨by omega, rfl, rfl⟩⟩
      rintro _ _ _ H13 ⟨rfl, s0, r0, rfl, rfl, hcase⟩
      have hrange : p.length ≤ s0 ∧ s0 ≤ r0 ∧ r0 ≤ m ∧ r0 ≤ mid ∧ mid + m ≤ e + s0 := by omega
      refine ⟨by omega, ?_⟩
      refine ⟨fun i j H' => (s0 : Int) ≤ i ∧ i ≤ j ∧ j ≤ r0 ∧ offA (some ⟨b, 0, none⟩) H13 H' ∧ ownTh H' base (some ⟨b, 0, none⟩) n c (p ++ A ++ B ++ s) ∧
          (i = s0 ∨ ∃ x y, A[(i - 1 - p.length).toNat]? = some x ∧ B[(mid - i).toNat]? = some y ∧ x.w ≤ y.w) ∧ (j = r0 ∨ ∃ x y, A[(j - p.length).toNat]? = some x ∧ B[(mid - 1 - j).toNat]? = some y ∧ y.w < x.w), fun i j _ => (j - i).toNat,
        ⟨by omega, by omega, by omega, offA.refl .., own, Or.inl rfl, Or.inl rfl⟩, ?_⟩
      rintro i j _ H1 ⟨i0, ij, je, f1, ow, L, R⟩
      refine ⟨fun hij => ?_, fun hij => ?_⟩
      · simp only [decide_eq_true_eq] at hij
        have hh2 := half i j (by omega) (by omega)
        obtain ⟨h, hh3⟩ : ∃ h : Nat, (i + j) / 2 = (h : Int) := ⟨((i + j) / 2).toNat, by omega⟩
        rw [hh2, hh3]
        have hb1 : s0 ≤ h ∧ h < r0 := by omega
        obtain ⟨x, hx, tx⟩ := ow.at (i := h) (by omega)
        have gx := hx
        rw [getA (by omega) (by omega)] at gx
        obtain ⟨y, hy, ty⟩ := ow.at (i := mid + m - 1 - h) (by omega)
        have gy := hy
        rw [getB (by omega) (by omega), show mid + m - 1 - h - (p.length + A.length) = mid - 1 - h by omega] at gy
        have e1 : Int.toNat ((mid : Int) + m - 1 - h) = mid + m - 1 - h := by omega
        simp -zeta only [xA, e1, Int.toNat_natCast, xT ty, xT tx]
        refine ⟨by omega, by omega, by omega, ⟨by omega, by omega⟩, ⟨by omega, by omega⟩, cmp_call φ y x H1 fun H2 k2 => ⟨_, rfl, ?_⟩⟩
        refine ⟨fun i2 j2 H' => ((s0 : Int) ≤ i2 ∧ i2 ≤ j2 ∧ j2 ≤ r0 ∧ offA (some ⟨b, 0, none⟩) H13 H' ∧ ownTh H' base (some ⟨b, 0, none⟩) n c (p ++ A ++ B ++ s) ∧
          (i2 = s0 ∨ ∃ x y, A[(i2 - 1 - p.length).toNat]? = some x ∧ B[(mid - i2).toNat]? = some y ∧ x.w ≤ y.w) ∧ (j2 = r0 ∨ ∃ x y, A[(j2 - p.length).toNat]? = some x ∧ B[(mid - 1 - j2).toNat]? = some y ∧ y.w < x.w)) ∧ (j2 - i2).toNat < (j - i).toNat, ⟨fun hc => ?_, fun hc => ?_⟩, fun i2 j2 _ H' h => h⟩
        · have hw : ¬ y.w < x.w := fun q => by have := (cmpW_neg y x).2 q; simp [this] at hc
          refine ⟨by omega, ⟨by omega, by omega, by omega, f1.keep k2, ow.keeps k2, Or.inr ⟨x, y, ?_, ?_, by omega⟩, R⟩, by omega⟩
          · rw [show ((h : Int) + 1 - 1 - p.length).toNat = h - p.length by omega]; exact gx
          · rw [show ((mid : Int) - (h + 1)).toNat = mid - 1 - h by omega]; exact gy
        · have hw : y.w < x.w := (cmpW_neg y x).1 (by simpa using hc)
          refine ⟨⟨by omega, by omega, by omega, f1.keep k2, ow.keeps k2, L, Or.inr ⟨x, y, ?_, ?_, hw⟩⟩, by omega⟩
          · rw [show ((h : Int) - p.length).toNat = h - p.length by omega]; exact gx
          · rw [show ((mid : Int) - 1 - h).toNat = mid - 1 - h by omega]; exact gy
      · simp only [decide_eq_false_iff_not] at hij
        obtain ⟨st, hst⟩ : ∃ st : Nat, i = (st : Int) := ⟨i.toNat, by omega⟩
        have hjs : j = (st : Int) := by omega
        subst hst
        rw [hjs] at R
        obtain ⟨A1, A2, hA12⟩ : ∃ A1 A2, A1 = A.take (st - p.length) ∧ A2 = A.drop (st - p.length) := ⟨_, _, rfl, rfl⟩
        obtain ⟨B1, B2, hB12⟩ : ∃ B1 B2, B1 = B.take (mid - st) ∧ B2 = B.drop (mid - st) := ⟨_, _, rfl, rfl⟩
        have eA : A = A1 ++ A2 := by rw [hA12.1, hA12.2, List.take_append_drop]
        have eB : B = B1 ++ B2 := by rw [hB12.1, hB12.2, List.take_append_drop]
        have lA1 : A1.length = st - p.length := by rw [hA12.1]; simp; omega
        have lB1 : B1.length = mid - st := by rw [hB12.1]; simp; omega
        have lA : A.length = A1.length + A2.length := by rw [eA, List.length_append]
        have lB : B.length = B1.length + B2.length := by rw [eB, List.length_append]
        have h1 : A1 = [] ∨ B2 = [] ∨ ∃ a u b v, A1 = u ++ [a] ∧ B2 = b :: v ∧ a.w ≤ b.w := by
          rcases L with h | ⟨x, y, hx, hy, hw⟩
          · rcases hcase with hc | hc
            · exact Or.inr (Or.inl (List.eq_nil_of_length_eq_zero (by omega)))
            · exact Or.inl (List.eq_nil_of_length_eq_zero (by omega))
          · by_cases q : st = p.length
            · exact Or.inl (List.eq_nil_of_length_eq_zero (by omega))
            · refine Or.inr (Or.inr ⟨x, A.take ((st : Int) - 1 - p.length).toNat, y, B.drop (((mid : Int) - st).toNat + 1), ?_, ?_, hw⟩)
              · rw [hA12.1, show st - p.length = ((st : Int) - 1 - p.length).toNat + 1 by omega]; exact snoc_of hx
              · rw [hB12.2, show mid - st = ((mid : Int) - st).toNat by omega]; exact drop_at hy
        have h2 : B1 = [] ∨ A2 = [] ∨ ∃ b u a v, B1 = u ++ [b] ∧ A2 = a :: v ∧ b.w < a.w := by
          rcases R with h | ⟨x, y, hx, hy, hw⟩
          · rcases hcase with hc | hc
            · exact Or.inl (List.eq_nil_of_length_eq_zero (by omega))
            · exact Or.inr (Or.inl (List.eq_nil_of_length_eq_zero (by omega)))
          · by_cases q : mid = st
            · exact Or.inl (List.eq_nil_of_length_eq_zero (by omega))
            · refine Or.inr (Or.inr ⟨y, B.take ((mid : Int) - 1 - st).toNat, x, A.drop (((st : Int) - p.length).toNat + 1), ?_, ?_, hw⟩)
              · rw [hB12.1, show mid - st = ((mid : Int) - 1 - st).toNat + 1 by omega]; exact snoc_of hy
              · rw [hA12.2, show st - p.length = ((st : Int) - p.length).toNat by omega]; exact drop_at hx
        rw [eA] at hA hr
        rw [eB] at hB hr
        have X := cross rk hA hB hr h1 h2
        have ow1 : ownTh H1 base (some ⟨b, 0, none⟩) n c (p ++ (A1 ++ A2) ++ (B1 ++ B2) ++ s) := by rw [← eA, ← eB]; exact ow
        have hen : (mid : Int) + m - st = ((mid + m - st : Nat) : Int) := by omega
        rw [hen]
        refine ⟨by omega, ?_⟩
        refine join1 (decide ((st : Int) < m) && decide ((m : Int) < ((mid + m - st : Nat) : Int))) H1 ?_ ?_
        · exact ⟨fun h => ⟨by rw [h, Bool.true_and], rfl⟩, fun h => ⟨by rw [h, Bool.false_and], rfl⟩⟩
        intro _
        refine ⟨fun H' => offA (some ⟨b, 0, none⟩) H13 H' ∧ ownTh H' base (some ⟨b, 0, none⟩) n c (p ++ A1 ++ B1 ++ A2 ++ B2 ++ s), ⟨fun hx => ?_, fun hx => ?_⟩, ?_⟩
        · simp only [Bool.and_eq_true, decide_eq_true_eq] at hx
          have o : ownTh H1 base (some ⟨b, 0, none⟩) n c ((p ++ A1) ++ A2 ++ B1 ++ (B2 ++ s)) := by simpa using ow1
          refine HCalls.mono (f197.spec φ o hn (by omega) (by omega) (a := st) (m := m) (e := mid + m - st) (by simp; omega) (by simp; omega) (by simp; omega) cmpV) ?_
          rintro r H2 ⟨rfl, f2, o2⟩
          exact ⟨rfl, f1.step (Or.inl rfl) f2, by simpa using o2⟩
        · refine ⟨f1, ?_⟩
          have : A2 = [] ∨ B1 = [] := by
            simp only [Bool.and_eq_false_iff, decide_eq_false_iff_not] at hx
            rcases hx with hx | hx
            · exact Or.inl (List.eq_nil_of_length_eq_zero (by omega))
            · exact Or.inr (List.eq_nil_of_length_eq_zero (by omega))
          rcases this with h | h
          · rw [h] at ow1 ⊢; simpa using ow1
          · rw [h] at ow1 ⊢; simpa using ow1
        rintro _ H3 ⟨f3, o3⟩
        have pAB : rbe rk A1 B1 ∧ rbe rk A2 B2 := ⟨fun x hx y hy => hr x (by simp [hx]) y (by simp [hy]), fun x hx y hy => hr x (by simp [hx]) y (by simp [hy])⟩
        have sA := (srt_app rk).1 hA
        have sB := (srt_app rk).1 hB
        refine join1 (decide ((p.length : Int) < st) && decide ((st : Int) < mid)) H3 ?_ ?_
        · exact ⟨fun h => ⟨by rw [h, Bool.true_and], rfl⟩, fun h => ⟨by rw [h, Bool.false_and], rfl⟩⟩
        intro _
        refine ⟨fun H' => offA (some ⟨b, 0, none⟩) H13 H' ∧ ∃ C1, C1.Perm (A1 ++ B1) ∧ srt rk C1 ∧ ownTh H' base (some ⟨b, 0, none⟩) n c (p ++ C1 ++ A2 ++ B2 ++ s), ⟨fun hx => ?_, fun hx => ?_⟩, ?_⟩
        · simp only [Bool.and_eq_true, decide_eq_true_eq] at hx
          have o : ownTh H3 base (some ⟨b, 0, none⟩) n c (p ++ A1 ++ B1 ++ (A2 ++ B2 ++ s)) := by simpa using o3
          refine HCalls.mono (ih o hn (by omega) (by omega) sA.1 sB.1 pAB.1 (a := p.length) (m := st) (e := mid) rfl (by omega) (by omega) (by omega)) ?_
          rintro r H4 ⟨rfl, f4, C1, pm, sr, o4⟩
          exact ⟨rfl, f3.step (Or.inl rfl) f4, C1, pm, sr, by simpa using o4⟩
        · refine ⟨f3, A1 ++ B1, List.Perm.refl _, ?_, by simpa using o3⟩
          simp only [Bool.and_eq_false_iff, decide_eq_false_iff_not] at hx
          rcases hx with hx | hx
          · rw [List.eq_nil_of_length_eq_zero (show A1.length = 0 by omega)]; exact sB.1
          · rw [List.eq_nil_of_length_eq_zero (show B1.length = 0 by omega), List.append_nil]; exact sA.1
        rintro _ H5 ⟨f5, C1, pm1, sr1, o5⟩
        have lC1 := pm1.length_eq
        rw [List.length_append] at lC1
        refine join1 (decide ((mid : Int) < ((mid + m - st : Nat) : Int)) && decide (((mid + m - st : Nat) : Int) < e)) H5 ?_ ?_
        · exact ⟨fun h => ⟨by rw [h, Bool.true_and], rfl⟩, fun h => ⟨by rw [h, Bool.false_and], rfl⟩⟩
        intro _
        refine ⟨fun H' => offA (some ⟨b, 0, none⟩) H13 H' ∧ ∃ C2, C2.Perm (A2 ++ B2) ∧ srt rk C2 ∧ ownTh H' base (some ⟨b, 0, none⟩) n c (p ++ C1 ++ C2 ++ s), ⟨fun hx => ?_, fun hx => ?_⟩, ?_⟩
        · simp only [Bool.and_eq_true, decide_eq_true_eq] at hx
          have o : ownTh H5 base (some ⟨b, 0, none⟩) n c ((p ++ C1) ++ A2 ++ B2 ++ s) := o5
          refine HCalls.mono (ih o hn (by omega) (by omega) sA.2.1 sB.2.1 pAB.2 (a := mid) (m := mid + m - st) (e := e) (by rw [List.length_append]; omega) (by rw [List.length_append]; omega) (by rw [List.length_append]; omega) (by omega)) ?_
          rintro r H6 ⟨rfl, f6, C2, pm, sr, o6⟩
          exact ⟨rfl, f5.step (Or.inl rfl) f6, C2, pm, sr, o6⟩
        · refine ⟨f5, A2 ++ B2, List.Perm.refl _, ?_, by simpa using o5⟩
          simp only [Bool.and_eq_false_iff, decide_eq_false_iff_not] at hx
          rcases hx with hx | hx
          · rw [List.eq_nil_of_length_eq_zero (show A2.length = 0 by omega)]; exact sB.2.1
          · rw [List.eq_nil_of_length_eq_zero (show B2.length = 0 by omega), List.append_nil]; exact sA.2.1
        rintro _ H7 ⟨f7, C2, pm2, sr2, o7⟩
        refine ⟨rfl, f7, C1 ++ C2, ?_, (srt_app rk).2 ⟨sr1, sr2, allx_perm rk X pm1 pm2⟩, by simpa using o7⟩
        rw [eA, eB]
        refine (List.Perm.append pm1 pm2).trans ?_
        have : (A1 ++ B1 ++ (A2 ++ B2)).Perm (A1 ++ (A2 ++ B1) ++ B2) := by
          have q : (B1 ++ A2).Perm (A2 ++ B1) := List.perm_append_comm
          have := (q.append_left A1).append_right B2
          simpa using this
        refine this.trans ?_
        simp
theorem f195.spec (φ : Fx) : ∀ (N : Nat) {b n c base : Nat} {p A B s : List Th} {H : Hp} (own : ownTh H base (some ⟨b, 0, none⟩) n c (p ++ A ++ B ++ s)) (hn : n ≤ 1099511627776) (hAl : 0 < A.length) (hBl : 0 < B.length) (hA : srt rk A) (hB : srt rk B) (hr : rbe rk A B)
    {a m e : Nat} (ha : a = p.length) (hm : m = p.length + A.length) (he : e = p.length + A.length + B.length) (hN : A.length + B.length ≤ N),
    HCalls cx.P φ 195 [.slice (some ⟨b, 0, none⟩) n c, .int .i64 (a : Int), .int .i64 (m : Int), .int .i64 (e : Int), cmpV] H fun r H' => r = .tuple #[] ∧ offA (some ⟨b, 0, none⟩) H H' ∧ ∃ C, C.Perm (A ++ B) ∧ srt rk C ∧ ownTh H' base (some ⟨b, 0, none⟩) n c (p ++ C ++ s) := by
  intro N
  induction N with
  | zero => intros; omega
  | succ N ih =>
    intro b n c base p A B s H own hn hAl hBl hA hB hr a m e ha hm he hN
    by_cases h0 : A.length = 1
    · exact f195.left rk φ own hn hAl hBl hA hB hr ha hm he h0
    · by_cases h1 : B.length = 1
      · exact f195.right rk φ own hn hAl hBl hA hB hr ha hm he h0 h1
      · exact f195.gen rk φ N ih own hn hAl hBl hA hB hr ha hm he hN h0 h1
end
end Go.Proofs.Ytkkjjjgcfnhabaa.Eng
namespace Go.Proofs.Ytkkjjjgcfnhabaa.Eng
open Go Go.Proofs
def seg {α : Type} (l : List α) (x y : Nat) : List α := (l.drop x).take (y - x)
theorem seg_split {α : Type} (l : List α) {x y : Nat} (h : x ≤ y) : l = l.take x ++ seg l x y ++ l.drop y := by
  have : l.drop x = seg l x y ++ l.drop y := by
    rw [seg]
    have := (List.take_append_drop (y - x) (l.drop x)).symm
    rw [List.drop_drop, show x + (y - x) = y by omega] at this
    exact this
  rw [List.append_assoc, ← this, List.take_append_drop]
theorem seg_len {α : Type} (l : List α) {x y : Nat} (h : y ≤ l.length) : (seg l x y).length = y - x := by simp [seg]; omega
theorem seg_mid {α : Type} (p q s : List α) : seg (p ++ q ++ s) p.length (p.length + q.length) = q := by
  rw [seg, List.append_assoc, List.drop_left, show p.length + q.length - p.length = q.length by omega, List.take_left]
theorem seg_get {α : Type} (l : List α) (x y k : Nat) : (seg l x y)[k]? = if k < y - x then l[x + k]? else none := by
  rw [seg, List.getElem?_take, List.getElem?_drop]
theorem seg_same {α : Type} (p q q' s : List α) (hq : q'.length = q.length) {x y : Nat} (h : y ≤ p.length ∨ p.length + q.length ≤ x) : seg (p ++ q' ++ s) x y = seg (p ++ q ++ s) x y := by
  apply List.ext_getElem?
  intro k
  rw [seg_get, seg_get]
  split
  · rename_i hk
    rcases h with h | h
    · rw [List.append_assoc, List.append_assoc, List.getElem?_append_left (by omega), List.getElem?_append_left (by omega)]
    · rw [List.getElem?_append_right (by simp; omega), List.getElem?_append_right (by simp; omega)]
      simp [hq]
  · rfl
theorem seg_app {α : Type} (l : List α) {x y z : Nat} (h1 : x ≤ y) (h2 : y ≤ z) : seg l x z = seg l x y ++ seg l y z := by
  apply List.ext_getElem?
  intro k
  by_cases hl : y ≤ l.length
  · have e := seg_len l (x := x) hl
    rw [List.getElem?_append, e, seg_get, seg_get, seg_get]
    by_cases q : k < y - x
    · rw [if_pos q, if_pos (by omega), if_pos (by omega)]
    · rw [if_neg q]
      by_cases r : k < z - x
      · rw [if_pos r, if_pos (by omega)]; congr 1; omega
      · rw [if_neg r, if_neg (by omega)]
  · have e1 : seg l y z = [] := by rw [seg, List.drop_eq_nil_of_le (by omega), List.take_nil]
    rw [e1, List.append_nil, seg_get, seg_get]
    by_cases r : k < y - x
    · rw [if_pos r, if_pos (by omega)]
    · rw [if_neg r]
      split
      · rw [List.getElem?_eq_none (by omega)]
      · rfl
theorem seg_all {α : Type} (l : List α) {y : Nat} (h : l.length ≤ y) : seg l 0 y = l := by
  rw [seg, List.drop_zero]; exact List.take_of_length_le (by omega)
theorem seg_over {α : Type} (l : List α) {x y z : Nat} (hy : l.length ≤ y) (hz : l.length ≤ z) : seg l x y = seg l x z := by
  rw [seg, seg, List.take_of_length_le (by simp; omega), List.take_of_length_le (by simp; omega)]
section
variable (rk : Th → Nat)
/-- A part holds what it held, sorted. -/
def sortedP (l0 l : List Th) (x y : Nat) : Prop := (seg l x y).Perm (seg l0 x y) ∧ srt rk (seg l x y)
theorem rin_seg {l : List Th} (h : rin rk l) (x y : Nat) : rin rk (seg l x y) := List.Pairwise.sublist ((List.take_sublist _ _).trans (List.drop_sublist _ _)) h
theorem rin_rbe {l : List Th} (h : rin rk l) {x y z : Nat} (h1 : x ≤ y) (h2 : y ≤ z) : rbe rk (seg l x y) (seg l y z) := by
  have := rin_seg rk h x z
  rw [seg_app l h1 h2] at this
  exact (List.pairwise_append.1 this).2.2
theorem f190.spec (φ : Fx) {b n c base : Nat} {l0 : List Th} {H : Hp} (own : ownTh H base (some ⟨b, 0, none⟩) n c l0) (hn : n ≤ 1099511627776) (hr : rin rk l0) :
    HCalls cx.P φ 190 [.slice (some ⟨b, 0, none⟩) n c, .int .i64 (n : Int), cmpV] H fun r H' => r = .tuple #[] ∧ offA (some ⟨b, 0, none⟩) H H' ∧ ∃ l, l.Perm l0 ∧ srt rk l ∧ ownTh H' base (some ⟨b, 0, none⟩) n c l := by
  apply f190.of
  unfold f190.VC
  have hl0 := own.len
  -- the blocks of twenty
  refine ⟨fun a e H' => ∃ t : Nat, a = ((20 * t : Nat) : Int) ∧ e = a + 20 ∧ (a : Int) ≤ n ∧ offA (some ⟨b, 0, none⟩) H H' ∧ ∃ l, ownTh H' base (some ⟨b, 0, none⟩) n c l ∧ (∀ k, k < t → sortedP rk l0 l (20 * k) (20 * k + 20)) ∧ l.drop (20 * t) = l0.drop (20 * t), fun a _ _ => (n - a).toNat,
    ⟨0, by omega, by omega, by omega, offA.refl .., l0, own, fun k hk => by omega, rfl⟩, ?_⟩
  rintro a e _ H1 ⟨t, rfl, rfl, han, f1, l, ow, hb, hd⟩
  have hl := ow.len
  refine ⟨fun hi => ?_, fun hi => ?_⟩
  · simp only [decide_eq_true_eq] at hi
    have sp := seg_split l (x := 20 * t) (y := 20 * t + 20) (by omega)
    have sl := seg_len l (x := 20 * t) (y := 20 * t + 20) (by omega)
    have tl : (l.take (20 * t)).length = 20 * t := by simp; omega
    have se : seg l (20 * t) (20 * t + 20) = seg l0 (20 * t) (20 * t + 20) := by rw [seg, seg, hd]
    have o : ownTh H1 base (some ⟨b, 0, none⟩) n c (l.take (20 * t) ++ seg l (20 * t) (20 * t + 20) ++ l.drop (20 * t + 20)) := by rw [← sp]; exact ow
    have call := f194.spec rk φ o hn (by rw [se]; exact rin_seg rk hr ..) (a := 20 * t) (e := 20 * t + 20) tl.symm (by rw [tl, sl]; omega)
    have e1 : ((20 * t : Nat) : Int) + 20 = ((20 * t + 20 : Nat) : Int) := by omega
    rw [e1]
    refine HCalls.mono call ?_
    rintro r H2 ⟨rfl, f2, q', pm, sr, o2⟩
    have lq := pm.length_eq
    refine ⟨rfl, by omega, ⟨t + 1, by omega, by omega, by omega, f1.step (Or.inl rfl) f2, _, o2, fun k hk => ?_, ?_⟩, by dsimp only; omega⟩
    · by_cases q : k < t
      · have := hb k q
        unfold sortedP
        rw [seg_same (l.take (20 * t)) (seg l (20 * t) (20 * t + 20)) q' _ lq (Or.inl (by rw [tl]; omega)), ← sp]
        exact this
      · obtain rfl : k = t := by omega
        have m := seg_mid (l.take (20 * k)) q' (l.drop (20 * k + 20))
        rw [tl, lq, sl, show 20 * k + (20 * k + 20 - 20 * k) = 20 * k + 20 by omega] at m
        unfold sortedP
        rw [m, ← se]
        exact ⟨pm, sr⟩
    · rw [show 20 * (t + 1) = 20 * t + 20 by omega, List.drop_append_of_le_length (by simp [lq, sl]; omega)]
      rw [List.drop_eq_nil_of_le (by simp [lq, sl]; omega), List.nil_append]
      have := congrArg (List.drop 20) hd
      rw [List.drop_drop, List.drop_drop] at this
      exact this
  · simp only [decide_eq_false_iff_not] at hi
    have tl : (l.take (20 * t)).length = 20 * t := by simp; omega
    have o : ownTh H1 base (some ⟨b, 0, none⟩) n c (l.take (20 * t) ++ l.drop (20 * t) ++ []) := by rw [List.append_nil, List.take_append_drop]; exact ow
    have hrd : rin rk (l.drop (20 * t)) := by rw [hd]; exact List.Pairwise.sublist (List.drop_sublist _ _) hr
    refine HCalls.mono (f194.spec rk φ o hn hrd (a := 20 * t) (e := n) tl.symm (by simp; omega)) ?_
    rintro r H2 ⟨rfl, f2, q', pm, sr, o2⟩
    have lq := pm.length_eq
    simp only [List.length_drop] at lq
    rw [List.append_nil] at o2
    -- all blocks of twenty
    have all20 : ∀ k, sortedP rk l0 (l.take (20 * t) ++ q') (20 * k) (20 * k + 20) := by
      intro k
      by_cases q : k < t
      · have := hb k q
        unfold sortedP
        have e := seg_same (l.take (20 * t)) (l.drop (20 * t)) q' [] (by simp; omega) (x := 20 * k) (y := 20 * k + 20) (Or.inl (by rw [tl]; omega))
        simp only [List.append_nil, List.take_append_drop] at e
        rw [e]; exact this
      · by_cases q2 : k = t
        · subst q2
          have m := seg_mid (l.take (20 * k)) q' []
          rw [List.append_nil, tl, lq] at m
          have ov := seg_over (l.take (20 * k) ++ q') (x := 20 * k) (y := 20 * k + 20) (z := 20 * k + (l.length - 20 * k)) (by simp; omega) (by simp; omega)
          have : seg l0 (20 * k) (20 * k + 20) = l.drop (20 * k) := by rw [hd, seg]; exact List.take_of_length_le (by simp; omega)
          unfold sortedP
          rw [ov, m, this]
          exact ⟨pm, sr⟩
        · have e1 : seg (l.take (20 * t) ++ q') (20 * k) (20 * k + 20) = [] := by rw [seg, List.drop_eq_nil_of_le (by simp; omega), List.take_nil]
          have e2 : seg l0 (20 * k) (20 * k + 20) = [] := by rw [seg, List.drop_eq_nil_of_le (by omega), List.take_nil]
          unfold sortedP
          rw [e1, e2]; exact ⟨List.Perm.refl _, List.Pairwise.nil⟩
    refine ⟨rfl, ?_⟩
    refine ⟨fun w H' => ∃ z : Nat, w = (z : Int) ∧ 1 ≤ z ∧ z ≤ 2199023255552 ∧ offA (some ⟨b, 0, none⟩) H H' ∧ ∃ l, ownTh H' base (some ⟨b, 0, none⟩) n c l ∧ ∀ k, sortedP rk l0 l (z * k) (z * k + z), fun w _ => (n - w).toNat,
      ⟨20, rfl, by omega, by omega, f1.step (Or.inl rfl) f2, _, o2, all20⟩, ?_⟩
    clear all20 o2 f2 sr pm lq q' hrd o tl hi hd hb ow hl
    rintro w _ H4 ⟨z, rfl, hz1, hz2, f4, l, ow, hb⟩
    have hl := ow.len
    refine ⟨fun hzn => ?_, fun hzn => ?_⟩
    · simp only [decide_eq_true_eq] at hzn
      refine ⟨by omega, ?_⟩
      refine ⟨fun a e H' => ∃ t : Nat, a = ((2 * z * t : Nat) : Int) ∧ e = a + 2 * z ∧ a ≤ n ∧ offA (some ⟨b, 0, none⟩) H H' ∧ ∃ l, ownTh H' base (some ⟨b, 0, none⟩) n c l ∧ (∀ k, k < t → sortedP rk l0 l (2 * z * k) (2 * z * k + 2 * z)) ∧ ∀ k, 2 * t ≤ k → sortedP rk l0 l (z * k) (z * k + z), fun a _ _ => (n - a).toNat,
        ⟨0, by simp, by omega, by omega, f4, l, ow, fun k hk => by omega, fun k _ => hb k⟩, ?_⟩
      clear hb ow f4 hl
      rintro a e _ H5 ⟨t, rfl, rfl, han, f5, l, ow, hb1, hb2⟩
      have hl := ow.len
      -- one merge
      have merge : ∀ (y : Nat), 2 * z * t + z < y → y ≤ n → (y = 2 * z * t + 2 * z ∨ (y = n ∧ n ≤ 2 * z * t + 2 * z)) → ∀ K : Value → Hp → Prop,
          (∀ H', offA (some ⟨b, 0, none⟩) H H' → ∀ l', ownTh H' base (some ⟨b, 0, none⟩) n c l' → (∀ k, k < t + 1 → sortedP rk l0 l' (2 * z * k) (2 * z * k + 2 * z)) → (∀ k, 2 * (t + 1) ≤ k → sortedP rk l0 l' (z * k) (z * k + z)) → K (.tuple #[]) H') →
          HCalls cx.P φ 195 [.slice (some ⟨b, 0, none⟩) n c, .int .i64 ((2 * z * t : Nat) : Int), .int .i64 ((2 * z * t + z : Nat) : Int), .int .i64 (y : Int), cmpV] H5 K := by
        intro y hy1 hy2 hy3 K hK
        have ex : z * (2 * t) = 2 * z * t := by rw [Nat.mul_left_comm, ← Nat.mul_assoc]
        have ex2 : z * (2 * t + 1) = 2 * z * t + z := by rw [Nat.mul_add, ex, Nat.mul_one]
        have bA := hb2 (2 * t) (Nat.le_refl _)
        have bB := hb2 (2 * t + 1) (by omega)
        rw [ex] at bA
        rw [ex2] at bB
        have eB : seg l (2 * z * t + z) (2 * z * t + z + z) = seg l (2 * z * t + z) y := by
          rcases hy3 with h | ⟨h, h2⟩
          · rw [h]; congr 1; omega
          · exact seg_over l (by omega) (by omega)
        have eB0 : seg l0 (2 * z * t + z) (2 * z * t + z + z) = seg l0 (2 * z * t + z) y := by
          rcases hy3 with h | ⟨h, h2⟩
          · rw [h]; congr 1; omega
          · exact seg_over l0 (by omega) (by omega)
        unfold sortedP at bA bB
        rw [eB, eB0] at bB
        have lA := seg_len l (x := 2 * z * t) (y := 2 * z * t + z) (by omega)
        have lB := seg_len l (x := 2 * z * t + z) (y := y) (by omega)
        have tl : (l.take (2 * z * t)).length = 2 * z * t := by simp; omega
        have sp : l = l.take (2 * z * t) ++ seg l (2 * z * t) (2 * z * t + z) ++ seg l (2 * z * t + z) y ++ l.drop y := by
          have := seg_split l (x := 2 * z * t) (y := y) (by omega)
          rw [seg_app l (y := 2 * z * t + z) (by omega) (by omega)] at this
          simpa using this
        have sp2 : l = l.take (2 * z * t) ++ (seg l (2 * z * t) (2 * z * t + z) ++ seg l (2 * z * t + z) y) ++ l.drop y := by
          rw [← List.append_assoc]; exact sp
        have o : ownTh H5 base (some ⟨b, 0, none⟩) n c (l.take (2 * z * t) ++ seg l (2 * z * t) (2 * z * t + z) ++ seg l (2 * z * t + z) y ++ l.drop y) := by rw [← sp]; exact ow
        have rb : rbe rk (seg l (2 * z * t) (2 * z * t + z)) (seg l (2 * z * t + z) y) := rbe_perm rk (rin_rbe rk hr (by omega) (by omega)) bA.1 bB.1
        refine HCalls.mono (f195.spec rk φ _ o hn (by omega) (by omega) bA.2 bB.2 rb (a := 2 * z * t) (m := 2 * z * t + z) (e := y) tl.symm (by omega) (by omega) (Nat.le_refl _)) ?_
        rintro r H6 ⟨rfl, f6, C, pm, sr, o6⟩
        have lC := pm.length_eq
        rw [List.length_append, lA, lB] at lC
        have mid := seg_mid (l.take (2 * z * t)) C (l.drop y)
        rw [tl, lC, show 2 * z * t + (2 * z * t + z - 2 * z * t + (y - (2 * z * t + z))) = y by omega] at mid
        have same : ∀ {x w : Nat}, (w ≤ 2 * z * t ∨ y ≤ x) → seg (l.take (2 * z * t) ++ C ++ l.drop y) x w = seg l x w := by
          intro x w h
          have := seg_same (l.take (2 * z * t)) (seg l (2 * z * t) (2 * z * t + z) ++ seg l (2 * z * t + z) y) C (l.drop y) (by rw [lC, List.length_append, lA, lB]) (x := x) (y := w) (by rw [tl, List.length_append, lA, lB]; omega)
          rw [this, ← sp2]
        have lnew : (l.take (2 * z * t) ++ C ++ l.drop y).length = l.length := by simp; omega
        refine hK H6 (f5.step (Or.inl rfl) f6) _ o6 (fun k hk => ?_) (fun k hk => ?_)
        · by_cases q : k < t
          · have hkt : 2 * z * k + 2 * z ≤ 2 * z * t := by
              have := Nat.mul_le_mul_left (2 * z) (show k + 1 ≤ t by omega)
              rw [Nat.mul_add, Nat.mul_one] at this; exact this
            unfold sortedP
            rw [same (Or.inl hkt)]
            exact hb1 k q
          · obtain rfl : k = t := by omega
            have e1 : seg (l.take (2 * z * k) ++ C ++ l.drop y) (2 * z * k) (2 * z * k + 2 * z) = C := by
              rcases hy3 with h | ⟨h, h2⟩
              · rw [← h]; exact mid
              · rw [seg_over _ (z := y) (by omega) (by omega)]; exact mid
            have e2 : seg l0 (2 * z * k) (2 * z * k + 2 * z) = seg l0 (2 * z * k) (2 * z * k + z) ++ seg l0 (2 * z * k + z) y := by
              rw [← seg_app l0 (by omega) (by omega)]
              rcases hy3 with h | ⟨h, h2⟩
              · rw [h]
              · exact seg_over _ (by omega) (by omega)
            unfold sortedP
            rw [e1, e2]
            exact ⟨pm.trans (List.Perm.append bA.1 bB.1), sr⟩
        · have hkt : 2 * z * t + 2 * z ≤ z * k := by
            have := Nat.mul_le_mul_left z hk
            rw [← Nat.mul_assoc, Nat.mul_comm z 2, Nat.mul_add, Nat.mul_one] at this; exact this
          by_cases q : y ≤ z * k
          · unfold sortedP
            rw [same (Or.inr q)]
            exact hb2 k (by omega)
          · omega
      have e2 : ((2 * z * t : Nat) : Int) + z = ((2 * z * t + z : Nat) : Int) := by omega
      have e3 : ((2 * z * t : Nat) : Int) + 2 * z = ((2 * z * t + 2 * z : Nat) : Int) := by omega
      have e5 : 2 * z * (t + 1) = 2 * z * t + 2 * z := by rw [Nat.mul_add, Nat.mul_one]
      rw [e2, e3]
      refine ⟨fun hi => ?_, fun hi => ?_⟩
      · simp only [decide_eq_true_eq] at hi
        refine ⟨by omega, merge (2 * z * t + 2 * z) (by omega) (by omega) (Or.inl rfl) _ fun H6 f6 l' o6 g1 g2 => ⟨rfl, by omega, by omega, ⟨t + 1, by rw [e5], by omega, by omega, f6, l', o6, g1, g2⟩, by dsimp only; omega⟩⟩
      · simp only [decide_eq_false_iff_not] at hi
        refine ⟨by omega, ?_⟩
        refine ⟨fun H' => offA (some ⟨b, 0, none⟩) H H' ∧ ∃ l, ownTh H' base (some ⟨b, 0, none⟩) n c l ∧ ∀ k, sortedP rk l0 l (2 * z * k) (2 * z * k + 2 * z), ⟨fun hm => ?_, fun hm => ?_⟩, ?_⟩
        · simp only [decide_eq_true_eq] at hm
          refine merge n (by omega) (Nat.le_refl _) (Or.inr ⟨rfl, by omega⟩) _ fun H6 f6 l' o6 g1 g2 => ⟨rfl, f6, l', o6, fun k => ?_⟩
          by_cases q : k < t + 1
          · exact g1 k q
          · have : 2 * z * t + 2 * z ≤ 2 * z * k := by
              have := Nat.mul_le_mul_left (2 * z) (show t + 1 ≤ k by omega)
              rw [e5] at this; exact this
            have l6 := o6.len
            have e1 : seg l' (2 * z * k) (2 * z * k + 2 * z) = [] := by rw [seg, List.drop_eq_nil_of_le (by omega), List.take_nil]
            have e2 : seg l0 (2 * z * k) (2 * z * k + 2 * z) = [] := by rw [seg, List.drop_eq_nil_of_le (by omega), List.take_nil]
            unfold sortedP
            rw [e1, e2]; exact ⟨List.Perm.refl _, List.Pairwise.nil⟩
        · simp only [decide_eq_false_iff_not] at hm
          refine ⟨f5, l, ow, fun k => ?_⟩
          by_cases q : k < t
          · exact hb1 k q
          · by_cases q2 : k = t
            · subst q2
              have ex : z * (2 * k) = 2 * z * k := by rw [Nat.mul_left_comm, ← Nat.mul_assoc]
              have := hb2 (2 * k) (Nat.le_refl _)
              rw [ex] at this
              unfold sortedP at this ⊢
              rw [seg_over l (y := 2 * z * k + 2 * z) (z := 2 * z * k + z) (by omega) (by omega), seg_over l0 (y := 2 * z * k + 2 * z) (z := 2 * z * k + z) (by omega) (by omega)]
              exact this
            · have : 2 * z * t + 2 * z ≤ 2 * z * k := by
                have := Nat.mul_le_mul_left (2 * z) (show t + 1 ≤ k by omega)
                rw [e5] at this; exact this
              have e1 : seg l (2 * z * k) (2 * z * k + 2 * z) = [] := by rw [seg, List.drop_eq_nil_of_le (by omega), List.take_nil]
              have e2 : seg l0 (2 * z * k) (2 * z * k + 2 * z) = [] := by rw [seg, List.drop_eq_nil_of_le (by omega), List.take_nil]
              unfold sortedP
              rw [e1, e2]; exact ⟨List.Perm.refl _, List.Pairwise.nil⟩
        · rintro _ H8 ⟨f8, l8, o8, g8⟩
          exact ⟨by omega, ⟨2 * z, by omega, by omega, by omega, f8, l8, o8, g8⟩, by dsimp only; omega⟩
    · simp only [decide_eq_false_iff_not] at hzn
      have := hb 0
      unfold sortedP at this
      rw [Nat.mul_zero, Nat.zero_add, seg_all l (by omega), seg_all l0 (by omega)] at this
      exact ⟨rfl, f4, l, this.1, this.2, ow⟩
end
end Go.Proofs.Ytkkjjjgcfnhabaa.Eng
namespace Go.Proofs.Ytkkjjjgcfnhabaa.Eng
open Go
def eV (i : Nat) : List Int := (List.range 256).map fun j => if j = i then 1 else 0
theorem eV_len (i : Nat) : (eV i).length = 256 := by simp [eV]
def one (w : Int) (i : Nat) : Th := ⟨w, eV i, eV_len i⟩
theorem eV_get (i j : Nat) : (eV i).getD j 0 = if j = i ∧ j < 256 then 1 else 0 := by
  rw [eV, List.getD_eq_getElem?_getD, List.getElem?_map]
  by_cases h : j < 256
  · rw [List.getElem?_range h]; simp [h]
  · rw [List.getElem?_eq_none (by simp; omega)]; simp [h]
/-- The symbol's place, the highest first. -/
def rkS (x : Th) : Nat := 255 - x.o.idxOf 1
theorem idx_eV (i : Nat) (hi : i < 256) : (eV i).idxOf 1 = i := by
  have hl := eV_len i
  have h1 : (1 : Int) ∈ eV i := List.mem_iff_getElem?.2 ⟨i, by
    rw [eV, List.getElem?_map, List.getElem?_range hi]; simp⟩
  have h2 := List.idxOf_lt_length_of_mem h1
  have h3 := List.getElem_idxOf h2
  have : (eV i).getD ((eV i).idxOf 1) 0 = 1 := by
    rw [List.getD_eq_getElem?_getD, List.getElem?_eq_getElem h2]; simp
  rw [eV_get] at this
  split at this
  · rename_i h; exact h.1
  · exact absurd this (by decide)
theorem rkS_one (w : Int) (i : Nat) (hi : i < 256) : rkS (one w i) = 255 - i := by
  rw [rkS]
  show 255 - (eV i).idxOf 1 = 255 - i
  rw [idx_eV i hi]
/-- The things, the highest symbol first: of the last d symbols. -/
def rawU (cs : List Int) : Nat → List Th
  | 0 => []
  | d + 1 => rawU cs d ++ (if 0 < cs.getD (cs.length - (d + 1)) 0 then [one (cs.getD (cs.length - (d + 1)) 0) (cs.length - (d + 1))] else [])
theorem rawU_mem {cs : List Int} : ∀ {d : Nat} {x : Th}, d ≤ cs.length → x ∈ rawU cs d → ∃ i, cs.length - d ≤ i ∧ i < cs.length ∧ x = one (cs.getD i 0) i ∧ 0 < cs.getD i 0
  | 0, x, _, h => by simp [rawU] at h
  | d + 1, x, hd, h => by
    rw [rawU] at h
    rcases List.mem_append.1 h with h | h
    · obtain ⟨i, a, b, c, e⟩ := rawU_mem (by omega) h
      exact ⟨i, by omega, b, c, e⟩
    · split at h
      · rename_i q
        simp at h
        exact ⟨_, Nat.le_refl _, by omega, h, q⟩
      · simp at h
theorem rawU_rin {cs : List Int} (h256 : cs.length ≤ 256) : ∀ (d : Nat), d ≤ cs.length → rin rkS (rawU cs d)
  | 0, _ => List.Pairwise.nil
  | d + 1, hd => by
    rw [rawU]
    refine List.pairwise_append.2 ⟨rawU_rin h256 d (by omega), ?_, fun x hx y hy => ?_⟩
    · split
      · exact List.pairwise_singleton ..
      · exact List.Pairwise.nil
    · obtain ⟨i, a, b, c, _⟩ := rawU_mem (by omega) hx
      split at hy
      · simp at hy
        rw [c, hy, rkS_one _ _ (by omega), rkS_one _ _ (by omega)]
        omega
      · simp at hy
/-- A thing goes behind all that weigh no more. -/
def insT (x : Th) (l : List Th) : List Th := l.takeWhile (fun y => decide (y.w ≤ x.w)) ++ x :: l.dropWhile (fun y => decide (y.w ≤ x.w))
def refU (cs : List Int) : Nat → List Th
  | 0 => []
  | d + 1 => if 0 < cs.getD (cs.length - (d + 1)) 0 then insT (one (cs.getD (cs.length - (d + 1)) 0) (cs.length - (d + 1))) (refU cs d) else refU cs d
theorem insT_perm (x : Th) (l : List Th) : (insT x l).Perm (x :: l) := by
  have := List.perm_middle (a := x) (l₁ := l.takeWhile (fun y => decide (y.w ≤ x.w))) (l₂ := l.dropWhile (fun y => decide (y.w ≤ x.w)))
  rw [List.takeWhile_append_dropWhile] at this
  exact this
theorem takeWhile_all {α : Type} (p : α → Bool) : ∀ (l : List α), ∀ x ∈ l.takeWhile p, p x = true
  | [], x, h => by simp at h
  | y :: l, x, h => by
    rw [List.takeWhile_cons] at h
    split at h
    · rename_i q
      rcases List.mem_cons.1 h with e | e
      · subst e; exact q
      · exact takeWhile_all p l x e
    · simp at h
theorem dropWhile_head {α : Type} (p : α → Bool) : ∀ (l : List α) (x : α) (r : List α), l.dropWhile p = x :: r → p x = false
  | [], x, r, h => by simp at h
  | y :: l, x, r, h => by
    rw [List.dropWhile_cons] at h
    split at h
    · exact dropWhile_head p l x r h
    · rename_i q
      cases h; simpa using q
theorem insT_srt {x : Th} {l : List Th} (h : srt rkS l) (hr : ∀ y ∈ l, rkS y < rkS x) : srt rkS (insT x l) := by
  have hsub1 := List.takeWhile_sublist (l := l) (fun y => decide (y.w ≤ x.w))
  refine srt_insert rkS (by rw [List.takeWhile_append_dropWhile]; exact h) (fun y hy => ?_) ?_
  · have a := takeWhile_all _ _ y hy
    have b := hr y (hsub1.subset hy)
    simp only [decide_eq_true_eq] at a
    unfold lx; omega
  · have hsub2 := List.dropWhile_sublist (l := l) (fun y => decide (y.w ≤ x.w))
    cases hd : l.dropWhile (fun y => decide (y.w ≤ x.w)) with
    | nil => intro y hy; simp at hy
    | cons z r =>
      have := dropWhile_head _ _ _ _ hd
      have sz : srt rkS (z :: r) := by rw [← hd]; exact List.Pairwise.sublist hsub2 h
      exact srt_head rkS sz (Or.inl (by simpa using this))
theorem refU_spec {cs : List Int} (h256 : cs.length ≤ 256) : ∀ (d : Nat), d ≤ cs.length → (refU cs d).Perm (rawU cs d) ∧ srt rkS (refU cs d)
  | 0, _ => ⟨List.Perm.refl _, List.Pairwise.nil⟩
  | d + 1, hd => by
    obtain ⟨p, s⟩ := refU_spec h256 d (by omega)
    rw [refU, rawU]
    split
    · rename_i q
      refine ⟨(insT_perm _ _).trans ((List.Perm.cons _ p).trans (List.perm_append_singleton _ _).symm), insT_srt s fun y hy => ?_⟩
      obtain ⟨i, a, b, c, _⟩ := rawU_mem (by omega) (p.mem_iff.1 hy)
      rw [c, rkS_one _ _ (by omega), rkS_one _ _ (by omega)]
      omega
    · rw [List.append_nil]; exact ⟨p, s⟩
def thingsL (cs : List Int) : List Th := refU cs cs.length
/-- What the stable sort makes of the things. -/
theorem sorted_things {cs : List Int} (h256 : cs.length ≤ 256) {l : List Th} (hp : l.Perm (rawU cs cs.length)) (hs : srt rkS l) : l = thingsL cs := by
  obtain ⟨p, s⟩ := refU_spec h256 cs.length (Nat.le_refl _)
  exact srt_unique rkS (hp.trans p.symm) hs s
def bothT (x y : Th) : Th := ⟨x.w + y.w, List.zipWith (· + ·) x.o y.o, by simp [x.len, y.len]⟩
theorem bothT_get (x y : Th) (s : Nat) : (bothT x y).o.getD s 0 = x.o.getD s 0 + y.o.getD s 0 := by
  show (List.zipWith (· + ·) x.o y.o).getD s 0 = _
  simp only [List.getD_eq_getElem?_getD]
  by_cases h : s < 256
  · rw [List.getElem?_zipWith, List.getElem?_eq_getElem (by rw [x.len]; exact h), List.getElem?_eq_getElem (by rw [y.len]; exact h)]; rfl
  · rw [List.getElem?_eq_none (by simp [x.len, y.len]; omega), List.getElem?_eq_none (by rw [x.len]; omega), List.getElem?_eq_none (by rw [y.len]; omega)]; rfl
def pairL : List Th → List Th
  | x :: y :: r => bothT x y :: pairL r
  | _ => []
def mergeL (a : List Th) : List Th → List Th
  | [] => a
  | y :: r => a.takeWhile (fun x => decide (x.w ≤ y.w)) ++ y :: mergeL (a.dropWhile (fun x => decide (x.w ≤ y.w))) r
def rowL (first : List Th) : Nat → List Th
  | 0 => first
  | j + 1 => mergeL first (pairL (rowL first j))
def colS (s : Nat) : List Th → Int
  | [] => 0
  | x :: r => x.o.getD s 0 + colS s r
def wS : List Th → Int
  | [] => 0
  | x :: r => x.w + wS r
theorem colS_app (s : Nat) (a b : List Th) : colS s (a ++ b) = colS s a + colS s b := by
  induction a with
  | nil => simp [colS]
  | cons x r ih => simp only [List.cons_append, colS, ih]; omega
theorem wS_app (a b : List Th) : wS (a ++ b) = wS a + wS b := by
  induction a with
  | nil => simp [wS]
  | cons x r ih => simp only [List.cons_append, wS, ih]; omega
theorem colS_perm (s : Nat) {a b : List Th} (h : a.Perm b) : colS s a = colS s b := by
  induction h with
  | nil => rfl
  | cons x _ ih => simp only [colS, ih]
  | swap x y l => simp only [colS]; omega
  | trans _ _ h1 h2 => exact h1.trans h2
theorem wS_perm {a b : List Th} (h : a.Perm b) : wS a = wS b := by
  induction h with
  | nil => rfl
  | cons x _ ih => simp only [wS, ih]
  | swap x y l => simp only [wS]; omega
  | trans _ _ h1 h2 => exact h1.trans h2
def nnT (l : List Th) : Prop := ∀ x ∈ l, 0 ≤ x.w ∧ ∀ s, 0 ≤ x.o.getD s 0
theorem colS_nonneg (s : Nat) : ∀ (l : List Th), nnT l → 0 ≤ colS s l
  | [], _ => by simp [colS]
  | x :: r, h => by
    have := colS_nonneg s r fun y hy => h y (List.mem_cons_of_mem _ hy)
    have := (h x List.mem_cons_self).2 s
    simp only [colS]; omega
theorem wS_nonneg : ∀ (l : List Th), nnT l → 0 ≤ wS l
  | [], _ => by simp [wS]
  | x :: r, h => by
    have := wS_nonneg r fun y hy => h y (List.mem_cons_of_mem _ hy)
    have := (h x List.mem_cons_self).1
    simp only [wS]; omega
theorem col_le {s : Nat} {l : List Th} (h : nnT l) {x : Th} (hx : x ∈ l) : x.o.getD s 0 ≤ colS s l := by
  induction l with
  | nil => simp at hx
  | cons y r ih =>
    have a := colS_nonneg s r fun z hz => h z (List.mem_cons_of_mem _ hz)
    have b := (h y List.mem_cons_self).2 s
    rcases List.mem_cons.1 hx with e | e
    · subst e; simp only [colS]; omega
    · have := ih (fun z hz => h z (List.mem_cons_of_mem _ hz)) e
      simp only [colS]; omega
theorem pairL_nn : ∀ (l : List Th), nnT l → nnT (pairL l)
  | [], _ => by intro x hx; simp [pairL] at hx
  | [_], _ => by intro x hx; simp [pairL] at hx
  | x :: y :: r, h => by
    intro z hz
    rw [pairL] at hz
    have hx := h x (by simp)
    have hy := h y (by simp)
    rcases List.mem_cons.1 hz with e | e
    · subst e
      exact ⟨by have := hx.1; have := hy.1; show 0 ≤ x.w + y.w; omega, fun s => by rw [bothT_get]; have := hx.2 s; have := hy.2 s; omega⟩
    · exact pairL_nn r (fun w hw => h w (by simp [hw])) z e
theorem pairL_bd : ∀ (l : List Th), nnT l → (∀ s, colS s (pairL l) ≤ colS s l) ∧ wS (pairL l) ≤ wS l ∧ (pairL l).length = l.length / 2
  | [], _ => by simp [pairL]
  | [x], h => by
    have := (h x (by simp))
    refine ⟨fun s => ?_, ?_, by simp [pairL]⟩
    · have := this.2 s; simp [pairL, colS]; simpa using this
    · have := this.1; simp [pairL, wS]; omega
  | x :: y :: r, h => by
    obtain ⟨a, b, c⟩ := pairL_bd r fun w hw => h w (by simp [hw])
    refine ⟨fun s => ?_, ?_, ?_⟩
    · have := a s; simp only [pairL, colS, bothT_get]; omega
    · simp only [pairL, wS]; show x.w + y.w + wS (pairL r) ≤ _; omega
    · simp only [pairL, List.length_cons, c]; omega
theorem mergeL_perm : ∀ (b a : List Th), (mergeL a b).Perm (a ++ b)
  | [], a => by simp [mergeL]
  | y :: r, a => by
    rw [mergeL]
    have ih := mergeL_perm r (a.dropWhile (fun x => decide (x.w ≤ y.w)))
    have e : a = a.takeWhile (fun x => decide (x.w ≤ y.w)) ++ a.dropWhile (fun x => decide (x.w ≤ y.w)) := (List.takeWhile_append_dropWhile).symm
    have h1 : (a.takeWhile (fun x => decide (x.w ≤ y.w)) ++ y :: mergeL (a.dropWhile (fun x => decide (x.w ≤ y.w))) r).Perm (a.takeWhile (fun x => decide (x.w ≤ y.w)) ++ y :: (a.dropWhile (fun x => decide (x.w ≤ y.w)) ++ r)) :=
      List.Perm.append_left _ (List.Perm.cons _ ih)
    refine h1.trans ?_
    have h2 : (a.takeWhile (fun x => decide (x.w ≤ y.w)) ++ y :: (a.dropWhile (fun x => decide (x.w ≤ y.w)) ++ r)).Perm (a.takeWhile (fun x => decide (x.w ≤ y.w)) ++ (a.dropWhile (fun x => decide (x.w ≤ y.w)) ++ y :: r)) :=
      List.Perm.append_left _ List.perm_middle.symm
    refine h2.trans ?_
    rw [← List.append_assoc, ← e]
theorem nnT_perm {a b : List Th} (h : a.Perm b) (hb : nnT b) : nnT a := fun x hx => hb x (h.mem_iff.1 hx)
theorem nnT_app {a b : List Th} (ha : nnT a) (hb : nnT b) : nnT (a ++ b) := fun x hx => by
  rcases List.mem_append.1 hx with h | h
  · exact ha x h
  · exact hb x h
/-- Each row: no symbol oftener than the rows so far. -/
theorem rowL_bd {first : List Th} (h : nnT first) (hc : ∀ s, colS s first ≤ 1) : ∀ (j : Nat), nnT (rowL first j) ∧ (∀ s, colS s (rowL first j) ≤ j + 1) ∧ wS (rowL first j) ≤ (j + 1) * wS first
  | 0 => ⟨h, fun s => by have := hc s; simp only [rowL]; omega, by simp [rowL]⟩
  | j + 1 => by
    obtain ⟨a, b, c⟩ := rowL_bd h hc j
    obtain ⟨p, q, _⟩ := pairL_bd _ a
    have pm := mergeL_perm (pairL (rowL first j)) first
    refine ⟨nnT_perm pm (nnT_app h (pairL_nn _ a)), fun s => ?_, ?_⟩
    · rw [rowL, colS_perm s pm, colS_app]
      have := p s; have := b s; have := hc s
      push_cast
      omega
    · rw [rowL, wS_perm pm, wS_app]
      have e : ((j + 1 : Nat) : Int) + 1 = ((j : Int) + 1) + 1 := by push_cast; rfl
      rw [e, Int.add_mul _ 1, Int.one_mul]
      omega
theorem rowL_len (first : List Th) (h : nnT first) (hc : ∀ s, colS s first ≤ 1) (j : Nat) : (rowL first (j + 1)).length = first.length + (rowL first j).length / 2 := by
  have := (mergeL_perm (pairL (rowL first j)) first).length_eq
  rw [List.length_append, (pairL_bd _ (rowL_bd h hc j).1).2.2] at this
  exact this
/-- There are enough packages. -/
theorem rowL_enough (first : List Th) (h : nnT first) (hc : ∀ s, colS s first ≤ 1) : ∀ (j : Nat), (rowL first j).length ≤ 2 * first.length ∧ 2 * first.length ≤ (rowL first j).length + (first.length - 1) / 2 ^ j + 1
  | 0 => by
    rw [rowL, Nat.pow_zero, Nat.div_one]
    omega
  | j + 1 => by
    obtain ⟨a, b⟩ := rowL_enough first h hc j
    rw [rowL_len first h hc j, Nat.pow_succ, ← Nat.div_div_eq_div_mul]
    generalize (first.length - 1) / 2 ^ j = d at *
    omega
theorem rowL_last (first : List Th) (h : nnT first) (hc : ∀ s, colS s first ≤ 1) {L : Nat} (hL : 1 ≤ L) (hn : first.length ≤ 2 ^ L) : 2 * first.length - 2 ≤ (rowL first (L - 1)).length := by
  have := (rowL_enough first h hc (L - 1)).2
  have e : 2 ^ L = 2 ^ (L - 1) * 2 := by rw [← Nat.pow_succ]; congr 1; omega
  have hp : 0 < 2 ^ (L - 1) := Nat.two_pow_pos _
  have : (first.length - 1) / 2 ^ (L - 1) ≤ 1 := by
    have : (first.length - 1) / 2 ^ (L - 1) < 2 := Nat.div_lt_of_lt_mul (by omega)
    omega
  omega
def okCounts (cs : List Int) : Bool := cs.all fun c => decide (0 ≤ c) && decide (c ≤ 1099511627776)
theorem okCounts_at {cs : List Int} (h : okCounts cs = true) (i : Nat) : 0 ≤ cs.getD i 0 ∧ cs.getD i 0 ≤ 1099511627776 := by
  rw [List.getD_eq_getElem?_getD]
  cases hc : cs[i]? with
  | none => simp
  | some c =>
    have := List.all_eq_true.1 h c (List.mem_iff_getElem?.2 ⟨i, hc⟩)
    simpa using this
theorem rawU_bd {cs : List Int} (h : okCounts cs = true) : ∀ (d : Nat), d ≤ cs.length → nnT (rawU cs d) ∧ (∀ s, colS s (rawU cs d) ≤ if cs.length - d ≤ s then 1 else 0) ∧ wS (rawU cs d) ≤ 1099511627776 * d ∧ (rawU cs d).length ≤ d
  | 0, _ => by
    refine ⟨fun x hx => by simp [rawU] at hx, fun s => by simp only [rawU, colS]; split <;> omega, by simp [rawU, wS], by simp [rawU]⟩
  | d + 1, hd => by
    obtain ⟨a, b, c, e⟩ := rawU_bd h d (by omega)
    have hc := okCounts_at h (cs.length - (d + 1))
    rw [rawU]
    split
    · rename_i q
      refine ⟨nnT_app a fun x hx => ?_, fun s => ?_, ?_, by simp; omega⟩
      · simp at hx; subst hx
        refine ⟨by show 0 ≤ cs.getD _ 0; omega, fun s => ?_⟩
        show 0 ≤ (eV _).getD s 0
        rw [eV_get]; split <;> omega
      · rw [colS_app]
        have := b s
        show _ + ((eV _).getD s 0 + 0) ≤ _
        rw [eV_get]
        split at this <;> split <;> split <;> omega
      · rw [wS_app]
        show _ + (cs.getD _ 0 + 0) ≤ _
        push_cast
        omega
    · rw [List.append_nil]
      refine ⟨a, fun s => ?_, by push_cast; omega, by omega⟩
      have := b s
      split at this <;> split <;> omega
theorem things_bd {cs : List Int} (h : okCounts cs = true) (h256 : cs.length ≤ 256) : nnT (thingsL cs) ∧ (∀ s, colS s (thingsL cs) ≤ 1) ∧ wS (thingsL cs) ≤ 281474976710656 ∧ (thingsL cs).length ≤ cs.length := by
  obtain ⟨p, _⟩ := refU_spec h256 cs.length (Nat.le_refl _)
  obtain ⟨a, b, c, e⟩ := rawU_bd h cs.length (Nat.le_refl _)
  refine ⟨nnT_perm p a, fun s => ?_, ?_, ?_⟩
  · rw [thingsL, colS_perm s p]; have := b s; split at this <;> omega
  · rw [thingsL, wS_perm p]; omega
  · rw [thingsL, p.length_eq]; exact e
def lensOf (n : Nat) (l : List Th) : List Int := (List.range n).map fun i => colS i l
def lenRes (cs : List Int) (limit : Int) : List Int × Int :=
  if 256 < cs.length then ([], 2) else if okCounts cs = false ∨ limit < 1 ∨ 15 < limit then ([], 3) else if 2 ^ limit.toNat < (thingsL cs).length then ([], 41) else
  (lensOf cs.length ((rowL (thingsL cs) (limit.toNat - 1)).take (if (thingsL cs).length = 0 then 0 else max (2 * (thingsL cs).length - 2) 1)), 0)
end Go.Proofs.Ytkkjjjgcfnhabaa.Eng
namespace Go.Proofs.Ytkkjjjgcfnhabaa.Eng
open Go Go.Proofs
theorem f194.nil (φ : Fx) (A : Option Addr) (c : Nat) (H : Hp) : HCalls cx.P φ 194 [.slice A 0 c, .int .i64 0, .int .i64 0, cmpV] H fun r H' => r = .tuple #[] ∧ H' = H := by
  apply f194.of
  unfold f194.VC
  refine ⟨by omega, fun i H' => 1 ≤ i ∧ H' = H, fun _ _ => 0, ⟨by omega, rfl⟩, ?_⟩
  rintro i _ H' ⟨hi, rfl⟩
  exact ⟨fun h => by simp only [decide_eq_true_eq] at h; omega, fun _ => ⟨rfl, rfl⟩⟩
theorem f190.nil (φ : Fx) (A : Option Addr) (c : Nat) (H : Hp) : HCalls cx.P φ 190 [.slice A 0 c, .int .i64 0, cmpV] H fun r H' => r = .tuple #[] ∧ H' = H := by
  apply f190.of
  unfold f190.VC
  refine ⟨fun a b H' => a = 0 ∧ b = 20 ∧ H' = H, fun _ _ _ => 0, ⟨rfl, rfl, rfl⟩, ?_⟩
  rintro a b _ H' ⟨rfl, rfl, rfl⟩
  refine ⟨fun h => (nomatch h), fun _ => HCalls.mono (f194.nil φ A c H') ?_⟩
  rintro r H2 ⟨rfl, rfl⟩
  refine ⟨rfl, fun z H' => 0 ≤ z ∧ H' = H2, fun _ _ => 0, ⟨by omega, rfl⟩, ?_⟩
  rintro z _ H3 ⟨hz, rfl⟩
  exact ⟨fun h => by simp only [decide_eq_true_eq] at h; omega, fun _ => ⟨rfl, rfl⟩⟩
theorem f170.spec (φ : Fx) {A : Option Addr} {n c base : Nat} {l0 : List Th} {H : Hp} (own : ownTh H base A n c l0) (hn : n ≤ 1099511627776) (hr : rin rkS l0) :
    HCalls cx.P φ 170 [.slice A n c, cmpV] H fun r H' => r = .tuple #[] ∧ offA A H H' ∧ ∃ l, l.Perm l0 ∧ srt rkS l ∧ ownTh H' base A n c l := by
  apply f170.of
  unfold f170.VC
  by_cases h0 : n = 0
  · subst h0
    refine HCalls.mono (f190.nil φ A c H) ?_
    rintro r H' ⟨rfl, rfl⟩
    have := own.len
    have e : l0 = [] := List.eq_nil_of_length_eq_zero this
    subst e
    exact ⟨rfl, rfl, offA.refl .., [], List.Perm.refl _, List.Pairwise.nil, own⟩
  · obtain ⟨b, rfl, _, _⟩ := ownC.some_of own (by omega)
    refine HCalls.mono (f190.spec rkS φ own hn hr) ?_
    rintro r H' ⟨rfl, h⟩
    exact ⟨rfl, rfl, h⟩
def zeroTh : List Value := Value.int .i64 0 :: List.replicate 256 (Value.int .u8 0)
/-- A new thing: its weight is laid, then its one. -/
theorem one_new (H : Hp) (w : Int) (i : Nat) (hi : i < 256) (H2 : Hp) (k2 : Keeps H H2) (hb : H.size < H2.size) (o2 : objAt H2 H.size (Value.int .i64 w :: List.replicate 256 (Value.int .u8 0)).toArray 180) :
    canPut H2 H.size (0 + 1 + i * 1) [.int .u8 1] ∧ isTh (hput H2 H.size (0 + 1 + i * 1) [.int .u8 1]) H.size 0 (one w i) ∧ Keeps H (hput H2 H.size (0 + 1 + i * 1) [.int .u8 1]) := by
  refine ⟨objAt_canPut o2 (by simp; omega) (by simp [Value.oneCell']), fun r v hv => ?_, k2.hput (Nat.le_refl _)⟩
  have o3 := objAt_hput o2 (0 + 1 + i * 1) [.int .u8 1]
  have hr := (List.getElem?_eq_some_iff.1 hv).1
  rw [encTh_len] at hr
  rw [objAt_cel o3, getElem?_spl _ _ _ (by simp; omega)]
  match r, hv, hr with
  | 0, hv, _ =>
    rw [if_neg (by simp)]
    simp [encTh, one] at hv ⊢
    exact hv
  | r + 1, hv, hr =>
    have e : (one w i).o = (List.range 256).map fun j => if j = i then 1 else 0 := rfl
    simp only [encTh, List.getElem?_cons_succ, List.append_nil, List.getElem?_map, e] at hv
    rw [List.getElem?_range (by omega)] at hv
    simp only [Option.map_some, Option.some.injEq] at hv
    by_cases q : r = i
    · subst q
      rw [if_pos (by simp; omega)]
      simp at hv ⊢
      rw [show r + 1 - (1 + r) = 0 by omega]; simpa using hv
    · rw [if_neg (by simp; omega)]
      rw [if_neg q] at hv
      rw [Nat.zero_add]
      simp only [List.getElem?_toArray, List.getElem?_cons_succ]
      rw [List.getElem?_replicate, if_pos (by omega)]
      rw [← hv]
theorem app175 {H : Hp} {base : Nat} {A : Option Addr} {n c : Nat} {xs : List Th} (own : ownTh H base A n c xs) (hbase : base ≤ H.size) (hn : n ≤ 1073741824) (x : Th) (d : Nat) {K : Value → Hp → Prop}
    (hK : ∀ A' c' H', ownTh H' base A' (n + 1) c' (xs ++ [x]) → offA A H H' → (A' = A ∨ ∃ q, H.size ≤ q ∧ A' = some ⟨q, 0, none⟩) → K (.slice A' (n + 1) c') H') :
    appW cx 175 175 (.slice A n c) (.slice (some ⟨H.size, 0, none⟩) 1 d) (Array.push H (.cells (Value.int .i64 x.w :: (List.map (Value.int .u8) x.o ++ [])).toArray 180 (0, 0))) K := by
  have k : Keeps H (Array.push H (.cells (encTh x).toArray 180 (0, 0))) := Keeps.push ..
  have hs : rdC (Array.push H (.cells (encTh x).toArray 180 (0, 0))) (some ⟨H.size, 0, none⟩) (1 * 257) (encTh x) := rdC_new _ _ _ _ _ (encTh_len x)
  refine app_own' (i := ⟨175, .slc 180, 1, 24, [.slice none 0 0], [.slc], [(false, [.slc])], false⟩) (e := 180) (ie := ⟨180, .st [(0, 1, false), (1, 256, true)], 257, 264, Value.int .i64 0 :: List.replicate 256 (.int .u8 0), [.int .i64, .ints 256 .u8], [(true, [.int .i64, .ints 256 .u8])], false⟩) rfl rfl rfl rfl (ownTh.keeps own k) (m := 1) (ys := encTh x)
    (show srcC _ 257 (.slice (some ⟨H.size, 0, none⟩) 1 d) 1 _ from ⟨rfl, hs⟩) (by rw [encTh_len]; rfl) (encTh_one x) (by show (n + 1) * 264 ≤ _; omega) (by have := k.size; omega) ?_
  intro A' c' H' w f e _
  refine hK A' c' H' (by unfold ownTh; rw [List.flatMap_append]; simpa using w) ⟨Nat.le_trans k.size f.1, fun q hq hne => by rw [f.2 q (Nat.lt_of_lt_of_le hq k.size) hne]; exact k.old q hq⟩ ?_
  rcases e with e | e
  · exact Or.inl e.1
  · exact Or.inr ⟨_, k.size, e.1⟩
theorem f123.spec (φ : Fx) (A : Option Addr) (n c : Nat) (cs : List Int) (H : Hp) (hr : intsR H A n cs) (h256 : n ≤ 256) :
    HCalls cx.P φ 123 [.slice A n c] H fun r H' => ∃ A' m c', r = .slice A' m c' ∧ ownTh H' H.size A' m c' (thingsL cs) ∧ Keeps H H' := by
  apply f123.of
  unfold f123.VC
  have hl := hr.1
  refine ⟨by omega, ?_⟩
  refine ⟨fun lA ln lc i H' => -1 ≤ i ∧ i < n ∧ Keeps H H' ∧ ln ≤ n - (i + 1).toNat ∧ ownTh H' H.size lA ln lc (rawU cs (n - (i + 1).toNat)), fun _ _ _ i _ => (i + 1).toNat,
    ⟨by omega, by omega, Keeps.refl _, by omega, by rw [show n - ((n : Int) - 1 + 1).toNat = 0 by omega]; exact ownC_nil ..⟩, ?_⟩
  rintro lA ln lc i _ H1 ⟨h0, h1, k1, hln, own1⟩
  have s1 := k1.size
  refine ⟨fun hi => ?_, fun hi => ?_⟩
  · simp only [decide_eq_true_eq] at hi
    obtain ⟨x, b, o, hx, rfl, cx, _⟩ := hr.at hi h1
    simp -zeta only [xA, xI (k1.cel cx)]
    have hgd : cs.getD (cs.length - (n - (i + 1).toNat + 1)) 0 = x := by
      rw [List.getD_eq_getElem?_getD, show cs.length - (n - (i + 1).toNat + 1) = i.toNat by omega, hx]; rfl
    have hstep : rawU cs (n - (i - 1 + 1).toNat) = rawU cs (n - (i + 1).toNat) ++ (if 0 < x then [one x i.toNat] else []) := by
      rw [show n - (i - 1 + 1).toNat = (n - (i + 1).toNat) + 1 by omega, rawU, hgd, show cs.length - (n - (i + 1).toNat + 1) = i.toNat by omega]
    refine ⟨⟨hi, h1⟩, ?_⟩
    refine ⟨fun A' n' c' H' => Keeps H H' ∧ n' ≤ n - (i - 1 + 1).toNat ∧ ownTh H' H.size A' n' c' (rawU cs (n - (i - 1 + 1).toNat)), ⟨fun hp => ?_, fun hp => ?_⟩, fun A' n' c' _ H' h => ⟨by omega, ⟨by omega, by omega, h.1, h.2.1, h.2.2⟩, by omega⟩⟩
    · simp only [decide_eq_true_eq] at hp
      refine ⟨⟨hi, h1⟩, ?_⟩
      intro H2
      have o2 : objAt H2 H1.size zeroTh.toArray 180 := objAt_new ..
      have k12 : Keeps H1 H2 := Keeps.push ..
      have s12 : H2.size = H1.size + 1 := by simp [H2]
      clear_value H2
      change canPut H2 H1.size 0 (Value.int .i64 x :: List.replicate 256 (Value.int .u8 0)) ∧ _
      refine ⟨objAt_canPut o2 (by simp [zeroTh]) (by intro v hv; rcases List.mem_cons.1 hv with e | e; (subst e; rfl); (have := List.eq_of_mem_replicate e; subst this; rfl)), ?_⟩
      intro H3
      have o3 : objAt H3 H1.size (Value.int .i64 x :: List.replicate 256 (Value.int .u8 0)).toArray 180 := objAt_put o2 0 (Value.int .i64 x :: List.replicate 256 (Value.int .u8 0)) _ (by simp [spl, zeroTh])
      have k13 : Keeps H1 H3 := k12.hput (Nat.le_refl _)
      have s13 : H3.size = H2.size := hput_size ..
      clear_value H3
      obtain ⟨p1, p2, p3⟩ := one_new H1 x i.toNat (by omega) H3 k13 (by omega) o3
      refine ⟨⟨hi, by omega⟩, p1, ?_⟩
      intro H4
      have p2 : isTh H4 H1.size 0 (one x i.toNat) := p2
      have k14 : Keeps H1 H4 := p3
      clear_value H4
      simp -zeta only [xT p2, fitsTh]
      try intro H5
      have own4 := own1.keeps k14
      have s14 := k14.size
      refine app175 own4 (by omega) (by omega) (one x i.toNat) 1 ?_
      intro A5 c5 H6 w f e
      refine ⟨_, _, _, rfl, f.keeps (k1.trans k14) fun b hb => (ownC.lt own4 hb).1, by omega, ?_⟩
      rw [hstep, if_pos hp]; exact w
    · simp only [decide_eq_false_iff_not] at hp
      refine ⟨k1, by omega, ?_⟩
      rw [hstep, if_neg hp, List.append_nil]; exact own1
  · simp only [decide_eq_false_iff_not] at hi
    have e : n - (i + 1).toNat = cs.length := by omega
    rw [e] at own1
    refine HCalls.mono (f170.spec φ own1 (by omega) (rawU_rin (by omega) _ (Nat.le_refl _))) ?_
    rintro r H2 ⟨rfl, f, l, pm, sr, w⟩
    have := sorted_things (by omega) pm sr
    subst this
    exact ⟨rfl, _, _, _, rfl, w, f.keeps k1 fun b hb => (ownC.lt own1 hb).1⟩
end Go.Proofs.Ytkkjjjgcfnhabaa.Eng
namespace Go.Proofs.Ytkkjjjgcfnhabaa.Eng
open Go Go.Proofs
def Th.setO (z : Th) (i : Nat) (v : Int) : Th := ⟨z.w, z.o.set i v, by simp [z.len]⟩
def Th.setW (z : Th) (v : Int) : Th := ⟨v, z.o, z.len⟩
theorem spl_one (l : List Value) (o : Nat) (v : Value) (h : o < l.length) : spl l.toArray o [v] = (l.set o v).toArray := by
  have e1 : spl l.toArray o [v] = l.toArray.setIfInBounds o v := by rw [← spl_cons _ _ _ _ (by simp; omega), spl_nil]
  rw [e1, List.setIfInBounds_toArray]
theorem th_put {H : Hp} {b : Nat} {z : Th} (o : objAt H b (encTh z).toArray 180) {i : Nat} (hi : i < 256) (v : Int) :
    canPut H b (0 + 1 + i * 1) [.int .u8 v] ∧ objAt (hput H b (0 + 1 + i * 1) [.int .u8 v]) b (encTh (z.setO i v)).toArray 180 := by
  have hl := encTh_len z
  refine ⟨objAt_canPut o (by simp [hl]; omega) (by simp [Value.oneCell']), objAt_put o _ _ _ ?_⟩
  rw [spl_one _ _ _ (by rw [hl]; omega)]
  congr 1
  rw [show 0 + 1 + i * 1 = i + 1 by omega]
  simp only [encTh, Th.setO, List.set_cons_succ, List.append_nil, List.map_set]
theorem th_putW {H : Hp} {b : Nat} {z : Th} (o : objAt H b (encTh z).toArray 180) (v : Int) :
    canPut H b 0 [.int .i64 v] ∧ objAt (hput H b 0 [.int .i64 v]) b (encTh (z.setW v)).toArray 180 := by
  have hl := encTh_len z
  refine ⟨objAt_canPut o (by simp [hl]) (by simp [Value.oneCell']), objAt_put o _ _ _ ?_⟩
  rw [spl_one _ _ _ (by rw [hl]; omega)]
  rfl
theorem objAt_isTh {H : Hp} {b : Nat} {z : Th} (o : objAt H b (encTh z).toArray 180) : isTh H b 0 z := fun r v hv => by
  rw [Nat.zero_add, objAt_cel o]; simpa using hv
theorem getD_set (l : List Int) (i j : Nat) (v : Int) (hi : i < l.length) : (l.set i v).getD j 0 = if j = i then v else l.getD j 0 := by
  simp only [List.getD_eq_getElem?_getD, List.getElem?_set]
  by_cases h : j = i
  · subst h; simp [hi]
  · rw [if_neg (fun e => h e.symm), if_neg h]
theorem f172.spec (φ : Fx) (x y : Th) (H : Hp) (hx : ∀ s, 0 ≤ x.o.getD s 0 ∧ 0 ≤ y.o.getD s 0 ∧ x.o.getD s 0 + y.o.getD s 0 ≤ 255) (hw : 0 ≤ x.w ∧ 0 ≤ y.w ∧ x.w + y.w ≤ 1152921504606846976) :
    HCalls cx.P φ 172 [.agg (Value.int .i64 x.w :: (List.map (Value.int .u8) x.o ++ [])).toArray, .agg (Value.int .i64 y.w :: (List.map (Value.int .u8) y.o ++ [])).toArray] H fun r H' => r = .agg (encTh (bothT x y)).toArray ∧ Keeps H H' := by
  apply f172.of
  unfold f172.VC
  intro H1
  have o1 : objAt H1 H.size (encTh x).toArray 180 := objAt_new ..
  have k1 : Keeps H H1 := Keeps.push ..
  have s1 : H1.size = H.size + 1 := by simp [H1]
  clear_value H1
  intro H2
  have o2 : objAt H2 H1.size (encTh y).toArray 180 := objAt_new ..
  have k12 : Keeps H1 H2 := Keeps.push ..
  have s2 : H2.size = H1.size + 1 := by simp [H2]
  clear_value H2
  intro H3
  have o3 : objAt H3 H2.size zeroTh.toArray 180 := objAt_new ..
  have k23 : Keeps H2 H3 := Keeps.push ..
  have s3 : H3.size = H2.size + 1 := by simp [H3]
  clear_value H3
  have k03 := (k1.trans k12).trans k23
  have a3 := (k12.trans k23).obj o1
  have b3 := k23.obj o2
  simp -zeta only [xI (objAt_isTh a3).w, xI (objAt_isTh b3).w]
  obtain ⟨p1, p2⟩ := th_putW a3 (x.w + y.w)
  refine ⟨by omega, p1, ?_⟩
  intro H4
  have x4 : ∀ q, q ≠ H.size → H4[q]? = H3[q]? := fun q hq => hput_other (fun e => hq e.symm)
  have s4 : H4.size = H3.size := hput_size ..
  have p2 : objAt H4 H.size (encTh (x.setW (x.w + y.w))).toArray 180 := p2
  have k04 : Keeps H H4 := k03.hput (Nat.le_refl _)
  clear_value H4
  have b4 := b3.frame (x4 H1.size (by omega))
  have c4 := o3.frame (x4 H2.size (by omega))
  refine ⟨y.o, ⟨y.len, fun j hj => (objAt_isTh b4).o hj⟩, ?_⟩
  refine ⟨fun i H' => 0 ≤ i ∧ i ≤ 256 ∧ Keeps H H' ∧ H'.size = H4.size ∧ objAt H' H2.size zeroTh.toArray 180 ∧ ∃ z : Th, objAt H' H.size (encTh z).toArray 180 ∧ z.w = x.w + y.w ∧ ∀ j, j < 256 → z.o.getD j 0 = if (j : Int) < i then x.o.getD j 0 + y.o.getD j 0 else x.o.getD j 0, fun i _ => (256 - i).toNat,
    ⟨by omega, by omega, k04, rfl, c4, _, p2, rfl, fun j _ => by rw [if_neg (by omega)]; rfl⟩, ?_⟩
  rintro i _ H5 ⟨h0, h1, k05, s5, c5, z, oz, hzw, hz⟩
  refine ⟨fun hi => ?_, fun hi => ?_⟩
  · simp only [decide_eq_true_eq] at hi
    have hi2 : i.toNat < 256 := by omega
    have g := hz i.toNat hi2
    rw [if_neg (by omega)] at g
    have hb := hx i.toNat
    have gy : ((List.map (Value.int .u8) y.o ++ [] : List Value))[Int.toNat i]? = some (.int .u8 (y.o.getD i.toNat 0)) := by
      rw [List.append_nil, List.getElem?_map, List.getD_eq_getElem?_getD, List.getElem?_eq_getElem (by rw [y.len]; exact hi2)]; rfl
    have ez : cel H5 H.size (0 + 1 + Int.toNat i * 1) = some (.int .u8 (x.o.getD i.toNat 0)) := by
      have := (objAt_isTh oz).o hi2
      rw [g] at this; rw [Nat.mul_one]; exact this
    have ew : IntKind.wrap .u8 (x.o.getD i.toNat 0 + y.o.getD i.toNat 0) = x.o.getD i.toNat 0 + y.o.getD i.toNat 0 := by rw [wrap_u8]; omega
    obtain ⟨q1, q2⟩ := th_put oz hi2 (x.o.getD i.toNat 0 + y.o.getD i.toNat 0)
    refine ⟨⟨h0, by omega⟩, _, gy, ⟨h0, by omega⟩, ?_⟩
    simp -zeta only [xI ez, ew]
    refine ⟨⟨h0, by omega⟩, q1, by omega, ⟨by omega, by omega, k05.hput (Nat.le_refl _), by rw [hput_size]; exact s5, c5.frame (hput_other (by omega)), _, q2, hzw, fun j hj => ?_⟩, by omega⟩
    show (z.o.set i.toNat _).getD j 0 = _
    rw [getD_set _ _ _ _ (by rw [z.len]; exact hi2), hz j hj]
    by_cases q : j = i.toNat
    · subst q; rw [if_pos rfl, if_pos (by omega)]
    · rw [if_neg q]
      by_cases q2 : (j : Int) < i
      · rw [if_pos q2, if_pos (by omega)]
      · rw [if_neg q2, if_neg (by omega)]
  · simp only [decide_eq_false_iff_not] at hi
    have : z = bothT x y := Th.ext' hzw (list256 z.len (bothT x y).len fun j hj => by rw [hz j hj, if_pos (by omega), bothT_get])
    subst this
    refine Eq.mpr (xT (objAt_isTh oz) _) ?_
    simp -zeta only [fitsTh]
    refine ⟨objAt_canPut c5 (by simp [zeroTh, (bothT x y).len]) (fun v hv => encTh_one (bothT x y) v hv), ?_⟩
    have o7 : objAt (hput H5 H2.size 0 (encTh (bothT x y))) H2.size (encTh (bothT x y)).toArray 180 := objAt_put c5 _ _ _ (by simp [spl, zeroTh, encTh_len])
    have k7 : Keeps H (hput H5 H2.size 0 (encTh (bothT x y))) := k05.hput (by omega)
    have : isTh (hput H5 H2.size 0 (Value.int .i64 (bothT x y).w :: (List.map (Value.int .u8) (bothT x y).o ++ []))) H2.size 0 (bothT x y) := objAt_isTh o7
    exact Eq.mpr (xT this _) ⟨rfl, k7⟩
theorem rowR_part {α : Type} {E : Hp → Nat → Nat → α → Prop} {sz : Nat} {H : Hp} {A : Option Addr} {n c : Nat} {xs : List α} (h : rowR E sz H A n xs) {i : Nat} (hi : i ≤ n) (hc : n ≤ c) : rowR E sz H (slA A i c sz) (n - i) (xs.drop i) := by
  have hl := h.1
  refine ⟨by simp; omega, fun k x hx => ?_⟩
  rw [List.getElem?_drop] at hx
  have hk := (List.getElem?_eq_some_iff.1 hx).1
  obtain ⟨b, o, rfl, he⟩ := h.2 (i + k) x hx
  refine ⟨b, o + i * sz, ?_, ?_⟩
  · rw [slA, if_neg (by omega), Option.map_some, add_off]
  · have : o + (i + k) * sz = o + i * sz + k * sz := by rw [Nat.add_mul]; omega
    rw [this] at he; exact he
theorem mergeL_le {x p : Th} {fs r : List Th} (h : x.w ≤ p.w) : mergeL (x :: fs) (p :: r) = x :: mergeL fs (p :: r) := by
  rw [mergeL, mergeL, List.takeWhile_cons_of_pos (by simpa using h), List.dropWhile_cons_of_pos (by simpa using h)]; rfl
theorem mergeL_gt {p : Th} {fs r : List Th} (h : fs = [] ∨ ∃ x t, fs = x :: t ∧ ¬ x.w ≤ p.w) : mergeL fs (p :: r) = p :: mergeL fs r := by
  rcases h with h | ⟨x, t, h, hx⟩
  · subst h; rw [mergeL]; rfl
  · subst h
    rw [mergeL, List.takeWhile_cons_of_neg (by simpa using hx), List.dropWhile_cons_of_neg (by simpa using hx)]; rfl
theorem app175s {H : Hp} {base : Nat} {A : Option Addr} {n c : Nat} {xs : List Th} (own : ownTh H base A n c xs) (hbase : base ≤ H.size) {B : Option Addr} {m d : Nat} {ys : List Th} (hs : thR H B m ys) (hn : n + m ≤ 1073741824) {K : Value → Hp → Prop}
    (hK : ∀ A' c' H', ownTh H' base A' (n + m) c' (xs ++ ys) → offA A H H' → K (.slice A' (n + m) c') H') :
    appW cx 175 175 (.slice A n c) (.slice B m d) H K := by
  have hr := rowR.rd encTh encTh_len (fun _ _ _ _ h r v hv => h r v hv) hs
  refine app_own' (i := ⟨175, .slc 180, 1, 24, [.slice none 0 0], [.slc], [(false, [.slc])], false⟩) (e := 180) (ie := ⟨180, .st [(0, 1, false), (1, 256, true)], 257, 264, Value.int .i64 0 :: List.replicate 256 (.int .u8 0), [.int .i64, .ints 256 .u8], [(true, [.int .i64, .ints 256 .u8])], false⟩) rfl rfl rfl rfl own (m := m) (ys := ys.flatMap encTh)
    (show srcC _ 257 (.slice B m d) m _ from ⟨rfl, hr⟩) hr.1 (flat_one encTh encTh_one ys) (by show (n + m) * 264 ≤ _; omega) hbase ?_
  intro A' c' H' w f _ _
  exact hK A' c' H' (by unfold ownTh; rw [List.flatMap_append]; exact w) f
theorem drop2 {α : Type} {l : List α} {i : Nat} {x y : α} (hx : l[i]? = some x) (hy : l[i + 1]? = some y) : l.drop i = x :: y :: l.drop (i + 2) := by
  rw [drop_at hx, drop_at hy]
end Go.Proofs.Ytkkjjjgcfnhabaa.Eng
namespace Go.Proofs.Ytkkjjjgcfnhabaa.Eng
open Go Go.Proofs
theorem zeroTh_len : zeroTh.length = 257 := by simp [zeroTh]
theorem ownTh_new (H : Hp) (m : Nat) : ownTh (Array.push H (.cells (zrow zeroTh m).toArray 180 (0, 0))) H.size (some ⟨H.size, 0, none⟩) 0 m [] :=
  ⟨by simp, by omega, Or.inr ⟨H.size, _, Nat.le_refl _, rfl, objAt_new .., by simp [zrow_length, zeroTh_len], by simp⟩⟩
theorem isTh.held {H : Hp} {b o : Nat} {x : Th} (h : isTh H b o x) : Go.Proofs.Ytkkjjjgcfnhabaa.Eng.held H b o (Value.int .i64 x.w :: (List.map (Value.int .u8) x.o ++ [])) := h
theorem isTh.lt {H : Hp} {b o : Nat} {x : Th} (h : isTh H b o x) : b < H.size := cel_lt h.w
theorem isTh.off {A : Option Addr} {H H' : Hp} {b o : Nat} {x : Th} (h : isTh H b o x) (f : offA A H H') (hne : A ≠ some ⟨b, 0, none⟩) : isTh H' b o x := fun r v hv => by
  have hc := h r v hv
  have := f.2 b (cel_lt hc) hne
  unfold cel at hc ⊢; rw [this]; exact hc
theorem spl_th (z : Th) : spl zeroTh.toArray 0 (encTh z) = (encTh z).toArray := by simp [spl, zeroTh, encTh_len]
theorem f124.spec (φ : Fx) (A : Option Addr) (n c : Nat) (B : Option Addr) (m d : Nat) (fs rs : List Th) (H : Hp) (hf : thR H A n fs) (hnc : n ≤ c) (hr : thR H B m rs) (hn : n ≤ 1048576) (hm : m ≤ 1048576)
    (nn : nnT rs) (hc : ∀ s, colS s rs ≤ 255) (hw : wS rs ≤ 1152921504606846976) :
    HCalls cx.P φ 124 [.slice A n c, .slice B m d] H fun r H' => ∃ A' n' c', r = .slice A' n' c' ∧ ownTh H' H.size A' n' c' (mergeL fs (pairL rs)) ∧ Keeps H H' := by
  apply f124.of
  unfold f124.VC
  have lf := hf.1
  have lr := hr.1
  refine ⟨by omega, by omega, by omega, ?_⟩
  intro H1
  have own1 : ownTh H1 H.size (some ⟨H.size, 0, none⟩) 0 (Int.toNat ((n : Int) + (m : Int) / 2)) [] := ownTh_new ..
  have k1 : Keeps H H1 := Keeps.push ..
  clear_value H1
  refine ⟨fun fA fn fc oA on oc i H' => 0 ≤ i ∧ i ≤ m + 1 ∧ Keeps H H' ∧ fn ≤ fc ∧ on + fn ≤ n + i.toNat ∧ fn ≤ n ∧ ∃ f out, thR H fA fn f ∧ ownTh H' H.size oA on oc out ∧ out ++ mergeL f (pairL (rs.drop i.toNat)) = mergeL fs (pairL rs), fun _ _ _ _ _ _ i _ => (m + 1 - i).toNat,
    ⟨by omega, by omega, k1, hnc, by simp, Nat.le_refl _, fs, [], hf, own1, by simp⟩, ?_⟩
  rintro fA fn fc oA on oc i _ H2 ⟨h0, h1, k2, hfc, hon, hfn, f, out, tf, own2, hg⟩
  have s2 := k2.size
  refine ⟨by omega, fun hi => ?_, fun hi => ?_⟩
  · simp only [decide_eq_true_eq] at hi
    obtain ⟨x, b, o, hx, rfl, cx1⟩ := hr.at h0 (by omega)
    obtain ⟨y, b', o', hy, e, cy1⟩ := hr.at (i := i + 1) (by omega) hi
    cases e
    have hy' : rs[i.toNat + 1]? = some y := by rw [← hy]; congr 1; omega
    have hd := drop2 hx hy'
    have hi2 : (i + 2).toNat = i.toNat + 2 := by omega
    have x2 := isTh.mono _ _ _ _ _ k2 cx1
    have y2 := isTh.mono _ _ _ _ _ k2 cy1
    have mx := List.mem_of_getElem? hx
    have my := List.mem_of_getElem? hy'
    have bx := nn x mx
    have by' := nn y my
    have hsplit : rs = rs.take i.toNat ++ (x :: y :: rs.drop (i.toNat + 2)) := by rw [← hd]; exact (List.take_append_drop _ _).symm
    have nt : nnT (rs.take i.toNat) := fun z hz => nn z (List.mem_of_mem_take hz)
    have nd : nnT (rs.drop (i.toNat + 2)) := fun z hz => nn z (List.mem_of_mem_drop hz)
    have hxy : ∀ s, 0 ≤ x.o.getD s 0 ∧ 0 ≤ y.o.getD s 0 ∧ x.o.getD s 0 + y.o.getD s 0 ≤ 255 := fun s => by
      have a := hc s
      rw [hsplit, colS_app, colS, colS] at a
      have := colS_nonneg s _ nt
      have := colS_nonneg s _ nd
      exact ⟨bx.2 s, by'.2 s, by omega⟩
    have hxw : 0 ≤ x.w ∧ 0 ≤ y.w ∧ x.w + y.w ≤ 1152921504606846976 := by
      have a := hw
      rw [hsplit, wS_app, wS, wS] at a
      have := wS_nonneg _ nt
      have := wS_nonneg _ nd
      exact ⟨bx.1, by'.1, by omega⟩
    refine ⟨fun pb po H' => isTh H' pb po (bothT x y) ∧ H2.size ≤ pb ∧ Keeps H2 H', ?_, ?_⟩
    · refine ⟨b, o, rfl, ⟨h0, by omega⟩, ?_⟩
      refine Eq.mpr (xT x2 _) ?_
      refine ⟨by omega, b, o, rfl, ⟨by omega, hi⟩, ?_⟩
      refine Eq.mpr (xT y2 _) ?_
      refine ⟨HCalls.mono (f172.spec φ x y H2 hxy hxw) ?_, ?_⟩
      · rintro v H3 ⟨rfl, k23⟩
        refine ⟨(bothT x y).w, (bothT x y).o, (bothT x y).len, rfl, ?_⟩
        intro H4
        have o4 : objAt H4 H3.size zeroTh.toArray 180 := objAt_new ..
        have k34 : Keeps H3 H4 := Keeps.push ..
        clear_value H4
        refine Eq.mpr (fitsTh _ _) ?_
        refine ⟨objAt_canPut o4 (by simp [zeroTh, (bothT x y).len]) (fun v hv => encTh_one (bothT x y) v hv), ?_⟩
        intro H5
        have o5 : objAt H5 H3.size (encTh (bothT x y)).toArray 180 := objAt_put o4 _ _ _ (spl_th _)
        have := k23.size
        exact ⟨objAt_isTh o5, this, (k23.trans k34).hput this⟩
      · intro H6
        have o6 : objAt H6 H2.size zeroTh.toArray 180 := objAt_new ..
        have k26 : Keeps H2 H6 := Keeps.push ..
        clear_value H6
        refine ⟨(isTh.mono _ _ _ _ _ k26 y2).held, (isTh.mono _ _ _ _ _ k26 x2).held, HCalls.mono (f172.spec φ x y H6 hxy hxw) ?_⟩
        rintro v H7 ⟨rfl, k67⟩
        refine ⟨(bothT x y).w, (bothT x y).o, (bothT x y).len, rfl, ?_⟩
        refine Eq.mpr (fitsTh _ _) ?_
        have o7 := k67.obj o6
        refine ⟨objAt_canPut o7 (by simp [zeroTh, (bothT x y).len]) (fun v hv => encTh_one (bothT x y) v hv), ?_⟩
        intro H8
        have o8 : objAt H8 H2.size (encTh (bothT x y)).toArray 180 := objAt_put o7 _ _ _ (spl_th _)
        exact ⟨objAt_isTh o8, Nat.le_refl _, (k26.trans k67).hput (Nat.le_refl _)⟩
    · rintro pb po _ H9 ⟨p9, hpb, k29⟩
      have own9 := own2.keeps k29
      have k9 := k2.trans k29
      rw [hd, pairL] at hg
      refine ⟨fun fA fn fc oA on oc H' => Keeps H H' ∧ fn ≤ fc ∧ on + fn ≤ n + i.toNat ∧ fn ≤ n ∧ isTh H' pb po (bothT x y) ∧ oA ≠ some ⟨pb, 0, none⟩ ∧ ∃ f out, thR H fA fn f ∧ ownTh H' H.size oA on oc out ∧ out ++ mergeL f (bothT x y :: pairL (rs.drop (i.toNat + 2))) = mergeL fs (pairL rs), fun _ fn _ _ _ _ _ => fn,
        ⟨k9, hfc, hon, hfn, p9, fun e => by have := (ownC.lt own2 e).2; omega, f, out, tf, own9, hg⟩, ?_⟩
      rintro fA fn fc oA on oc _ H10 ⟨k10, hfc, hon, hfn, p10, hne, f, out, tf, own10, hg⟩
      have s10 := k10.size
      have lf := tf.1
      refine ⟨fun q H' => H' = H10 ∧ (q = true → ∃ z t, f = z :: t ∧ z.w ≤ (bothT x y).w) ∧ (q = false → f = [] ∨ ∃ z t, f = z :: t ∧ ¬ z.w ≤ (bothT x y).w), ⟨fun hq => ?_, fun hq => ?_⟩, ?_⟩
      · simp only [decide_eq_true_eq] at hq
        obtain ⟨z, bz, oz, hz, rfl, cz⟩ := tf.at (i := 0) (by omega) hq
        have z10 := isTh.mono _ _ _ _ _ k10 cz
        have hcons : ∃ t, f = z :: t := by
          cases f with
          | nil => simp at hz
          | cons a t => simp at hz; subst hz; exact ⟨t, rfl⟩
        obtain ⟨t, rfl⟩ := hcons
        refine ⟨bz, oz, rfl, ⟨by omega, hq⟩, ?_⟩
        simp -zeta only [xI z10.w, xI p10.w]
        refine ⟨trivial, fun h => ⟨z, t, rfl, by simpa using h⟩, fun h => Or.inr ⟨z, t, rfl, by simpa using h⟩⟩
      · simp only [decide_eq_false_iff_not] at hq
        refine ⟨rfl, fun h => (by cases h), fun _ => Or.inl ?_⟩
        exact List.eq_nil_of_length_eq_zero (by omega)
      · rintro q _ H11 ⟨rfl, hqt, hqf⟩
        refine ⟨fun hq => ?_, fun hq => ?_⟩
        · obtain ⟨z, t, rfl, hle⟩ := hqt hq
          simp at lf
          obtain ⟨z', bz, oz, hz, rfl, cz⟩ := tf.at (i := 0) (by omega) (by omega)
          simp at hz; subst hz
          have z11 := isTh.mono _ _ _ _ _ k10 cz
          refine ⟨bz, oz, rfl, ⟨by omega, by omega⟩, ?_⟩
          refine Eq.mpr (xT z11 _) ?_
          refine Eq.mpr (fitsTh _ _) ?_
          intro H12
          refine app175 own10 s10 (by omega) z 1 ?_
          intro A' c' H13 w fo e
          refine ⟨_, _, _, rfl, ⟨by omega, by omega⟩, ⟨fo.keeps k10 fun b hb => (ownC.lt own10 hb).1, by show fn - 1 ≤ fc - 1; omega, by show on + 1 + (fn - 1) ≤ _; omega, by show fn - 1 ≤ n; omega, p10.off fo hne, ?_, t, out ++ [z], ?_, w, ?_⟩, ?_⟩
          · rcases e with e | ⟨q, h, e⟩
            · rw [e]; exact hne
            · intro e2; rw [e] at e2; cases e2; have := p10.lt; omega
          · exact rowR_part tf (i := 1) (by omega) hfc
          · rw [← hg, mergeL_le hle, List.append_assoc]; rfl
          · show fn - 1 < fn; omega
        · refine Eq.mpr (xT p10 _) ?_
          refine Eq.mpr (fitsTh _ _) ?_
          intro H14
          refine app175 own10 s10 (by omega) (bothT x y) 1 ?_
          intro A' c' H15 w fo e
          refine ⟨_, _, _, rfl, by omega, ⟨by omega, by omega, fo.keeps k10 fun b hb => (ownC.lt own10 hb).1, hfc, by omega, hfn, f, out ++ [bothT x y], tf, w, ?_⟩, by dsimp only; omega⟩
          rw [hi2, ← hg, mergeL_gt (hqf hq), List.append_assoc]; rfl
  · simp only [decide_eq_false_iff_not] at hi
    have hp : pairL (rs.drop i.toNat) = [] := by
      have : (rs.drop i.toNat).length ≤ 1 := by simp; omega
      match h : rs.drop i.toNat, this with
      | [], _ => rfl
      | [_], _ => rfl
      | _ :: _ :: _, q => simp at q
    rw [hp, mergeL] at hg
    refine app175s own2 s2 (tf.keeps isTh.mono k2) (by omega) ?_
    intro A' c' H3 w fo
    exact ⟨_, _, _, rfl, _, _, _, rfl, hg ▸ w, fo.keeps k2 fun b hb => (ownC.lt own2 hb).1⟩
end Go.Proofs.Ytkkjjjgcfnhabaa.Eng
namespace Go.Proofs.Ytkkjjjgcfnhabaa.Eng
open Go Go.Proofs
def encI (x : Int) : List Value := [.int .i64 x]
theorem flat_encI (xs : List Int) : xs.flatMap encI = xs.map (Value.int .i64) := by
  induction xs with
  | nil => rfl
  | cons x r ih => simp only [List.flatMap_cons, List.map_cons, ih, encI]; rfl
def r64 (x : Int) : Prop := -9223372036854775808 ≤ x ∧ x ≤ 9223372036854775807
structure ownI (H : Hp) (base : Nat) (t : TypeId) (A : Option Addr) (n c : Nat) (xs : List Int) : Prop where
  own : ownC H base t 1 A n c (xs.flatMap encI)
  rng : ∀ x ∈ xs, r64 x
theorem ownI.len {H : Hp} {base : Nat} {t : TypeId} {A : Option Addr} {n c : Nat} {xs : List Int} (h : ownI H base t A n c xs) : xs.length = n := by
  have := h.own.1
  rw [flat_encI] at this; simpa using this
theorem ownI.row {H : Hp} {base : Nat} {t : TypeId} {A : Option Addr} {n c : Nat} {xs : List Int} (h : ownI H base t A n c xs) : intsR H A n xs :=
  ownC.row encI (fun _ => rfl) h.own (by decide) fun b o x hx hc => ⟨hc 0 _ rfl, h.rng x hx⟩
theorem ownI.keeps {H H' : Hp} {base : Nat} {t : TypeId} {A : Option Addr} {n c : Nat} {xs : List Int} (h : ownI H base t A n c xs) (k : Keeps H H') : ownI H' base t A n c xs := ⟨h.own.keeps k, h.rng⟩
theorem ownI_nil (H : Hp) (base : Nat) (t : TypeId) : ownI H base t none 0 0 [] := ⟨ownC_nil .., by simp⟩
theorem ownI_new (H : Hp) (t : TypeId) (n : Nat) : ownI (Array.push H (.cells (zrow [.int .i64 0] n).toArray t (0, 0))) H.size t (some ⟨H.size, 0, none⟩) n n (List.replicate n 0) := by
  have e : (List.replicate n (0 : Int)).flatMap encI = zrow [.int .i64 0] n := by
    rw [flat_encI, zrow_one, List.map_replicate]; apply List.ext_getElem?; intro i; by_cases h : i < n <;> simp [h]
  refine ⟨⟨by rw [e]; simp [zrow_length], Nat.le_refl _, Or.inr ⟨H.size, _, Nat.le_refl _, rfl, objAt_new .., by simp [zrow_length], ?_⟩⟩, fun x hx => by have := List.eq_of_mem_replicate hx; subst this; constructor <;> omega⟩
  rw [e]; exact List.take_of_length_le (by simp [zrow_length])
theorem ownI.set {H : Hp} {base b n c : Nat} {t : TypeId} {xs : List Int} (h : ownI H base t (some ⟨b, 0, none⟩) n c xs) {i : Nat} (hi : i < n) {y : Int} (hy : r64 y) :
    canPut H b (0 + i * 1) [.int .i64 y] ∧ ownI (hput H b (0 + i * 1) [.int .i64 y]) base t (some ⟨b, 0, none⟩) n c (xs.set i y) := by
  have hl := h.len
  obtain ⟨a, o⟩ := own_set encI (fun _ => rfl) (fun x v hv => by simp [encI] at hv; subst hv; rfl) h.own (i := i) (by omega) hl y
  refine ⟨a, o, fun x hx => ?_⟩
  rcases List.mem_or_eq_of_mem_set hx with q | q
  · exact h.rng x q
  · subst q; exact hy
theorem ownI.at {H : Hp} {base b n c : Nat} {t : TypeId} {xs : List Int} (h : ownI H base t (some ⟨b, 0, none⟩) n c xs) {i : Nat} (hi : i < n) : ∃ x, xs[i]? = some x ∧ cel H b (0 + i * 1) = some (.int .i64 x) ∧ r64 x := by
  obtain ⟨x, b', o', h1, h2, h3⟩ := h.row.at (i := (i : Int)) (by omega) (by omega)
  cases h2
  exact ⟨x, h1, h3⟩
theorem okCounts_cons (x : Int) (r : List Int) : okCounts (x :: r) = ((decide (0 ≤ x) && decide (x ≤ 1099511627776)) && okCounts r) := by simp only [okCounts, List.all_cons]
theorem f122.spec (φ : Fx) (A : Option Addr) (n c : Nat) (cs : List Int) (H : Hp) (hr : intsR H A n cs) (hn : n ≤ 140737488355328) :
    HCalls cx.P φ 122 [.slice A n c] H fun r H' => r = .int .i64 (if okCounts cs = true then 0 else 3) ∧ H' = H := by
  apply f122.of
  unfold f122.VC
  have hl := hr.1
  refine ⟨fun i H' => 0 ≤ i ∧ i ≤ n ∧ H' = H ∧ okCounts cs = okCounts (cs.drop i.toNat), fun i _ => (n - i).toNat, ⟨by omega, by omega, rfl, by simp⟩, ?_⟩
  rintro i _ H1 ⟨h0, h1, rfl, hd⟩
  refine ⟨fun hi => ?_, fun hi => ?_⟩
  · simp only [decide_eq_true_eq] at hi
    obtain ⟨x, b, o, hx, rfl, cx1, _⟩ := hr.at h0 hi
    refine ⟨b, o, rfl, ⟨h0, hi⟩, ?_⟩
    simp -zeta only [xI cx1]
    rw [drop_at hx, okCounts_cons] at hd
    refine ⟨fun q H' => H' = H1 ∧ (q = true ↔ ¬ (0 ≤ x ∧ x ≤ 1099511627776)), ⟨fun h => ⟨rfl, ?_⟩, fun h => ⟨rfl, ?_⟩⟩, ?_⟩
    · simp only [decide_eq_true_eq] at h; simp; omega
    · simp only [decide_eq_false_iff_not] at h; simp; omega
    · rintro q _ H2 ⟨rfl, hq⟩
      refine ⟨fun h => ?_, fun h => ⟨by omega, ⟨by omega, by omega, rfl, ?_⟩, by omega⟩⟩
      · have := hq.1 h
        have e : okCounts cs = false := by
          rw [hd]; simp only [Bool.and_eq_false_iff, decide_eq_false_iff_not]; omega
        rw [e]; exact ⟨rfl, rfl⟩
      · have : 0 ≤ x ∧ x ≤ 1099511627776 := by
          apply Classical.byContradiction; intro g; have := hq.2 g; rw [h] at this; cases this
        rw [hd, show (i + 1).toNat = i.toNat + 1 by omega]
        simp [this.1, this.2]
  · simp only [decide_eq_false_iff_not] at hi
    rw [List.drop_eq_nil_of_le (by omega)] at hd
    rw [hd]; exact ⟨rfl, rfl⟩
theorem f125.spec (φ : Fx) (A : Option Addr) (n c : Nat) (cs : List Int) (H : Hp) (hr : intsR H A n cs) (hn : n ≤ 140737488355328) :
    HCalls cx.P φ 125 [.slice A n c] H fun r H' => r = .bool (okCounts cs) ∧ H' = H := by
  apply f125.of
  unfold f125.VC
  have hl := hr.1
  refine ⟨fun i H' => 0 ≤ i ∧ i ≤ n ∧ H' = H ∧ okCounts cs = okCounts (cs.drop i.toNat), fun i _ => (n - i).toNat, ⟨by omega, by omega, rfl, by simp⟩, ?_⟩
  rintro i _ H1 ⟨h0, h1, rfl, hd⟩
  refine ⟨fun hi => ?_, fun hi => ?_⟩
  · simp only [decide_eq_true_eq] at hi
    obtain ⟨x, b, o, hx, rfl, cx1, _⟩ := hr.at h0 hi
    rw [drop_at hx, okCounts_cons] at hd
    refine ⟨fun q H' => H' = H1 ∧ (q = true ↔ ¬ (0 ≤ x ∧ x ≤ 1099511627776)), ⟨b, o, rfl, ⟨h0, hi⟩, ?_⟩, ?_⟩
    · simp -zeta only [xI cx1]
      refine ⟨fun h => ⟨trivial, ?_⟩, fun h => ⟨b, o, rfl, ⟨h0, hi⟩, x, cx1, trivial, ?_⟩⟩
      · simp only [decide_eq_true_eq] at h; simp; omega
      · simp only [decide_eq_false_iff_not] at h; simp; omega
    · rintro q _ H2 ⟨rfl, hq⟩
      refine ⟨fun h => ?_, fun h => ⟨by omega, ⟨by omega, by omega, rfl, ?_⟩, by dsimp only; omega⟩⟩
      · have := hq.1 h
        have e : okCounts cs = false := by
          rw [hd]; simp only [Bool.and_eq_false_iff, decide_eq_false_iff_not]; omega
        rw [e]; exact ⟨rfl, rfl⟩
      · have : 0 ≤ x ∧ x ≤ 1099511627776 := by
          apply Classical.byContradiction; intro g; have := hq.2 g; rw [h] at this; cases this
        rw [hd, show (i + 1).toNat = i.toNat + 1 by omega]
        simp [this.1, this.2]
  · simp only [decide_eq_false_iff_not] at hi
    rw [List.drop_eq_nil_of_le (by omega)] at hd
    rw [hd]; exact ⟨rfl, rfl⟩
def midL (n : Nat) (row : List Th) (i k : Nat) : List Int := (List.range n).map fun j => colS j (row.take (if j < k then i + 1 else i))
theorem midL_len (n : Nat) (row : List Th) (i k : Nat) : (midL n row i k).length = n := by simp [midL]
theorem midL_get {n : Nat} {row : List Th} {i k j : Nat} (hj : j < n) : (midL n row i k)[j]? = some (colS j (row.take (if j < k then i + 1 else i))) := by
  rw [midL, List.getElem?_map, List.getElem?_range hj]; rfl
theorem midL_0 (n : Nat) (row : List Th) (i : Nat) : midL n row i 0 = lensOf n (row.take i) := by
  unfold midL lensOf
  apply List.map_congr_left; intro j hj; rw [if_neg (by omega)]
theorem midL_n (n : Nat) (row : List Th) (i : Nat) : midL n row i n = lensOf n (row.take (i + 1)) := by
  unfold midL lensOf
  apply List.map_congr_left; intro j hj; rw [if_pos (by simpa using hj)]
theorem colS_take {row : List Th} {i : Nat} {x : Th} (hx : row[i]? = some x) (s : Nat) : colS s (row.take (i + 1)) = colS s (row.take i) + x.o.getD s 0 := by
  rw [List.take_add_one, hx, colS_app]; simp [colS]
theorem midL_set {n : Nat} {row : List Th} {i k : Nat} {x : Th} (hx : row[i]? = some x) (hk : k < n) : (midL n row i k).set k (colS k (row.take i) + x.o.getD k 0) = midL n row i (k + 1) := by
  apply List.ext_getElem?
  intro j
  rw [List.getElem?_set]
  by_cases hj : j < n
  · rw [midL_get hj]
    by_cases q : k = j
    · subst q
      rw [if_pos rfl, if_pos (by rw [midL_len]; exact hj), midL_get hj, if_pos (by omega), colS_take hx]
    · rw [if_neg q, midL_get hj]
      by_cases g : j < k
      · rw [if_pos g, if_pos (by omega)]
      · rw [if_neg g, if_neg (by omega)]
  · rw [if_neg (by omega), List.getElem?_eq_none (by rw [midL_len]; omega), List.getElem?_eq_none (by rw [midL_len]; omega)]
theorem colS_take_le {row : List Th} (nn : nnT row) (i s : Nat) : 0 ≤ colS s (row.take i) ∧ colS s (row.take i) ≤ colS s row := by
  have a := colS_nonneg s (row.take i) fun z hz => nn z (List.mem_of_mem_take hz)
  have b := colS_nonneg s (row.drop i) fun z hz => nn z (List.mem_of_mem_drop hz)
  have e : colS s row = colS s (row.take i) + colS s (row.drop i) := by rw [← colS_app, List.take_append_drop]
  omega
theorem lensOf_0 (n : Nat) (row : List Th) : lensOf n (row.take 0) = List.replicate n 0 := by
  apply List.ext_getElem?
  intro j
  unfold lensOf
  by_cases h : j < n
  · rw [List.getElem?_map, List.getElem?_range h, List.getElem?_replicate, if_pos h]; rfl
  · rw [List.getElem?_eq_none (by simp; omega), List.getElem?_eq_none (by simp; omega)]
theorem colS_rawU {cs : List Int} (h256 : cs.length ≤ 256) (s : Nat) : ∀ (d : Nat), d ≤ cs.length → colS s (rawU cs d) = if cs.length - d ≤ s ∧ s < cs.length ∧ 0 < cs.getD s 0 then 1 else 0
  | 0, _ => by rw [if_neg (by omega)]; rfl
  | d + 1, hd => by
    rw [rawU, colS_app, colS_rawU h256 s d (by omega)]
    by_cases q : 0 < cs.getD (cs.length - (d + 1)) 0
    · rw [if_pos q]
      show _ + ((eV _).getD s 0 + 0) = _
      rw [eV_get]
      by_cases g : s = cs.length - (d + 1)
      · rw [if_neg (by omega), if_pos ⟨g, by omega⟩, if_pos ⟨by omega, by omega, by rw [g]; exact q⟩]; rfl
      · have e2 : (if s = cs.length - (d + 1) ∧ s < 256 then (1 : Int) else 0) = 0 := if_neg (fun h => g h.1)
        rw [e2]
        by_cases u : cs.length - d ≤ s ∧ s < cs.length ∧ 0 < cs.getD s 0
        · rw [if_pos u, if_pos ⟨by omega, u.2⟩]; rfl
        · rw [if_neg u, if_neg (fun h => u ⟨by omega, h.2⟩)]; rfl
    · rw [if_neg q]
      show _ + 0 = _
      by_cases g : s = cs.length - (d + 1)
      · rw [if_neg (by omega), if_neg (fun h => q (g ▸ h.2.2))]; rfl
      · by_cases u : cs.length - d ≤ s ∧ s < cs.length ∧ 0 < cs.getD s 0
        · rw [if_pos u, if_pos ⟨by omega, u.2⟩]; rfl
        · rw [if_neg u, if_neg (fun h => u ⟨by omega, h.2⟩)]; rfl
theorem colS_things {cs : List Int} (h256 : cs.length ≤ 256) {s : Nat} (hs : s < cs.length) : colS s (thingsL cs) = if 0 < cs.getD s 0 then 1 else 0 := by
  rw [thingsL, colS_perm s (refU_spec h256 cs.length (Nat.le_refl _)).1, colS_rawU h256 s cs.length (Nat.le_refl _)]
  by_cases q : 0 < cs.getD s 0
  · rw [if_pos q, if_pos ⟨by omega, hs, q⟩]
  · rw [if_neg q, if_neg (fun h => q h.2.2)]
def oneL (cs : List Int) (i : Nat) : List Int := (List.range cs.length).map fun j => if j < i ∧ 0 < cs.getD j 0 then 1 else 0
theorem oneL_0 (cs : List Int) : oneL cs 0 = List.replicate cs.length 0 := by
  apply List.ext_getElem?
  intro j
  unfold oneL
  by_cases h : j < cs.length
  · rw [List.getElem?_map, List.getElem?_range h, List.getElem?_replicate, if_pos h]; simp
  · rw [List.getElem?_eq_none (by simp; omega), List.getElem?_eq_none (by simp; omega)]
theorem oneL_n {cs : List Int} (h256 : cs.length ≤ 256) : oneL cs cs.length = lensOf cs.length (thingsL cs) := by
  unfold oneL lensOf
  apply List.map_congr_left
  intro j hj
  simp only [List.mem_range] at hj
  rw [colS_things h256 hj]
  by_cases q : 0 < cs.getD j 0
  · rw [if_pos ⟨hj, q⟩, if_pos q]
  · rw [if_neg (fun h => q h.2), if_neg q]
theorem oneL_step {cs : List Int} {i : Nat} (hi : i < cs.length) {x : Int} (hx : cs[i]? = some x) : (0 < x → (oneL cs i).set i 1 = oneL cs (i + 1)) ∧ (¬ 0 < x → oneL cs i = oneL cs (i + 1)) := by
  have hg : cs.getD i 0 = x := by rw [List.getD_eq_getElem?_getD, hx]; rfl
  have get : ∀ j k, j < cs.length → (oneL cs k)[j]? = some (if j < k ∧ 0 < cs.getD j 0 then 1 else 0) := fun j k hj => by
    rw [oneL, List.getElem?_map, List.getElem?_range hj]; rfl
  have len : ∀ k, (oneL cs k).length = cs.length := fun k => by simp [oneL]
  constructor
  · intro hp
    apply List.ext_getElem?
    intro j
    rw [List.getElem?_set]
    by_cases hj : j < cs.length
    · by_cases q : i = j
      · subst q
        rw [if_pos rfl, if_pos (by rw [len]; exact hi), get _ _ hj, if_pos ⟨by omega, by omega⟩]
      · rw [if_neg q, get _ _ hj, get _ _ hj]
        by_cases g : j < i
        · simp [g, show j < i + 1 by omega]
        · rw [if_neg (fun h => g h.1), if_neg (fun h => by omega)]
    · rw [if_neg (by omega), List.getElem?_eq_none (by rw [len]; omega), List.getElem?_eq_none (by rw [len]; omega)]
  · intro hp
    apply List.ext_getElem?
    intro j
    by_cases hj : j < cs.length
    · rw [get _ _ hj, get _ _ hj]
      by_cases g : j < i
      · simp [g, show j < i + 1 by omega]
      · by_cases q : j = i
        · subst q
          rw [if_neg (fun h => g h.1), if_neg (fun h => hp (hg ▸ h.2))]
        · rw [if_neg (fun h => g h.1), if_neg (fun h => by omega)]
    · rw [List.getElem?_eq_none (by rw [len]; omega), List.getElem?_eq_none (by rw [len]; omega)]
theorem rowL_one {x : Th} : ∀ j, rowL [x] j = [x]
  | 0 => rfl
  | j + 1 => by rw [rowL, rowL_one j]; rfl
end Go.Proofs.Ytkkjjjgcfnhabaa.Eng
namespace Go.Proofs.Ytkkjjjgcfnhabaa.Eng
open Go Go.Proofs
theorem r64_of {x : Int} (h : 0 ≤ x ∧ x ≤ 1000) : r64 x := ⟨by omega, by omega⟩
theorem ownTh_off {H H' : Hp} {base b : Nat} {A : Option Addr} {n c : Nat} {xs : List Th} {n2 c2 : Nat} {ys : List Int} (h : ownTh H base A n c xs) (o : ownI H base 3 (some ⟨b, 0, none⟩) n2 c2 ys) (f : offA (some ⟨b, 0, none⟩) H H') : ownTh H' base A n c xs :=
  ownC.off h o.own (by decide) f
theorem ownI.base_le {H : Hp} {base base' : Nat} {t : TypeId} {A : Option Addr} {n c : Nat} {xs : List Int} (h : ownI H base t A n c xs) (hb : base' ≤ base) : ownI H base' t A n c xs := ⟨h.own.base_le hb, h.rng⟩
theorem lenRes_ok {cs : List Int} {limit : Int} (h1 : ¬ 256 < cs.length) (h2 : okCounts cs = true) (h3 : ¬ limit < 1) (h4 : ¬ 15 < limit) :
    lenRes cs limit = if 2 ^ limit.toNat < (thingsL cs).length then ([], 41) else
      (lensOf cs.length ((rowL (thingsL cs) (limit.toNat - 1)).take (if (thingsL cs).length = 0 then 0 else max (2 * (thingsL cs).length - 2) 1)), 0) := by
  unfold lenRes; rw [if_neg h1, if_neg (by rw [h2]; simp; omega)]
theorem lenRes_bad {cs : List Int} {limit : Int} (h1 : ¬ 256 < cs.length) (h2 : okCounts cs = false ∨ limit < 1 ∨ 15 < limit) : lenRes cs limit = ([], 3) := by
  unfold lenRes; rw [if_neg h1, if_pos h2]
theorem pow_lim {limit : Int} (h3 : ¬ limit < 1) (h4 : ¬ 15 < limit) : (1 : Int) * 2 ^ (min limit.toNat 64) = ((2 ^ limit.toNat : Nat) : Int) ∧ 2 ^ limit.toNat ≤ 32768 := by
  have : min limit.toNat 64 = limit.toNat := by omega
  rw [this, Int.one_mul]
  refine ⟨by push_cast; rfl, ?_⟩
  have : 2 ^ limit.toNat ≤ 2 ^ 15 := Nat.pow_le_pow_right (by decide) (by omega)
  exact this
theorem f56.spec (φ : Fx) (A : Option Addr) (n c : Nat) (cs : List Int) (limit : Int) (H : Hp) (hr : intsR H A n cs) (hn : n ≤ 140737488355328) :
    HCalls cx.P φ 56 [.slice A n c, .int .i64 limit] H fun r H' => ∃ A' n' c', r = .tuple #[.slice A' n' c', .int .i64 (lenRes cs limit).2] ∧ ownI H' H.size 3 A' n' c' (lenRes cs limit).1 ∧ Keeps H H' := by
  apply f56.of
  unfold f56.VC
  have hl := hr.1
  refine ⟨fun h => ?_, fun h => ?_⟩
  · simp only [decide_eq_true_eq] at h
    have e : lenRes cs limit = ([], 2) := by unfold lenRes; rw [if_pos (by omega)]
    rw [e]
    exact ⟨_, _, _, rfl, ownI_nil .., Keeps.refl _⟩
  simp only [decide_eq_false_iff_not] at h
  have h256 : cs.length ≤ 256 := by omega
  refine HCalls.mono (f122.spec φ A n c cs H hr hn) ?_
  rintro v H0 ⟨rfl, rfl⟩
  refine ⟨_, rfl, ?_⟩
  refine ⟨fun q H' => H' = H0 ∧ (q = true ↔ (okCounts cs = false ∨ limit < 1 ∨ 15 < limit)), ⟨fun h => ⟨rfl, ?_⟩, fun h => ⟨fun h2 => ⟨rfl, ?_⟩, fun h2 => ⟨rfl, ?_⟩⟩⟩, ?_⟩
  · cases hok : okCounts cs <;> simp [hok] at h ⊢
  · simp only [decide_eq_true_eq] at h2; simp [h2]
  · simp only [decide_eq_false_iff_not] at h2
    cases hok : okCounts cs <;> simp [hok] at h ⊢
    omega
  rintro q _ H1 ⟨rfl, hq⟩
  refine ⟨fun h => ?_, fun h => ?_⟩
  · rw [lenRes_bad (by omega) (hq.1 h)]
    exact ⟨_, _, _, rfl, ownI_nil .., Keeps.refl _⟩
  have hq' : ¬ (okCounts cs = false ∨ limit < 1 ∨ 15 < limit) := fun g => by have := hq.2 g; rw [h] at this; cases this
  have hok : okCounts cs = true := by
    cases hc : okCounts cs
    · exact absurd (Or.inl hc) hq'
    · rfl
  have hl1 : ¬ limit < 1 := fun g => hq' (Or.inr (Or.inl g))
  have hl2 : ¬ 15 < limit := fun g => hq' (Or.inr (Or.inr g))
  clear hq hq'
  rw [lenRes_ok (by omega) hok hl1 hl2]
  obtain ⟨pe, pb⟩ := pow_lim hl1 hl2
  obtain ⟨nn, hc1, hw, hlen⟩ := things_bd hok h256
  refine HCalls.mono (f123.spec φ A n c cs H1 hr (by omega)) ?_
  rintro v H3 ⟨B, m, d, rfl, own3, k13⟩
  have lm := own3.len
  rw [pe]
  obtain ⟨P, hP⟩ : ∃ P, P = 2 ^ limit.toNat := ⟨_, rfl⟩
  rw [← hP] at pb ⊢
  refine ⟨_, _, _, rfl, by omega, by omega, fun h => ?_, fun h => ?_⟩
  · simp only [decide_eq_true_eq] at h
    rw [if_pos (by omega)]
    exact ⟨_, _, _, rfl, ownI_nil .., k13⟩
  simp only [decide_eq_false_iff_not] at h
  rw [if_neg (by omega)]
  refine ⟨by omega, ?_⟩
  have hN : Int.toNat (n : Int) = n := by omega
  simp -zeta only [hN]
  intro H4
  have ownl : ownI H4 H3.size 3 (some ⟨H3.size, 0, none⟩) n n (List.replicate n 0) := ownI_new ..
  have k34 : Keeps H3 H4 := Keeps.push ..
  clear_value H4
  have s13 := k13.size
  have ownl := ownl.base_le s13
  have k14 := k13.trans k34
  have own4 := own3.keeps k34
  refine ⟨fun h1 => ?_, fun h1 => ?_⟩
  · simp only [decide_eq_true_eq] at h1
    have e : lensOf cs.length ((rowL (thingsL cs) (limit.toNat - 1)).take (if (thingsL cs).length = 0 then 0 else max (2 * (thingsL cs).length - 2) 1)) = oneL cs cs.length := by
      rw [oneL_n h256, lm, if_neg (by omega), show max (2 * m - 2) 1 = 1 by omega]
      obtain ⟨x, hx⟩ := List.length_eq_one_iff.1 (show (thingsL cs).length = 1 by omega)
      rw [hx, rowL_one]; rfl
    rw [e]
    refine ⟨fun i H' => 0 ≤ i ∧ i ≤ n ∧ Keeps H1 H' ∧ ownI H' H1.size 3 (some ⟨H3.size, 0, none⟩) n n (oneL cs i.toNat), fun i _ => (n - i).toNat, ⟨by omega, by omega, k14, by rw [show (0 : Int).toNat = 0 from rfl, oneL_0, hl]; exact ownl⟩, ?_⟩
    rintro i _ H5 ⟨i0, i1, k5, ow⟩
    refine ⟨fun hi => ?_, fun hi => ?_⟩
    · simp only [decide_eq_true_eq] at hi
      obtain ⟨x, b, o, hx, rfl, cx1, _⟩ := hr.at i0 hi
      obtain ⟨st1, st2⟩ := oneL_step (i := i.toNat) (by omega) hx
      have e1 : (i + 1).toNat = i.toNat + 1 := by omega
      refine ⟨b, o, rfl, ⟨i0, hi⟩, ?_⟩
      simp -zeta only [xI (k5.cel cx1)]
      refine ⟨fun H' => Keeps H1 H' ∧ ownI H' H1.size 3 (some ⟨H3.size, 0, none⟩) n n (oneL cs (i + 1).toNat), ⟨fun hp => ?_, fun hp => ?_⟩, fun _ H7 h7 => ⟨by omega, ⟨by omega, by omega, h7.1, h7.2⟩, by omega⟩⟩
      · simp only [decide_eq_true_eq] at hp
        obtain ⟨p1, p2⟩ := ow.set (i := i.toNat) (by omega) (y := 1) (r64_of (by omega))
        refine ⟨_, _, rfl, ⟨i0, hi⟩, p1, k5.hput s13, ?_⟩
        rw [e1, ← st1 hp]; exact p2
      · simp only [decide_eq_false_iff_not] at hp
        refine ⟨k5, ?_⟩
        rw [e1, ← st2 hp]; exact ow
    · simp only [decide_eq_false_iff_not] at hi
      refine ⟨_, _, _, rfl, ?_, k5⟩
      rw [show i.toNat = cs.length by omega] at ow
      exact ow
  simp only [decide_eq_false_iff_not] at h1
  refine ⟨by omega, ?_⟩
  refine ⟨fun rA rn rc j H' => 0 ≤ j ∧ j ≤ limit - 1 ∧ Keeps H4 H' ∧ ownTh H' H1.size rA rn rc (rowL (thingsL cs) j.toNat), fun _ _ _ j _ => (limit - j).toNat, ⟨by omega, by omega, Keeps.refl _, own4⟩, ?_⟩
  rintro rA rn rc j _ H8 ⟨j0, j1, k48, ownr⟩
  have lr := ownr.len
  have s48 := k48.size
  have s14 := k14.size
  have k18 := k14.trans k48
  obtain ⟨rnn, rcb, rwb⟩ := rowL_bd nn hc1 j.toNat
  have rlb := (rowL_enough _ nn hc1 j.toNat).1
  refine ⟨fun hj => ?_, fun hj => ?_⟩
  · simp only [decide_eq_true_eq] at hj
    have hw15 : wS (rowL (thingsL cs) j.toNat) ≤ 1152921504606846976 := by
      have : ((j.toNat : Int) + 1) * wS (thingsL cs) ≤ 16 * 281474976710656 := by
        refine Int.le_trans (Int.mul_le_mul_of_nonneg_left hw (by omega)) ?_
        exact Int.mul_le_mul_of_nonneg_right (by omega) (by omega)
      omega
    refine HCalls.mono (f124.spec φ B m d rA rn rc (thingsL cs) (rowL (thingsL cs) j.toNat) H8 ((own4.keeps k48).row) own4.2.1 ownr.row (by omega) (by omega) rnn (fun s => by have := rcb s; omega) hw15) ?_
    rintro v H9 ⟨A', n', c', rfl, w, k89⟩
    refine ⟨_, _, _, rfl, by omega, ⟨by omega, by omega, k48.trans k89, ?_⟩, by dsimp only; omega⟩
    rw [show (j + 1).toNat = j.toNat + 1 by omega, rowL]
    exact ownC.base_le w (by omega)
  simp only [decide_eq_false_iff_not] at hj
  have ej : j.toNat = limit.toNat - 1 := by omega
  have hlast := rowL_last _ nn hc1 (L := limit.toNat) (by omega) (by rw [← hP]; omega)
  rw [← ej] at hlast ⊢
  have hcnt : (if (thingsL cs).length = 0 then 0 else max (2 * (thingsL cs).length - 2) 1) = 2 * m - 2 := by
    rw [lm]; split <;> omega
  rw [hcnt]
  have hM : Int.toNat (max (2 * (m : Int) - 2) 0) = 2 * m - 2 := by omega
  have hrc := ownr.2.1
  refine ⟨by omega, by omega, ⟨by omega, by omega⟩, ?_⟩
  simp -zeta only [hM]
  generalize rowL (thingsL cs) j.toNat = row at *
  have ownl8 := ownl.keeps k48
  refine ⟨fun i H' => 0 ≤ i ∧ i ≤ (2 * m - 2 : Nat) ∧ offA (some ⟨H3.size, 0, none⟩) H8 H' ∧ ownI H' H1.size 3 (some ⟨H3.size, 0, none⟩) n n (lensOf n (row.take i.toNat)), fun i _ => (((2 * m - 2 : Nat) : Int) - i).toNat, ⟨by omega, by omega, offA.refl .., by rw [show (0 : Int).toNat = 0 from rfl, lensOf_0]; exact ownl8⟩, ?_⟩
  rintro i _ H10 ⟨i0, i1, f10, ow10⟩
  have s10 := f10.1
  have ownr10 := ownTh_off ownr ownl8 f10
  refine ⟨fun hi => ?_, fun hi => ?_⟩
  · simp only [decide_eq_true_eq] at hi
    obtain ⟨x, b, o, hx, rfl, cx1⟩ := ownr10.row.at i0 (by omega)
    refine ⟨b, o, rfl, ⟨i0, hi⟩, ?_⟩
    refine Eq.mpr (xT cx1 _) ?_
    intro H11
    have o11 : objAt H11 H10.size zeroTh.toArray 180 := objAt_new ..
    have k11 : Keeps H10 H11 := Keeps.push ..
    clear_value H11
    refine Eq.mpr (fitsTh _ _) ?_
    refine ⟨objAt_canPut o11 (by simp [zeroTh, x.len]) (fun v hv => encTh_one x v hv), ?_⟩
    intro H12
    have o12 : objAt H12 H10.size (encTh x).toArray 180 := objAt_put o11 _ _ _ (spl_th _)
    have k12 : Keeps H10 H12 := k11.hput (Nat.le_refl _)
    clear_value H12
    have ow12 := ow10.keeps k12
    have hxn := List.mem_of_getElem? hx
    refine ⟨fun k H' => 0 ≤ k ∧ k ≤ n ∧ offA (some ⟨H3.size, 0, none⟩) H12 H' ∧ ownI H' H1.size 3 (some ⟨H3.size, 0, none⟩) n n (midL n row i.toNat k.toNat), fun k _ => (n - k).toNat, ⟨by omega, by omega, offA.refl .., by rw [show (0 : Int).toNat = 0 from rfl, midL_0]; exact ow12⟩, ?_⟩
    rintro k _ H13 ⟨k0, k1, f13, ow13⟩
    refine ⟨fun hk => ?_, fun hk => ?_⟩
    · simp only [decide_eq_true_eq] at hk
      have hkn : k.toNat < n := by omega
      obtain ⟨y, hy, cy, _⟩ := ow13.at hkn
      rw [midL_get hkn, if_neg (by omega)] at hy
      cases hy
      have ox : objAt H13 H10.size (encTh x).toArray 180 := o12.frame (f13.2 _ (objAt_lt o12) (fun e => by injection e with e; injection e with e; have := (ownC.lt ow10.own rfl).2; omega))
      have ex := (objAt_isTh ox).o (j := k.toNat) (by omega)
      rw [← Nat.mul_one k.toNat] at ex
      have b1 := colS_take_le rnn i.toNat k.toNat
      have b2 := rcb k.toNat
      have b3 := col_le (s := k.toNat) rnn hxn
      have b4 := (rnn x hxn).2 k.toNat
      obtain ⟨p1, p2⟩ := ow13.set hkn (y := colS k.toNat (row.take i.toNat) + x.o.getD k.toNat 0) (r64_of (by omega))
      refine ⟨_, _, rfl, ⟨k0, hk⟩, ?_⟩
      refine ⟨_, cy, ⟨k0, by omega⟩, ?_⟩
      rw [Nat.mul_one k.toNat] at ex
      refine ⟨_, by rw [Nat.mul_one]; exact ex, by omega, by omega, _, _, rfl, ⟨k0, hk⟩, p1, by omega, ⟨by omega, by omega, f13.put _ _, ?_⟩, by dsimp only; omega⟩
      rw [show (k + 1).toNat = k.toNat + 1 by omega, ← midL_set hx hkn]
      exact p2
    · simp only [decide_eq_false_iff_not] at hk
      rw [show k.toNat = n by omega, midL_n] at ow13
      refine ⟨by omega, ⟨by omega, by omega, (f10.keep k12).step (Or.inl rfl) f13, ?_⟩, by dsimp only; omega⟩
      rw [show (i + 1).toNat = i.toNat + 1 by omega]
      exact ow13
  · simp only [decide_eq_false_iff_not] at hi
    refine ⟨_, _, _, rfl, ?_, f10.keeps k18 fun b hb => by cases hb; exact s13⟩
    rw [show i.toNat = 2 * m - 2 by omega] at ow10
    rw [hl]; exact ow10
end Go.Proofs.Ytkkjjjgcfnhabaa.Eng
