/- Part HLg of the proof of the claim in this folder: a way to walk code, and the contracts of the functions that the law reaches. Conditions: none. -/
import Derived.Test.YtkkjjjgcfnhabaaHLf
import Derived.Test.YtkkjjjgcfnhabaaHLb
set_option linter.unusedVariables false
set_option linter.unusedSimpArgs false
set_option maxRecDepth 10000
set_option maxRecDepth 100000
namespace Go.Proofs.Ytkkjjjgcfnhabaa.Eng
open Go Go.Proofs
/-! ### huff.next -/
theorem zeroTh_len : zeroTh.length = 257 := by simp [zeroTh]
theorem ownTh_new (H : Hp) (m : Nat) : ownTh (Array.push H (.cells (zrow zeroTh m).toArray 180 (0, 0))) H.size (some ⟨H.size, 0, none⟩) 0 m [] :=
  ⟨by simp, by omega, Or.inr ⟨H.size, _, Nat.le_refl _, rfl, objAt_new .., by simp [zrow_length, zeroTh_len], by simp⟩⟩
theorem ownC.le {H : Hp} {base : Nat} {t : TypeId} {sz : Nat} {A : Option Addr} {n c : Nat} {vs : List Value} (h : ownC H base t sz A n c vs) : n ≤ c := h.2.1
theorem isTh.held {H : Hp} {b o : Nat} {x : Th} (h : isTh H b o x) : Go.Proofs.Ytkkjjjgcfnhabaa.Eng.held H b o (Value.int .i64 x.w :: (List.map (Value.int .u8) x.o ++ [])) := h
theorem isTh.lt {H : Hp} {b o : Nat} {x : Th} (h : isTh H b o x) : b < H.size := cel_lt h.w
theorem isTh.off {A : Option Addr} {H H' : Hp} {b o : Nat} {x : Th} (h : isTh H b o x) (f : offA A H H') (hne : A ≠ some ⟨b, 0, none⟩) : isTh H' b o x := fun r v hv => by
  have hc := h r v hv
  have := f.2 b (cel_lt hc) hne
  unfold cel at hc ⊢; rw [this]; exact hc
theorem spl_th (z : Th) : spl zeroTh.toArray 0 (encTh z) = (encTh z).toArray := by simp [spl, zeroTh, encTh_len]
theorem f124.spec (φ : Fx) (A : Option Addr) (n c : Nat) (B : Option Addr) (m d : Nat) (fs rs : List Th) (H : Hp) (hf : thR H A n fs) (hnc : n ≤ c) (hr : thR H B m rs) (hn : n ≤ 1048576) (hm : m ≤ 1048576)
    (nn : nnT rs) (hc : ∀ s, colS s rs ≤ 255) (hw : wS rs ≤ 1152921504606846976) :
    HCalls cx.P φ 124 [.slice A n c, .slice B m d] H fun r H' => ∃ A' n' c', r = .slice A' n' c' ∧ ownTh H' H.size A' n' c' (mergeL fs (pairL rs)) ∧ Keeps H H' := by
  apply f124.of
  unfold f124.VC
  have lf := hf.1
  have lr := hr.1
  refine ⟨by omega, by omega, by omega, ?_⟩
  intro H1
  have own1 : ownTh H1 H.size (some ⟨H.size, 0, none⟩) 0 (Int.toNat ((n : Int) + (m : Int) / 2)) [] := ownTh_new ..
  have k1 : Keeps H H1 := Keeps.push ..
  clear_value H1
  refine ⟨fun fA fn fc oA on oc i H' => 0 ≤ i ∧ i ≤ m + 1 ∧ Keeps H H' ∧ fn ≤ fc ∧ on + fn ≤ n + i.toNat ∧ fn ≤ n ∧ ∃ f out, thR H fA fn f ∧ ownTh H' H.size oA on oc out ∧ out ++ mergeL f (pairL (rs.drop i.toNat)) = mergeL fs (pairL rs), fun _ _ _ _ _ _ i _ => (m + 1 - i).toNat,
    ⟨by omega, by omega, k1, hnc, by simp, Nat.le_refl _, fs, [], hf, own1, by simp⟩, ?_⟩
  rintro fA fn fc oA on oc i _ H2 ⟨h0, h1, k2, hfc, hon, hfn, f, out, tf, own2, hg⟩
  have s2 := k2.size
  refine ⟨by omega, fun hi => ?_, fun hi => ?_⟩
  · simp only [decide_eq_true_eq] at hi
    obtain ⟨x, b, o, hx, rfl, cx1⟩ := hr.at h0 (by omega)
    obtain ⟨y, b', o', hy, e, cy1⟩ := hr.at (i := i + 1) (by omega) hi
    cases e
    have hy' : rs[i.toNat + 1]? = some y := by rw [← hy]; congr 1; omega
    have hd := drop2 hx hy'
    have hi2 : (i + 2).toNat = i.toNat + 2 := by omega
    have x2 := isTh.mono _ _ _ _ _ k2 cx1
    have y2 := isTh.mono _ _ _ _ _ k2 cy1
    have mx := List.mem_of_getElem? hx
    have my := List.mem_of_getElem? hy'
    have bx := nn x mx
    have by' := nn y my
    have hsplit : rs = rs.take i.toNat ++ (x :: y :: rs.drop (i.toNat + 2)) := by rw [← hd]; exact (List.take_append_drop _ _).symm
    have nt : nnT (rs.take i.toNat) := fun z hz => nn z (List.mem_of_mem_take hz)
    have nd : nnT (rs.drop (i.toNat + 2)) := fun z hz => nn z (List.mem_of_mem_drop hz)
    have hxy : ∀ s, 0 ≤ x.o.getD s 0 ∧ 0 ≤ y.o.getD s 0 ∧ x.o.getD s 0 + y.o.getD s 0 ≤ 255 := fun s => by
      have a := hc s
      rw [hsplit, colS_app, colS, colS] at a
      have := colS_nonneg s _ nt
      have := colS_nonneg s _ nd
      exact ⟨bx.2 s, by'.2 s, by omega⟩
    have hxw : 0 ≤ x.w ∧ 0 ≤ y.w ∧ x.w + y.w ≤ 1152921504606846976 := by
      have a := hw
      rw [hsplit, wS_app, wS, wS] at a
      have := wS_nonneg _ nt
      have := wS_nonneg _ nd
      exact ⟨bx.1, by'.1, by omega⟩
    refine ⟨fun pb po H' => isTh H' pb po (bothT x y) ∧ H2.size ≤ pb ∧ Keeps H2 H', ?_, ?_⟩
    · refine ⟨b, o, rfl, ⟨h0, by omega⟩, ?_⟩
      refine Eq.mpr (xT x2 _) ?_
      refine ⟨by omega, b, o, rfl, ⟨by omega, hi⟩, ?_⟩
      refine Eq.mpr (xT y2 _) ?_
      refine ⟨HCalls.mono (f172.spec φ x y H2 hxy hxw) ?_, ?_⟩
      · rintro v H3 ⟨rfl, k23⟩
        refine ⟨(bothT x y).w, (bothT x y).o, (bothT x y).len, rfl, ?_⟩
        intro H4
        have o4 : objAt H4 H3.size zeroTh.toArray 180 := objAt_new ..
        have k34 : Keeps H3 H4 := Keeps.push ..
        clear_value H4
        refine Eq.mpr (fitsTh _ _) ?_
        refine ⟨objAt_canPut o4 (by simp [zeroTh, (bothT x y).len]) (fun v hv => encTh_one (bothT x y) v hv), ?_⟩
        intro H5
        have o5 : objAt H5 H3.size (encTh (bothT x y)).toArray 180 := objAt_put o4 _ _ _ (spl_th _)
        have := k23.size
        exact ⟨objAt_isTh o5, this, (k23.trans k34).hput this⟩
      · intro H6
        have o6 : objAt H6 H2.size zeroTh.toArray 180 := objAt_new ..
        have k26 : Keeps H2 H6 := Keeps.push ..
        clear_value H6
        refine ⟨(isTh.mono _ _ _ _ _ k26 y2).held, (isTh.mono _ _ _ _ _ k26 x2).held, HCalls.mono (f172.spec φ x y H6 hxy hxw) ?_⟩
        rintro v H7 ⟨rfl, k67⟩
        refine ⟨(bothT x y).w, (bothT x y).o, (bothT x y).len, rfl, ?_⟩
        refine Eq.mpr (fitsTh _ _) ?_
        have o7 := k67.obj o6
        refine ⟨objAt_canPut o7 (by simp [zeroTh, (bothT x y).len]) (fun v hv => encTh_one (bothT x y) v hv), ?_⟩
        intro H8
        have o8 : objAt H8 H2.size (encTh (bothT x y)).toArray 180 := objAt_put o7 _ _ _ (spl_th _)
        exact ⟨objAt_isTh o8, Nat.le_refl _, (k26.trans k67).hput (Nat.le_refl _)⟩
    · rintro pb po _ H9 ⟨p9, hpb, k29⟩
      have own9 := own2.keeps k29
      have k9 := k2.trans k29
      rw [hd, pairL] at hg
      refine ⟨fun fA fn fc oA on oc H' => Keeps H H' ∧ fn ≤ fc ∧ on + fn ≤ n + i.toNat ∧ fn ≤ n ∧ isTh H' pb po (bothT x y) ∧ oA ≠ some ⟨pb, 0, none⟩ ∧ ∃ f out, thR H fA fn f ∧ ownTh H' H.size oA on oc out ∧ out ++ mergeL f (bothT x y :: pairL (rs.drop (i.toNat + 2))) = mergeL fs (pairL rs), fun _ fn _ _ _ _ _ => fn,
        ⟨k9, hfc, hon, hfn, p9, fun e => by have := (ownC.lt own2 e).2; omega, f, out, tf, own9, hg⟩, ?_⟩
      rintro fA fn fc oA on oc _ H10 ⟨k10, hfc, hon, hfn, p10, hne, f, out, tf, own10, hg⟩
      have s10 := k10.size
      have lf := tf.1
      refine ⟨fun q H' => H' = H10 ∧ (q = true → ∃ z t, f = z :: t ∧ z.w ≤ (bothT x y).w) ∧ (q = false → f = [] ∨ ∃ z t, f = z :: t ∧ ¬ z.w ≤ (bothT x y).w), ⟨fun hq => ?_, fun hq => ?_⟩, ?_⟩
      · simp only [decide_eq_true_eq] at hq
        obtain ⟨z, bz, oz, hz, rfl, cz⟩ := tf.at (i := 0) (by omega) hq
        have z10 := isTh.mono _ _ _ _ _ k10 cz
        have hcons : ∃ t, f = z :: t := by
          cases f with
          | nil => simp at hz
          | cons a t => simp at hz; subst hz; exact ⟨t, rfl⟩
        obtain ⟨t, rfl⟩ := hcons
        refine ⟨bz, oz, rfl, ⟨by omega, hq⟩, ?_⟩
        simp -zeta only [xI z10.w, xI p10.w]
        refine ⟨trivial, fun h => ⟨z, t, rfl, by simpa using h⟩, fun h => Or.inr ⟨z, t, rfl, by simpa using h⟩⟩
      · simp only [decide_eq_false_iff_not] at hq
        refine ⟨rfl, fun h => (by cases h), fun _ => Or.inl ?_⟩
        exact List.eq_nil_of_length_eq_zero (by omega)
      · rintro q _ H11 ⟨rfl, hqt, hqf⟩
        refine ⟨fun hq => ?_, fun hq => ?_⟩
        · obtain ⟨z, t, rfl, hle⟩ := hqt hq
          simp at lf
          obtain ⟨z', bz, oz, hz, rfl, cz⟩ := tf.at (i := 0) (by omega) (by omega)
          simp at hz; subst hz
          have z11 := isTh.mono _ _ _ _ _ k10 cz
          refine ⟨bz, oz, rfl, ⟨by omega, by omega⟩, ?_⟩
          refine Eq.mpr (xT z11 _) ?_
          refine Eq.mpr (fitsTh _ _) ?_
          intro H12
          refine app175 own10 s10 (by omega) z 1 ?_
          intro A' c' H13 w fo e
          refine ⟨_, _, _, rfl, ⟨by omega, by omega⟩, ⟨fo.keeps k10 fun b hb => (ownC.lt own10 hb).1, by show fn - 1 ≤ fc - 1; omega, by show on + 1 + (fn - 1) ≤ _; omega, by show fn - 1 ≤ n; omega, p10.off fo hne, ?_, t, out ++ [z], ?_, w, ?_⟩, ?_⟩
          · rcases e with e | ⟨q, h, e⟩
            · rw [e]; exact hne
            · intro e2; rw [e] at e2; cases e2; have := p10.lt; omega
          · exact rowR_part tf (i := 1) (by omega) hfc
          · rw [← hg, mergeL_le hle, List.append_assoc]; rfl
          · show fn - 1 < fn; omega
        · refine Eq.mpr (xT p10 _) ?_
          refine Eq.mpr (fitsTh _ _) ?_
          intro H14
          refine app175 own10 s10 (by omega) (bothT x y) 1 ?_
          intro A' c' H15 w fo e
          refine ⟨_, _, _, rfl, by omega, ⟨by omega, by omega, fo.keeps k10 fun b hb => (ownC.lt own10 hb).1, hfc, by omega, hfn, f, out ++ [bothT x y], tf, w, ?_⟩, by dsimp only; omega⟩
          rw [hi2, ← hg, mergeL_gt (hqf hq), List.append_assoc]; rfl
  · simp only [decide_eq_false_iff_not] at hi
    have hp : pairL (rs.drop i.toNat) = [] := by
      have : (rs.drop i.toNat).length ≤ 1 := by simp; omega
      match h : rs.drop i.toNat, this with
      | [], _ => rfl
      | [_], _ => rfl
      | _ :: _ :: _, q => simp at q
    rw [hp, mergeL] at hg
    refine app175s own2 s2 (tf.keeps isTh.mono k2) (by omega) ?_
    intro A' c' H3 w fo
    exact ⟨_, _, _, rfl, _, _, _, rfl, hg ▸ w, fo.keeps k2 fun b hb => (ownC.lt own2 hb).1⟩
end Go.Proofs.Ytkkjjjgcfnhabaa.Eng
namespace Go.Proofs.Ytkkjjjgcfnhabaa.Eng
open Go Go.Proofs
/-! ### Lists of ints that a function owns -/
def encI (x : Int) : List Value := [.int .i64 x]
theorem flat_encI (xs : List Int) : xs.flatMap encI = xs.map (Value.int .i64) := by
  induction xs with
  | nil => rfl
  | cons x r ih => simp only [List.flatMap_cons, List.map_cons, ih, encI]; rfl
def r64 (x : Int) : Prop := -9223372036854775808 ≤ x ∧ x ≤ 9223372036854775807
structure ownI (H : Hp) (base : Nat) (t : TypeId) (A : Option Addr) (n c : Nat) (xs : List Int) : Prop where
  own : ownC H base t 1 A n c (xs.flatMap encI)
  rng : ∀ x ∈ xs, r64 x
theorem ownI.len {H : Hp} {base : Nat} {t : TypeId} {A : Option Addr} {n c : Nat} {xs : List Int} (h : ownI H base t A n c xs) : xs.length = n := by
  have := h.own.1
  rw [flat_encI] at this; simpa using this
theorem ownI.row {H : Hp} {base : Nat} {t : TypeId} {A : Option Addr} {n c : Nat} {xs : List Int} (h : ownI H base t A n c xs) : intsR H A n xs :=
  ownC.row encI (fun _ => rfl) h.own (by decide) fun b o x hx hc => ⟨hc 0 _ rfl, h.rng x hx⟩
theorem ownI.keeps {H H' : Hp} {base : Nat} {t : TypeId} {A : Option Addr} {n c : Nat} {xs : List Int} (h : ownI H base t A n c xs) (k : Keeps H H') : ownI H' base t A n c xs := ⟨h.own.keeps k, h.rng⟩
theorem ownI_nil (H : Hp) (base : Nat) (t : TypeId) : ownI H base t none 0 0 [] := ⟨ownC_nil .., by simp⟩
theorem ownI_new (H : Hp) (t : TypeId) (n : Nat) : ownI (Array.push H (.cells (zrow [.int .i64 0] n).toArray t (0, 0))) H.size t (some ⟨H.size, 0, none⟩) n n (List.replicate n 0) := by
  have e : (List.replicate n (0 : Int)).flatMap encI = zrow [.int .i64 0] n := by
    rw [flat_encI, zrow_one, List.map_replicate]; apply List.ext_getElem?; intro i; by_cases h : i < n <;> simp [h]
  refine ⟨⟨by rw [e]; simp [zrow_length], Nat.le_refl _, Or.inr ⟨H.size, _, Nat.le_refl _, rfl, objAt_new .., by simp [zrow_length], ?_⟩⟩, fun x hx => by have := List.eq_of_mem_replicate hx; subst this; constructor <;> omega⟩
  rw [e]; exact List.take_of_length_le (by simp [zrow_length])
theorem ownI.set {H : Hp} {base b n c : Nat} {t : TypeId} {xs : List Int} (h : ownI H base t (some ⟨b, 0, none⟩) n c xs) {i : Nat} (hi : i < n) {y : Int} (hy : r64 y) :
    canPut H b (0 + i * 1) [.int .i64 y] ∧ ownI (hput H b (0 + i * 1) [.int .i64 y]) base t (some ⟨b, 0, none⟩) n c (xs.set i y) := by
  have hl := h.len
  obtain ⟨a, o⟩ := own_set encI (fun _ => rfl) (fun x v hv => by simp [encI] at hv; subst hv; rfl) h.own (i := i) (by omega) hl y
  refine ⟨a, o, fun x hx => ?_⟩
  rcases List.mem_or_eq_of_mem_set hx with q | q
  · exact h.rng x q
  · subst q; exact hy
theorem ownI.at {H : Hp} {base b n c : Nat} {t : TypeId} {xs : List Int} (h : ownI H base t (some ⟨b, 0, none⟩) n c xs) {i : Nat} (hi : i < n) : ∃ x, xs[i]? = some x ∧ cel H b (0 + i * 1) = some (.int .i64 x) ∧ r64 x := by
  obtain ⟨x, b', o', h1, h2, h3⟩ := h.row.at (i := (i : Int)) (by omega) (by omega)
  cases h2
  exact ⟨x, h1, h3⟩
/-! ### The counts -/
theorem okCounts_cons (x : Int) (r : List Int) : okCounts (x :: r) = ((decide (0 ≤ x) && decide (x ≤ 1099511627776)) && okCounts r) := by simp only [okCounts, List.all_cons]
theorem f122.spec (φ : Fx) (A : Option Addr) (n c : Nat) (cs : List Int) (H : Hp) (hr : intsR H A n cs) (hn : n ≤ 140737488355328) :
    HCalls cx.P φ 122 [.slice A n c] H fun r H' => r = .int .i64 (if okCounts cs = true then 0 else 3) ∧ H' = H := by
  apply f122.of
  unfold f122.VC
  have hl := hr.1
  refine ⟨fun i H' => 0 ≤ i ∧ i ≤ n ∧ H' = H ∧ okCounts cs = okCounts (cs.drop i.toNat), fun i _ => (n - i).toNat, ⟨by omega, by omega, rfl, by simp⟩, ?_⟩
  rintro i _ H1 ⟨h0, h1, rfl, hd⟩
  refine ⟨fun hi => ?_, fun hi => ?_⟩
  · simp only [decide_eq_true_eq] at hi
    obtain ⟨x, b, o, hx, rfl, cx1, _⟩ := hr.at h0 hi
    refine ⟨b, o, rfl, ⟨h0, hi⟩, ?_⟩
    simp -zeta only [xI cx1]
    rw [drop_at hx, okCounts_cons] at hd
    refine ⟨fun q H' => H' = H1 ∧ (q = true ↔ ¬ (0 ≤ x ∧ x ≤ 1099511627776)), ⟨fun h => ⟨rfl, ?_⟩, fun h => ⟨rfl, ?_⟩⟩, ?_⟩
    · simp only [decide_eq_true_eq] at h; simp; omega
    · simp only [decide_eq_false_iff_not] at h; simp; omega
    · rintro q _ H2 ⟨rfl, hq⟩
      refine ⟨fun h => ?_, fun h => ⟨by omega, ⟨by omega, by omega, rfl, ?_⟩, by omega⟩⟩
      · have := hq.1 h
        have e : okCounts cs = false := by
          rw [hd]; simp only [Bool.and_eq_false_iff, decide_eq_false_iff_not]; omega
        rw [e]; exact ⟨rfl, rfl⟩
      · have : 0 ≤ x ∧ x ≤ 1099511627776 := by
          apply Classical.byContradiction; intro g; have := hq.2 g; rw [h] at this; cases this
        rw [hd, show (i + 1).toNat = i.toNat + 1 by omega]
        simp [this.1, this.2]
  · simp only [decide_eq_false_iff_not] at hi
    rw [List.drop_eq_nil_of_le (by omega)] at hd
    rw [hd]; exact ⟨rfl, rfl⟩
theorem f125.spec (φ : Fx) (A : Option Addr) (n c : Nat) (cs : List Int) (H : Hp) (hr : intsR H A n cs) (hn : n ≤ 140737488355328) :
    HCalls cx.P φ 125 [.slice A n c] H fun r H' => r = .bool (okCounts cs) ∧ H' = H := by
  apply f125.of
  unfold f125.VC
  have hl := hr.1
  refine ⟨fun i H' => 0 ≤ i ∧ i ≤ n ∧ H' = H ∧ okCounts cs = okCounts (cs.drop i.toNat), fun i _ => (n - i).toNat, ⟨by omega, by omega, rfl, by simp⟩, ?_⟩
  rintro i _ H1 ⟨h0, h1, rfl, hd⟩
  refine ⟨fun hi => ?_, fun hi => ?_⟩
  · simp only [decide_eq_true_eq] at hi
    obtain ⟨x, b, o, hx, rfl, cx1, _⟩ := hr.at h0 hi
    rw [drop_at hx, okCounts_cons] at hd
    refine ⟨fun q H' => H' = H1 ∧ (q = true ↔ ¬ (0 ≤ x ∧ x ≤ 1099511627776)), ⟨b, o, rfl, ⟨h0, hi⟩, ?_⟩, ?_⟩
    · simp -zeta only [xI cx1]
      refine ⟨fun h => ⟨trivial, ?_⟩, fun h => ⟨b, o, rfl, ⟨h0, hi⟩, x, cx1, trivial, ?_⟩⟩
      · simp only [decide_eq_true_eq] at h; simp; omega
      · simp only [decide_eq_false_iff_not] at h; simp; omega
    · rintro q _ H2 ⟨rfl, hq⟩
      refine ⟨fun h => ?_, fun h => ⟨by omega, ⟨by omega, by omega, rfl, ?_⟩, by dsimp only; omega⟩⟩
      · have := hq.1 h
        have e : okCounts cs = false := by
          rw [hd]; simp only [Bool.and_eq_false_iff, decide_eq_false_iff_not]; omega
        rw [e]; exact ⟨rfl, rfl⟩
      · have : 0 ≤ x ∧ x ≤ 1099511627776 := by
          apply Classical.byContradiction; intro g; have := hq.2 g; rw [h] at this; cases this
        rw [hd, show (i + 1).toNat = i.toNat + 1 by omega]
        simp [this.1, this.2]
  · simp only [decide_eq_false_iff_not] at hi
    rw [List.drop_eq_nil_of_le (by omega)] at hd
    rw [hd]; exact ⟨rfl, rfl⟩
/-! ### How long: the running sums -/
def midL (n : Nat) (row : List Th) (i k : Nat) : List Int := (List.range n).map fun j => colS j (row.take (if j < k then i + 1 else i))
theorem midL_len (n : Nat) (row : List Th) (i k : Nat) : (midL n row i k).length = n := by simp [midL]
theorem midL_get {n : Nat} {row : List Th} {i k j : Nat} (hj : j < n) : (midL n row i k)[j]? = some (colS j (row.take (if j < k then i + 1 else i))) := by
  rw [midL, List.getElem?_map, List.getElem?_range hj]; rfl
theorem midL_0 (n : Nat) (row : List Th) (i : Nat) : midL n row i 0 = lensOf n (row.take i) := by
  unfold midL lensOf
  apply List.map_congr_left; intro j hj; rw [if_neg (by omega)]
theorem midL_n (n : Nat) (row : List Th) (i : Nat) : midL n row i n = lensOf n (row.take (i + 1)) := by
  unfold midL lensOf
  apply List.map_congr_left; intro j hj; rw [if_pos (by simpa using hj)]
theorem colS_take {row : List Th} {i : Nat} {x : Th} (hx : row[i]? = some x) (s : Nat) : colS s (row.take (i + 1)) = colS s (row.take i) + x.o.getD s 0 := by
  rw [List.take_add_one, hx, colS_app]; simp [colS]
theorem midL_set {n : Nat} {row : List Th} {i k : Nat} {x : Th} (hx : row[i]? = some x) (hk : k < n) : (midL n row i k).set k (colS k (row.take i) + x.o.getD k 0) = midL n row i (k + 1) := by
  apply List.ext_getElem?
  intro j
  rw [List.getElem?_set]
  by_cases hj : j < n
  · rw [midL_get hj]
    by_cases q : k = j
    · subst q
      rw [if_pos rfl, if_pos (by rw [midL_len]; exact hj), midL_get hj, if_pos (by omega), colS_take hx]
    · rw [if_neg q, midL_get hj]
      by_cases g : j < k
      · rw [if_pos g, if_pos (by omega)]
      · rw [if_neg g, if_neg (by omega)]
  · rw [if_neg (by omega), List.getElem?_eq_none (by rw [midL_len]; omega), List.getElem?_eq_none (by rw [midL_len]; omega)]
theorem colS_take_le {row : List Th} (nn : nnT row) (i s : Nat) : 0 ≤ colS s (row.take i) ∧ colS s (row.take i) ≤ colS s row := by
  have a := colS_nonneg s (row.take i) fun z hz => nn z (List.mem_of_mem_take hz)
  have b := colS_nonneg s (row.drop i) fun z hz => nn z (List.mem_of_mem_drop hz)
  have e : colS s row = colS s (row.take i) + colS s (row.drop i) := by rw [← colS_app, List.take_append_drop]
  omega
theorem lensOf_0 (n : Nat) (row : List Th) : lensOf n (row.take 0) = List.replicate n 0 := by
  apply List.ext_getElem?
  intro j
  unfold lensOf
  by_cases h : j < n
  · rw [List.getElem?_map, List.getElem?_range h, List.getElem?_replicate, if_pos h]; rfl
  · rw [List.getElem?_eq_none (by simp; omega), List.getElem?_eq_none (by simp; omega)]
/-! ### One thing alone -/
theorem colS_rawU {cs : List Int} (h256 : cs.length ≤ 256) (s : Nat) : ∀ (d : Nat), d ≤ cs.length → colS s (rawU cs d) = if cs.length - d ≤ s ∧ s < cs.length ∧ 0 < cs.getD s 0 then 1 else 0
  | 0, _ => by rw [if_neg (by omega)]; rfl
  | d + 1, hd => by
    rw [rawU, colS_app, colS_rawU h256 s d (by omega)]
    by_cases q : 0 < cs.getD (cs.length - (d + 1)) 0
    · rw [if_pos q]
      show _ + ((eV _).getD s 0 + 0) = _
      rw [eV_get]
      by_cases g : s = cs.length - (d + 1)
      · rw [if_neg (by omega), if_pos ⟨g, by omega⟩, if_pos ⟨by omega, by omega, by rw [g]; exact q⟩]; rfl
      · have e2 : (if s = cs.length - (d + 1) ∧ s < 256 then (1 : Int) else 0) = 0 := if_neg (fun h => g h.1)
        rw [e2]
        by_cases u : cs.length - d ≤ s ∧ s < cs.length ∧ 0 < cs.getD s 0
        · rw [if_pos u, if_pos ⟨by omega, u.2⟩]; rfl
        · rw [if_neg u, if_neg (fun h => u ⟨by omega, h.2⟩)]; rfl
    · rw [if_neg q]
      show _ + 0 = _
      by_cases g : s = cs.length - (d + 1)
      · rw [if_neg (by omega), if_neg (fun h => q (g ▸ h.2.2))]; rfl
      · by_cases u : cs.length - d ≤ s ∧ s < cs.length ∧ 0 < cs.getD s 0
        · rw [if_pos u, if_pos ⟨by omega, u.2⟩]; rfl
        · rw [if_neg u, if_neg (fun h => u ⟨by omega, h.2⟩)]; rfl
theorem colS_things {cs : List Int} (h256 : cs.length ≤ 256) {s : Nat} (hs : s < cs.length) : colS s (thingsL cs) = if 0 < cs.getD s 0 then 1 else 0 := by
  rw [thingsL, colS_perm s (refU_spec h256 cs.length (Nat.le_refl _)).1, colS_rawU h256 s cs.length (Nat.le_refl _)]
  by_cases q : 0 < cs.getD s 0
  · rw [if_pos q, if_pos ⟨by omega, hs, q⟩]
  · rw [if_neg q, if_neg (fun h => q h.2.2)]
def oneL (cs : List Int) (i : Nat) : List Int := (List.range cs.length).map fun j => if j < i ∧ 0 < cs.getD j 0 then 1 else 0
theorem oneL_0 (cs : List Int) : oneL cs 0 = List.replicate cs.length 0 := by
  apply List.ext_getElem?
  intro j
  unfold oneL
  by_cases h : j < cs.length
  · rw [List.getElem?_map, List.getElem?_range h, List.getElem?_replicate, if_pos h]; simp
  · rw [List.getElem?_eq_none (by simp; omega), List.getElem?_eq_none (by simp; omega)]
theorem oneL_n {cs : List Int} (h256 : cs.length ≤ 256) : oneL cs cs.length = lensOf cs.length (thingsL cs) := by
  unfold oneL lensOf
  apply List.map_congr_left
  intro j hj
  simp only [List.mem_range] at hj
  rw [colS_things h256 hj]
  by_cases q : 0 < cs.getD j 0
  · rw [if_pos ⟨hj, q⟩, if_pos q]
  · rw [if_neg (fun h => q h.2), if_neg q]
theorem oneL_step {cs : List Int} {i : Nat} (hi : i < cs.length) {x : Int} (hx : cs[i]? = some x) : (0 < x → (oneL cs i).set i 1 = oneL cs (i + 1)) ∧ (¬ 0 < x → oneL cs i = oneL cs (i + 1)) := by
  have hg : cs.getD i 0 = x := by rw [List.getD_eq_getElem?_getD, hx]; rfl
  have get : ∀ j k, j < cs.length → (oneL cs k)[j]? = some (if j < k ∧ 0 < cs.getD j 0 then 1 else 0) := fun j k hj => by
    rw [oneL, List.getElem?_map, List.getElem?_range hj]; rfl
  have len : ∀ k, (oneL cs k).length = cs.length := fun k => by simp [oneL]
  constructor
  · intro hp
    apply List.ext_getElem?
    intro j
    rw [List.getElem?_set]
    by_cases hj : j < cs.length
    · by_cases q : i = j
      · subst q
        rw [if_pos rfl, if_pos (by rw [len]; exact hi), get _ _ hj, if_pos ⟨by omega, by omega⟩]
      · rw [if_neg q, get _ _ hj, get _ _ hj]
        by_cases g : j < i
        · simp [g, show j < i + 1 by omega]
        · rw [if_neg (fun h => g h.1), if_neg (fun h => by omega)]
    · rw [if_neg (by omega), List.getElem?_eq_none (by rw [len]; omega), List.getElem?_eq_none (by rw [len]; omega)]
  · intro hp
    apply List.ext_getElem?
    intro j
    by_cases hj : j < cs.length
    · rw [get _ _ hj, get _ _ hj]
      by_cases g : j < i
      · simp [g, show j < i + 1 by omega]
      · by_cases q : j = i
        · subst q
          rw [if_neg (fun h => g h.1), if_neg (fun h => hp (hg ▸ h.2))]
        · rw [if_neg (fun h => g h.1), if_neg (fun h => by omega)]
    · rw [List.getElem?_eq_none (by rw [len]; omega), List.getElem?_eq_none (by rw [len]; omega)]
theorem oneL_rng {cs : List Int} {i : Nat} {x : Int} (h : x ∈ oneL cs i) : x = 0 ∨ x = 1 := by
  obtain ⟨j, _, e⟩ := List.mem_map.1 h
  split at e <;> omega
theorem rowL_one {x : Th} : ∀ j, rowL [x] j = [x]
  | 0 => rfl
  | j + 1 => by rw [rowL, rowL_one j]; rfl
end Go.Proofs.Ytkkjjjgcfnhabaa.Eng
namespace Go.Proofs.Ytkkjjjgcfnhabaa.Eng
open Go Go.Proofs
/-! ### huff.Lengths -/
theorem r64_of {x : Int} (h : 0 ≤ x ∧ x ≤ 1000) : r64 x := ⟨by omega, by omega⟩
theorem ownTh_off {H H' : Hp} {base b : Nat} {A : Option Addr} {n c : Nat} {xs : List Th} {n2 c2 : Nat} {ys : List Int} (h : ownTh H base A n c xs) (o : ownI H base 3 (some ⟨b, 0, none⟩) n2 c2 ys) (f : offA (some ⟨b, 0, none⟩) H H') : ownTh H' base A n c xs :=
  ownC.off h o.own (by decide) f
theorem ownI.base_le {H : Hp} {base base' : Nat} {t : TypeId} {A : Option Addr} {n c : Nat} {xs : List Int} (h : ownI H base t A n c xs) (hb : base' ≤ base) : ownI H base' t A n c xs := ⟨h.own.base_le hb, h.rng⟩
theorem lenRes_ok {cs : List Int} {limit : Int} (h1 : ¬ 256 < cs.length) (h2 : okCounts cs = true) (h3 : ¬ limit < 1) (h4 : ¬ 15 < limit) :
    lenRes cs limit = if 2 ^ limit.toNat < (thingsL cs).length then ([], 41) else
      (lensOf cs.length ((rowL (thingsL cs) (limit.toNat - 1)).take (if (thingsL cs).length = 0 then 0 else max (2 * (thingsL cs).length - 2) 1)), 0) := by
  unfold lenRes; rw [if_neg h1, if_neg (by rw [h2]; simp; omega)]
theorem lenRes_bad {cs : List Int} {limit : Int} (h1 : ¬ 256 < cs.length) (h2 : okCounts cs = false ∨ limit < 1 ∨ 15 < limit) : lenRes cs limit = ([], 3) := by
  unfold lenRes; rw [if_neg h1, if_pos h2]
theorem pow_lim {limit : Int} (h3 : ¬ limit < 1) (h4 : ¬ 15 < limit) : (1 : Int) * 2 ^ (min limit.toNat 64) = ((2 ^ limit.toNat : Nat) : Int) ∧ 2 ^ limit.toNat ≤ 32768 := by
  have : min limit.toNat 64 = limit.toNat := by omega
  rw [this, Int.one_mul]
  refine ⟨by push_cast; rfl, ?_⟩
  have : 2 ^ limit.toNat ≤ 2 ^ 15 := Nat.pow_le_pow_right (by decide) (by omega)
  exact this
theorem f56.spec (φ : Fx) (A : Option Addr) (n c : Nat) (cs : List Int) (limit : Int) (H : Hp) (hr : intsR H A n cs) (hn : n ≤ 140737488355328) :
    HCalls cx.P φ 56 [.slice A n c, .int .i64 limit] H fun r H' => ∃ A' n' c', r = .tuple #[.slice A' n' c', .int .i64 (lenRes cs limit).2] ∧ ownI H' H.size 3 A' n' c' (lenRes cs limit).1 ∧ Keeps H H' := by
  apply f56.of
  unfold f56.VC
  have hl := hr.1
  refine ⟨fun h => ?_, fun h => ?_⟩
  · simp only [decide_eq_true_eq] at h
    have e : lenRes cs limit = ([], 2) := by unfold lenRes; rw [if_pos (by omega)]
    rw [e]
    exact ⟨_, _, _, rfl, ownI_nil .., Keeps.refl _⟩
  simp only [decide_eq_false_iff_not] at h
  have h256 : cs.length ≤ 256 := by omega
  refine HCalls.mono (f122.spec φ A n c cs H hr hn) ?_
  rintro v H0 ⟨rfl, rfl⟩
  refine ⟨_, rfl, ?_⟩
  refine ⟨fun q H' => H' = H0 ∧ (q = true ↔ (okCounts cs = false ∨ limit < 1 ∨ 15 < limit)), ⟨fun h => ⟨rfl, ?_⟩, fun h => ⟨fun h2 => ⟨rfl, ?_⟩, fun h2 => ⟨rfl, ?_⟩⟩⟩, ?_⟩
  · cases hok : okCounts cs <;> simp [hok] at h ⊢
  · simp only [decide_eq_true_eq] at h2; simp [h2]
  · simp only [decide_eq_false_iff_not] at h2
    cases hok : okCounts cs <;> simp [hok] at h ⊢
    omega
  rintro q _ H1 ⟨rfl, hq⟩
  refine ⟨fun h => ?_, fun h => ?_⟩
  · rw [lenRes_bad (by omega) (hq.1 h)]
    exact ⟨_, _, _, rfl, ownI_nil .., Keeps.refl _⟩
  have hq' : ¬ (okCounts cs = false ∨ limit < 1 ∨ 15 < limit) := fun g => by have := hq.2 g; rw [h] at this; cases this
  have hok : okCounts cs = true := by
    cases hc : okCounts cs
    · exact absurd (Or.inl hc) hq'
    · rfl
  have hl1 : ¬ limit < 1 := fun g => hq' (Or.inr (Or.inl g))
  have hl2 : ¬ 15 < limit := fun g => hq' (Or.inr (Or.inr g))
  clear hq hq'
  rw [lenRes_ok (by omega) hok hl1 hl2]
  obtain ⟨pe, pb⟩ := pow_lim hl1 hl2
  obtain ⟨nn, hc1, hw, hlen⟩ := things_bd hok h256
  refine HCalls.mono (f123.spec φ A n c cs H1 hr (by omega)) ?_
  rintro v H3 ⟨B, m, d, rfl, own3, k13⟩
  have lm := own3.len
  rw [pe]
  obtain ⟨P, hP⟩ : ∃ P, P = 2 ^ limit.toNat := ⟨_, rfl⟩
  rw [← hP] at pb ⊢
  refine ⟨_, _, _, rfl, by omega, by omega, fun h => ?_, fun h => ?_⟩
  · simp only [decide_eq_true_eq] at h
    rw [if_pos (by omega)]
    exact ⟨_, _, _, rfl, ownI_nil .., k13⟩
  simp only [decide_eq_false_iff_not] at h
  rw [if_neg (by omega)]
  refine ⟨by omega, ?_⟩
  have hN : Int.toNat (n : Int) = n := by omega
  simp -zeta only [hN]
  intro H4
  have ownl : ownI H4 H3.size 3 (some ⟨H3.size, 0, none⟩) n n (List.replicate n 0) := ownI_new ..
  have k34 : Keeps H3 H4 := Keeps.push ..
  clear_value H4
  have s13 := k13.size
  have ownl := ownl.base_le s13
  have k14 := k13.trans k34
  have own4 := own3.keeps k34
  refine ⟨fun h1 => ?_, fun h1 => ?_⟩
  · simp only [decide_eq_true_eq] at h1
    have e : lensOf cs.length ((rowL (thingsL cs) (limit.toNat - 1)).take (if (thingsL cs).length = 0 then 0 else max (2 * (thingsL cs).length - 2) 1)) = oneL cs cs.length := by
      rw [oneL_n h256, lm, if_neg (by omega), show max (2 * m - 2) 1 = 1 by omega]
      obtain ⟨x, hx⟩ := List.length_eq_one_iff.1 (show (thingsL cs).length = 1 by omega)
      rw [hx, rowL_one]; rfl
    rw [e]
    refine ⟨fun i H' => 0 ≤ i ∧ i ≤ n ∧ Keeps H1 H' ∧ ownI H' H1.size 3 (some ⟨H3.size, 0, none⟩) n n (oneL cs i.toNat), fun i _ => (n - i).toNat, ⟨by omega, by omega, k14, by rw [show (0 : Int).toNat = 0 from rfl, oneL_0, hl]; exact ownl⟩, ?_⟩
    rintro i _ H5 ⟨i0, i1, k5, ow⟩
    refine ⟨fun hi => ?_, fun hi => ?_⟩
    · simp only [decide_eq_true_eq] at hi
      obtain ⟨x, b, o, hx, rfl, cx1, _⟩ := hr.at i0 hi
      obtain ⟨st1, st2⟩ := oneL_step (i := i.toNat) (by omega) hx
      have e1 : (i + 1).toNat = i.toNat + 1 := by omega
      refine ⟨b, o, rfl, ⟨i0, hi⟩, ?_⟩
      simp -zeta only [xI (k5.cel cx1)]
      refine ⟨fun H' => Keeps H1 H' ∧ ownI H' H1.size 3 (some ⟨H3.size, 0, none⟩) n n (oneL cs (i + 1).toNat), ⟨fun hp => ?_, fun hp => ?_⟩, fun _ H7 h7 => ⟨by omega, ⟨by omega, by omega, h7.1, h7.2⟩, by omega⟩⟩
      · simp only [decide_eq_true_eq] at hp
        obtain ⟨p1, p2⟩ := ow.set (i := i.toNat) (by omega) (y := 1) (r64_of (by omega))
        refine ⟨_, _, rfl, ⟨i0, hi⟩, p1, k5.hput s13, ?_⟩
        rw [e1, ← st1 hp]; exact p2
      · simp only [decide_eq_false_iff_not] at hp
        refine ⟨k5, ?_⟩
        rw [e1, ← st2 hp]; exact ow
    · simp only [decide_eq_false_iff_not] at hi
      refine ⟨_, _, _, rfl, ?_, k5⟩
      rw [show i.toNat = cs.length by omega] at ow
      exact ow
  simp only [decide_eq_false_iff_not] at h1
  refine ⟨by omega, ?_⟩
  refine ⟨fun rA rn rc j H' => 0 ≤ j ∧ j ≤ limit - 1 ∧ Keeps H4 H' ∧ ownTh H' H1.size rA rn rc (rowL (thingsL cs) j.toNat), fun _ _ _ j _ => (limit - j).toNat, ⟨by omega, by omega, Keeps.refl _, own4⟩, ?_⟩
  rintro rA rn rc j _ H8 ⟨j0, j1, k48, ownr⟩
  have lr := ownr.len
  have s48 := k48.size
  have s14 := k14.size
  have k18 := k14.trans k48
  obtain ⟨rnn, rcb, rwb⟩ := rowL_bd nn hc1 j.toNat
  have rlb := (rowL_enough _ nn hc1 j.toNat).1
  refine ⟨fun hj => ?_, fun hj => ?_⟩
  · simp only [decide_eq_true_eq] at hj
    have hw15 : wS (rowL (thingsL cs) j.toNat) ≤ 1152921504606846976 := by
      have : ((j.toNat : Int) + 1) * wS (thingsL cs) ≤ 16 * 281474976710656 := by
        refine Int.le_trans (Int.mul_le_mul_of_nonneg_left hw (by omega)) ?_
        exact Int.mul_le_mul_of_nonneg_right (by omega) (by omega)
      omega
    refine HCalls.mono (f124.spec φ B m d rA rn rc (thingsL cs) (rowL (thingsL cs) j.toNat) H8 ((own4.keeps k48).row) own4.2.1 ownr.row (by omega) (by omega) rnn (fun s => by have := rcb s; omega) hw15) ?_
    rintro v H9 ⟨A', n', c', rfl, w, k89⟩
    refine ⟨_, _, _, rfl, by omega, ⟨by omega, by omega, k48.trans k89, ?_⟩, by dsimp only; omega⟩
    rw [show (j + 1).toNat = j.toNat + 1 by omega, rowL]
    exact ownC.base_le w (by omega)
  simp only [decide_eq_false_iff_not] at hj
  have ej : j.toNat = limit.toNat - 1 := by omega
  have hlast := rowL_last _ nn hc1 (L := limit.toNat) (by omega) (by rw [← hP]; omega)
  rw [← ej] at hlast ⊢
  have hcnt : (if (thingsL cs).length = 0 then 0 else max (2 * (thingsL cs).length - 2) 1) = 2 * m - 2 := by
    rw [lm]; split <;> omega
  rw [hcnt]
  have hM : Int.toNat (max (2 * (m : Int) - 2) 0) = 2 * m - 2 := by omega
  have hrc := ownr.2.1
  refine ⟨by omega, by omega, ⟨by omega, by omega⟩, ?_⟩
  simp -zeta only [hM]
  generalize rowL (thingsL cs) j.toNat = row at *
  have ownl8 := ownl.keeps k48
  refine ⟨fun i H' => 0 ≤ i ∧ i ≤ (2 * m - 2 : Nat) ∧ offA (some ⟨H3.size, 0, none⟩) H8 H' ∧ ownI H' H1.size 3 (some ⟨H3.size, 0, none⟩) n n (lensOf n (row.take i.toNat)), fun i _ => (((2 * m - 2 : Nat) : Int) - i).toNat, ⟨by omega, by omega, offA.refl .., by rw [show (0 : Int).toNat = 0 from rfl, lensOf_0]; exact ownl8⟩, ?_⟩
  rintro i _ H10 ⟨i0, i1, f10, ow10⟩
  have s10 := f10.1
  have ownr10 := ownTh_off ownr ownl8 f10
  refine ⟨fun hi => ?_, fun hi => ?_⟩
  · simp only [decide_eq_true_eq] at hi
    obtain ⟨x, b, o, hx, rfl, cx1⟩ := ownr10.row.at i0 (by omega)
    refine ⟨b, o, rfl, ⟨i0, hi⟩, ?_⟩
    refine Eq.mpr (xT cx1 _) ?_
    intro H11
    have o11 : objAt H11 H10.size zeroTh.toArray 180 := objAt_new ..
    have k11 : Keeps H10 H11 := Keeps.push ..
    clear_value H11
    refine Eq.mpr (fitsTh _ _) ?_
    refine ⟨objAt_canPut o11 (by simp [zeroTh, x.len]) (fun v hv => encTh_one x v hv), ?_⟩
    intro H12
    have o12 : objAt H12 H10.size (encTh x).toArray 180 := objAt_put o11 _ _ _ (spl_th _)
    have k12 : Keeps H10 H12 := k11.hput (Nat.le_refl _)
    clear_value H12
    have ow12 := ow10.keeps k12
    have hxn := List.mem_of_getElem? hx
    refine ⟨fun k H' => 0 ≤ k ∧ k ≤ n ∧ offA (some ⟨H3.size, 0, none⟩) H12 H' ∧ ownI H' H1.size 3 (some ⟨H3.size, 0, none⟩) n n (midL n row i.toNat k.toNat), fun k _ => (n - k).toNat, ⟨by omega, by omega, offA.refl .., by rw [show (0 : Int).toNat = 0 from rfl, midL_0]; exact ow12⟩, ?_⟩
    rintro k _ H13 ⟨k0, k1, f13, ow13⟩
    refine ⟨fun hk => ?_, fun hk => ?_⟩
    · simp only [decide_eq_true_eq] at hk
      have hkn : k.toNat < n := by omega
      obtain ⟨y, hy, cy, _⟩ := ow13.at hkn
      rw [midL_get hkn, if_neg (by omega)] at hy
      cases hy
      have ox : objAt H13 H10.size (encTh x).toArray 180 := o12.frame (f13.2 _ (objAt_lt o12) (fun e => by injection e with e; injection e with e; have := (ownC.lt ow10.own rfl).2; omega))
      have ex := (objAt_isTh ox).o (j := k.toNat) (by omega)
      rw [← Nat.mul_one k.toNat] at ex
      have b1 := colS_take_le rnn i.toNat k.toNat
      have b2 := rcb k.toNat
      have b3 := col_le (s := k.toNat) rnn hxn
      have b4 := (rnn x hxn).2 k.toNat
      obtain ⟨p1, p2⟩ := ow13.set hkn (y := colS k.toNat (row.take i.toNat) + x.o.getD k.toNat 0) (r64_of (by omega))
      refine ⟨_, _, rfl, ⟨k0, hk⟩, ?_⟩
      refine ⟨_, cy, ⟨k0, by omega⟩, ?_⟩
      rw [Nat.mul_one k.toNat] at ex
      refine ⟨_, by rw [Nat.mul_one]; exact ex, by omega, by omega, _, _, rfl, ⟨k0, hk⟩, p1, by omega, ⟨by omega, by omega, f13.put _ _, ?_⟩, by dsimp only; omega⟩
      rw [show (k + 1).toNat = k.toNat + 1 by omega, ← midL_set hx hkn]
      exact p2
    · simp only [decide_eq_false_iff_not] at hk
      rw [show k.toNat = n by omega, midL_n] at ow13
      refine ⟨by omega, ⟨by omega, by omega, (f10.keep k12).step (Or.inl rfl) f13, ?_⟩, by dsimp only; omega⟩
      rw [show (i + 1).toNat = i.toNat + 1 by omega]
      exact ow13
  · simp only [decide_eq_false_iff_not] at hi
    refine ⟨_, _, _, rfl, ?_, f10.keeps k18 fun b hb => by cases hb; exact s13⟩
    rw [show i.toNat = 2 * m - 2 by omega] at ow10
    rw [hl]; exact ow10
end Go.Proofs.Ytkkjjjgcfnhabaa.Eng
namespace Go.Proofs.Ytkkjjjgcfnhabaa.Eng
open Go Go.Proofs
/-! ### The reference's packages in memory -/
def encPk (x : Th) : List Value := Value.int .i64 x.w :: (List.map (Value.int .i64) x.o ++ [])
theorem encPk_len (x : Th) : (encPk x).length = 257 := by simp [encPk, x.len]
theorem encPk_one (x : Th) : ∀ v ∈ encPk x, v.oneCell' = true := by
  intro v hv
  rcases List.mem_cons.1 hv with e | e
  · subst e; rfl
  · rw [List.append_nil] at e
    obtain ⟨y, _, rfl⟩ := List.mem_map.1 e
    rfl
def isPk (H : Hp) (b o : Nat) (x : Th) : Prop := ∀ r v, (encPk x)[r]? = some v → cel H b (o + r) = some v
theorem isPk.mono : Mono isPk := fun _ _ _ _ _ k h r v hv => k.cel (h r v hv)
theorem isPk.w {H : Hp} {b o : Nat} {x : Th} (h : isPk H b o x) : cel H b o = some (.int .i64 x.w) := h 0 _ rfl
theorem isPk.o {H : Hp} {b o : Nat} {x : Th} (h : isPk H b o x) {j : Nat} (hj : j < 256) : cel H b (o + 1 + j) = some (.int .i64 (x.o.getD j 0)) := by
  have : (encPk x)[j + 1]? = some (.int .i64 (x.o.getD j 0)) := by
    simp only [encPk, List.getElem?_cons_succ, List.append_nil, List.getElem?_map]
    rw [List.getD_eq_getElem?_getD, List.getElem?_eq_getElem (by rw [x.len]; exact hj)]; rfl
  have := h (j + 1) _ this
  rw [show o + (j + 1) = o + 1 + j by omega] at this; exact this
/-- A thing is read. -/
theorem xPk {H : Hp} {b o : Nat} {x : Th} (h : isPk H b o x) (P : Int → List Int → Prop) :
    (∃ w : Int, cel H b o = some (.int .i64 w) ∧ ∃ of : List Int, (of.length = 256 ∧ ∀ j, j < 256 → cel H b (o + 1 + j) = some (.int .i64 (of.getD j 0))) ∧ P w of) = P x.w x.o := by
  apply propext; constructor
  · rintro ⟨w, e1, of, ⟨hl, e2⟩, p⟩
    rw [h.w] at e1; cases e1
    have : of = x.o := list256 hl x.len fun j hj => by
      have a := e2 j hj
      rw [h.o hj] at a
      injection a with a; injection a with _ a; exact a.symm
    rw [← this]; exact p
  · intro p
    exact ⟨_, h.w, _, ⟨x.len, fun j hj => h.o hj⟩, p⟩
theorem fitsPk (x : Th) (p : Prop) : fitsN (List.map (Value.int .i64) x.o ++ [] : List Value) 256 p = p := by
  apply propext; rw [fitsN_iff]; simp [x.len]
abbrev pkR := rowR isPk 257
def ownPk (H : Hp) (base : Nat) (A : Option Addr) (n c : Nat) (xs : List Th) : Prop := ownC H base 188 257 A n c (xs.flatMap encPk)
theorem ownPk.len {H : Hp} {base : Nat} {A : Option Addr} {n c : Nat} {xs : List Th} (h : ownPk H base A n c xs) : xs.length = n := by
  have h1 := h.1
  have h2 := (flatMap_get encPk 257 xs fun x _ => encPk_len x).1
  rw [h2] at h1
  exact Nat.eq_of_mul_eq_mul_right (by decide) h1
theorem ownPk.row {H : Hp} {base : Nat} {A : Option Addr} {n c : Nat} {xs : List Th} (h : ownPk H base A n c xs) : pkR H A n xs :=
  ownC.row encPk encPk_len h (by decide) fun b o x _ hc => hc
theorem ownPk.keeps {H H' : Hp} {base : Nat} {A : Option Addr} {n c : Nat} {xs : List Th} (h : ownPk H base A n c xs) (k : Keeps H H') : ownPk H' base A n c xs := ownC.keeps h k
theorem ownPk.at {H : Hp} {base b n c : Nat} {xs : List Th} (h : ownPk H base (some ⟨b, 0, none⟩) n c xs) {i : Nat} (hi : i < n) : ∃ x, xs[i]? = some x ∧ isPk H b (0 + i * 257) x := by
  obtain ⟨x, b', o', h1, h2, h3⟩ := h.row.at (i := (i : Int)) (by omega) (by omega)
  cases h2
  exact ⟨x, h1, h3⟩
theorem ownPk.set {H : Hp} {base b n c : Nat} {xs : List Th} (h : ownPk H base (some ⟨b, 0, none⟩) n c xs) {i : Nat} (hi : i < n) (y : Th) :
    canPut H b (0 + i * 257) (encPk y) ∧ ownPk (hput H b (0 + i * 257) (encPk y)) base (some ⟨b, 0, none⟩) n c (xs.set i y) := by
  have hl := h.len
  exact own_set encPk encPk_len encPk_one h (i := i) (by omega) hl y
def zeroPk : List Value := Value.int .i64 0 :: List.replicate 256 (Value.int .i64 0)
/-- A new thing: its weight is laid, then its one. -/
theorem one_newP (H : Hp) (w : Int) (i : Nat) (hi : i < 256) (H2 : Hp) (k2 : Keeps H H2) (hb : H.size < H2.size) (o2 : objAt H2 H.size (Value.int .i64 w :: List.replicate 256 (Value.int .i64 0)).toArray 188) :
    canPut H2 H.size (0 + 1 + i * 1) [.int .i64 1] ∧ isPk (hput H2 H.size (0 + 1 + i * 1) [.int .i64 1]) H.size 0 (one w i) ∧ Keeps H (hput H2 H.size (0 + 1 + i * 1) [.int .i64 1]) := by
  refine ⟨objAt_canPut o2 (by simp; omega) (by simp [Value.oneCell']), fun r v hv => ?_, k2.hput (Nat.le_refl _)⟩
  have o3 := objAt_hput o2 (0 + 1 + i * 1) [.int .i64 1]
  have hr := (List.getElem?_eq_some_iff.1 hv).1
  rw [encPk_len] at hr
  rw [objAt_cel o3, getElem?_spl _ _ _ (by simp; omega)]
  match r, hv, hr with
  | 0, hv, _ =>
    rw [if_neg (by simp)]
    simp [encPk, one] at hv ⊢
    exact hv
  | r + 1, hv, hr =>
    have e : (one w i).o = (List.range 256).map fun j => if j = i then 1 else 0 := rfl
    simp only [encPk, List.getElem?_cons_succ, List.append_nil, List.getElem?_map, e] at hv
    rw [List.getElem?_range (by omega)] at hv
    simp only [Option.map_some, Option.some.injEq] at hv
    by_cases q : r = i
    · subst q
      rw [if_pos (by simp; omega)]
      simp at hv ⊢
      rw [show r + 1 - (1 + r) = 0 by omega]; simpa using hv
    · rw [if_neg (by simp; omega)]
      rw [if_neg q] at hv
      rw [Nat.zero_add]
      simp only [List.getElem?_toArray, List.getElem?_cons_succ]
      rw [List.getElem?_replicate, if_pos (by omega)]
      rw [← hv]
theorem app182 {H : Hp} {base : Nat} {A : Option Addr} {n c : Nat} {xs : List Th} (own : ownPk H base A n c xs) (hbase : base ≤ H.size) (hn : n ≤ 1073741824) (x : Th) (d : Nat) {K : Value → Hp → Prop}
    (hK : ∀ A' c' H', ownPk H' base A' (n + 1) c' (xs ++ [x]) → offA A H H' → (A' = A ∨ ∃ q, H.size ≤ q ∧ A' = some ⟨q, 0, none⟩) → K (.slice A' (n + 1) c') H') :
    appW cx 182 182 (.slice A n c) (.slice (some ⟨H.size, 0, none⟩) 1 d) (Array.push H (.cells (Value.int .i64 x.w :: (List.map (Value.int .i64) x.o ++ [])).toArray 188 (0, 0))) K := by
  have k : Keeps H (Array.push H (.cells (encPk x).toArray 188 (0, 0))) := Keeps.push ..
  have hs : rdC (Array.push H (.cells (encPk x).toArray 188 (0, 0))) (some ⟨H.size, 0, none⟩) (1 * 257) (encPk x) := rdC_new _ _ _ _ _ (encPk_len x)
  refine app_own' (i := ⟨182, .slc 188, 1, 24, [.slice none 0 0], [.slc], [(false, [.slc])], false⟩) (e := 188) (ie := ⟨188, .st [(0, 1, false), (1, 256, true)], 257, 2056, List.replicate 257 (.int .i64 0), [.int .i64, .ints 256 .i64], [(true, [.int .i64, .ints 256 .i64])], false⟩) rfl rfl rfl rfl (ownPk.keeps own k) (m := 1) (ys := encPk x)
    (show srcC _ 257 (.slice (some ⟨H.size, 0, none⟩) 1 d) 1 _ from ⟨rfl, hs⟩) (by rw [encPk_len]; rfl) (encPk_one x) (by show (n + 1) * 2056 ≤ _; omega) (by have := k.size; omega) ?_
  intro A' c' H' w f e _
  refine hK A' c' H' (by unfold ownPk; rw [List.flatMap_append]; simpa using w) ⟨Nat.le_trans k.size f.1, fun q hq hne => by rw [f.2 q (Nat.lt_of_lt_of_le hq k.size) hne]; exact k.old q hq⟩ ?_
  rcases e with e | e
  · exact Or.inl e.1
  · exact Or.inr ⟨_, k.size, e.1⟩
theorem pk_put {H : Hp} {b : Nat} {z : Th} (o : objAt H b (encPk z).toArray 188) {i : Nat} (hi : i < 256) (v : Int) :
    canPut H b (0 + 1 + i * 1) [.int .i64 v] ∧ objAt (hput H b (0 + 1 + i * 1) [.int .i64 v]) b (encPk (z.setO i v)).toArray 188 := by
  have hl := encPk_len z
  refine ⟨objAt_canPut o (by simp [hl]; omega) (by simp [Value.oneCell']), objAt_put o _ _ _ ?_⟩
  rw [spl_one _ _ _ (by rw [hl]; omega)]
  congr 1
  rw [show 0 + 1 + i * 1 = i + 1 by omega]
  simp only [encPk, Th.setO, List.set_cons_succ, List.append_nil, List.map_set]
theorem objAt_isPk {H : Hp} {b : Nat} {z : Th} (o : objAt H b (encPk z).toArray 188) : isPk H b 0 z := fun r v hv => by
  rw [Nat.zero_add, objAt_cel o]; simpa using hv
theorem app182s {H : Hp} {base : Nat} {A : Option Addr} {n c : Nat} {xs : List Th} (own : ownPk H base A n c xs) (hbase : base ≤ H.size) {B : Option Addr} {m d : Nat} {ys : List Th} (hs : pkR H B m ys) (hn : n + m ≤ 1073741824) {K : Value → Hp → Prop}
    (hK : ∀ A' c' H', ownPk H' base A' (n + m) c' (xs ++ ys) → offA A H H' → K (.slice A' (n + m) c') H') :
    appW cx 182 182 (.slice A n c) (.slice B m d) H K := by
  have hr := rowR.rd encPk encPk_len (fun _ _ _ _ h r v hv => h r v hv) hs
  refine app_own' (i := ⟨182, .slc 188, 1, 24, [.slice none 0 0], [.slc], [(false, [.slc])], false⟩) (e := 188) (ie := ⟨188, .st [(0, 1, false), (1, 256, true)], 257, 2056, List.replicate 257 (.int .i64 0), [.int .i64, .ints 256 .i64], [(true, [.int .i64, .ints 256 .i64])], false⟩) rfl rfl rfl rfl own (m := m) (ys := ys.flatMap encPk)
    (show srcC _ 257 (.slice B m d) m _ from ⟨rfl, hr⟩) hr.1 (flat_one encPk encPk_one ys) (by show (n + m) * 2056 ≤ _; omega) hbase ?_
  intro A' c' H' w f _ _
  exact hK A' c' H' (by unfold ownPk; rw [List.flatMap_append]; exact w) f
theorem isPk.held {H : Hp} {b o : Nat} {x : Th} (h : isPk H b o x) : Go.Proofs.Ytkkjjjgcfnhabaa.Eng.held H b o (Value.int .i64 x.w :: (List.map (Value.int .i64) x.o ++ [])) := h
theorem isPk.lt {H : Hp} {b o : Nat} {x : Th} (h : isPk H b o x) : b < H.size := cel_lt h.w
theorem isPk.off {A : Option Addr} {H H' : Hp} {b o : Nat} {x : Th} (h : isPk H b o x) (f : offA A H H') (hne : A ≠ some ⟨b, 0, none⟩) : isPk H' b o x := fun r v hv => by
  have hc := h r v hv
  have := f.2 b (cel_lt hc) hne
  unfold cel at hc ⊢; rw [this]; exact hc
theorem spl_pk (z : Th) : spl zeroPk.toArray 0 (encPk z) = (encPk z).toArray := by simp [spl, zeroPk, encPk_len]

end Go.Proofs.Ytkkjjjgcfnhabaa.Eng
namespace Go.Proofs.Ytkkjjjgcfnhabaa.Eng
open Go Go.Proofs
/-! ### The reference's things -/
theorem app182t {H : Hp} {base : Nat} {A : Option Addr} {n c : Nat} {xs : List Th} (own : ownPk H base A n c xs) (hbase : base ≤ H.size) {B : Option Addr} {m d : Nat} {ys : List Th} (hs : pkR H B m ys) (hn : n + m ≤ 1073741824) {K : Value → Hp → Prop}
    (hK : ∀ A' c' H', ownPk H' base A' (n + m) c' (xs ++ ys) → offA A H H' → (A' = A ∨ ∃ q, H.size ≤ q ∧ A' = some ⟨q, 0, none⟩) → K (.slice A' (n + m) c') H') :
    appW cx 182 182 (.slice A n c) (.slice B m d) H K := by
  have hr := rowR.rd encPk encPk_len (fun _ _ _ _ h r v hv => h r v hv) hs
  refine app_own' (i := ⟨182, .slc 188, 1, 24, [.slice none 0 0], [.slc], [(false, [.slc])], false⟩) (e := 188) (ie := ⟨188, .st [(0, 1, false), (1, 256, true)], 257, 2056, List.replicate 257 (.int .i64 0), [.int .i64, .ints 256 .i64], [(true, [.int .i64, .ints 256 .i64])], false⟩) rfl rfl rfl rfl own (m := m) (ys := ys.flatMap encPk)
    (show srcC _ 257 (.slice B m d) m _ from ⟨rfl, hr⟩) hr.1 (flat_one encPk encPk_one ys) (by show (n + m) * 2056 ≤ _; omega) hbase ?_
  intro A' c' H' w f e _
  refine hK A' c' H' (by unfold ownPk; rw [List.flatMap_append]; exact w) f ?_
  rcases e with e | e
  · exact Or.inl e.1
  · exact Or.inr ⟨_, Nat.le_refl _, e.1⟩
theorem ownPk_nil (H : Hp) (base : Nat) : ownPk H base none 0 0 [] := ownC_nil ..
theorem takeW_step {α : Type} {p : α → Bool} {l : List α} {k : Nat} {x : α} (hx : l[k]? = some x) (hp : p x = true) (h : l.takeWhile p = l.take k ++ (l.drop k).takeWhile p ∧ l.dropWhile p = (l.drop k).dropWhile p) :
    l.takeWhile p = l.take (k + 1) ++ (l.drop (k + 1)).takeWhile p ∧ l.dropWhile p = (l.drop (k + 1)).dropWhile p := by
  rw [drop_at hx, List.takeWhile_cons_of_pos hp, List.dropWhile_cons_of_pos hp] at h
  refine ⟨?_, h.2⟩
  rw [h.1, List.take_add_one, hx]; simp
theorem takeW_stop {α : Type} {p : α → Bool} {l : List α} {k : Nat} (hs : l.drop k = [] ∨ ∃ x, l[k]? = some x ∧ p x = false) (h : l.takeWhile p = l.take k ++ (l.drop k).takeWhile p ∧ l.dropWhile p = (l.drop k).dropWhile p) :
    l.takeWhile p = l.take k ∧ l.dropWhile p = l.drop k := by
  rcases hs with e | ⟨x, hx, hp⟩
  · rw [e] at h ⊢; simpa using h
  · rw [drop_at hx] at h ⊢
    have q : ¬ p x = true := by rw [hp]; decide
    rw [List.takeWhile_cons_of_neg q, List.dropWhile_cons_of_neg q, List.append_nil] at h
    exact h
theorem rowR_take {α : Type} {E : Hp → Nat → Nat → α → Prop} {sz : Nat} {H : Hp} {A : Option Addr} {n : Nat} {xs : List α} (h : rowR E sz H A n xs) {k : Nat} (hk : k ≤ n) : rowR E sz H A k (xs.take k) := by
  have hl := h.1
  refine rowR.pre (xs := xs.take k) (ys := xs.drop k) (n := n) ?_ (by simp; omega)
  rw [List.take_append_drop]; exact h
theorem refU_len {cs : List Int} (h256 : cs.length ≤ 256) (h : okCounts cs = true) (d : Nat) (hd : d ≤ cs.length) : (refU cs d).length ≤ d := by
  rw [(refU_spec h256 d hd).1.length_eq]; exact (rawU_bd h d hd).2.2.2
theorem f126.spec (φ : Fx) (A : Option Addr) (n c : Nat) (cs : List Int) (H : Hp) (hr : intsR H A n cs) (h256 : n ≤ 256) (hok : okCounts cs = true) :
    HCalls cx.P φ 126 [.slice A n c] H fun r H' => ∃ A' m c', r = .slice A' m c' ∧ ownPk H' H.size A' m c' (thingsL cs) ∧ Keeps H H' := by
  apply f126.of
  unfold f126.VC
  have hl := hr.1
  refine ⟨by omega, ?_⟩
  refine ⟨fun lA ln lc i H' => -1 ≤ i ∧ i < n ∧ Keeps H H' ∧ ownPk H' H.size lA ln lc (refU cs (n - (i + 1).toNat)), fun _ _ _ i _ => (i + 1).toNat,
    ⟨by omega, by omega, Keeps.refl _, by rw [show n - ((n : Int) - 1 + 1).toNat = 0 by omega]; exact ownC_nil ..⟩, ?_⟩
  rintro lA ln lc i _ H1 ⟨h0, h1, k1, own1⟩
  have s1 := k1.size
  refine ⟨fun hi => ?_, fun hi => ?_⟩
  · simp only [decide_eq_true_eq] at hi
    obtain ⟨x, b, o, hx, rfl, cx1, _⟩ := hr.at hi h1
    have hgd : cs.getD (cs.length - (n - (i + 1).toNat + 1)) 0 = x := by
      rw [List.getD_eq_getElem?_getD, show cs.length - (n - (i + 1).toNat + 1) = i.toNat by omega, hx]; rfl
    have hx0 : 0 ≤ x := by rw [← hgd]; exact (okCounts_at hok _).1
    have hstep : refU cs (n - (i - 1 + 1).toNat) = if 0 < x then insT (one x i.toNat) (refU cs (n - (i + 1).toNat)) else refU cs (n - (i + 1).toNat) := by
      rw [show n - (i - 1 + 1).toNat = (n - (i + 1).toNat) + 1 by omega, refU, hgd, show cs.length - (n - (i + 1).toNat + 1) = i.toNat by omega]
    have hll := own1.len
    have hlb := refU_len (by omega) hok (n - (i + 1).toNat) (by omega)
    generalize hL : refU cs (n - (i + 1).toNat) = l at *
    refine ⟨fun A' n' c' H' => Keeps H H' ∧ ownPk H' H.size A' n' c' (refU cs (n - (i - 1 + 1).toNat)), ⟨b, o, rfl, ⟨hi, h1⟩, ?_⟩, fun A' n' c' _ H' h => ⟨by omega, ⟨by omega, by omega, h.1, h.2⟩, by dsimp only; omega⟩⟩
    have c1 := k1.cel cx1
    refine ⟨x, c1, fun hp => ?_, fun hp => ?_⟩
    · simp only [decide_eq_true_eq] at hp
      refine ⟨k1, ?_⟩
      rw [hstep, if_neg (by omega)]; exact own1
    · simp only [decide_eq_false_iff_not] at hp
      rw [hstep, if_pos (by omega)]
      refine ⟨b, o, rfl, ⟨hi, h1⟩, x, c1, ?_⟩
      intro H2
      have o2 : objAt H2 H1.size zeroPk.toArray 188 := objAt_new ..
      have k12 : Keeps H1 H2 := Keeps.push ..
      have s12 : H2.size = H1.size + 1 := by simp [H2]
      clear_value H2
      change canPut H2 H1.size 0 (Value.int .i64 x :: List.replicate 256 (Value.int .i64 0)) ∧ _
      refine ⟨objAt_canPut o2 (by simp [zeroPk]) (by intro v hv; rcases List.mem_cons.1 hv with e | e; (subst e; rfl); (have := List.eq_of_mem_replicate e; subst this; rfl)), ?_⟩
      intro H3
      have o3 : objAt H3 H1.size (Value.int .i64 x :: List.replicate 256 (Value.int .i64 0)).toArray 188 := objAt_put o2 0 (Value.int .i64 x :: List.replicate 256 (Value.int .i64 0)) _ (by simp [spl, zeroPk])
      have k13 : Keeps H1 H3 := k12.hput (Nat.le_refl _)
      have s13 : H3.size = H2.size := hput_size ..
      clear_value H3
      obtain ⟨p1, p2, p3⟩ := one_newP H1 x i.toNat (by omega) H3 k13 (by omega) o3
      refine ⟨⟨hi, by omega⟩, p1, ?_⟩
      intro H4
      have p2 : isPk H4 H1.size 0 (one x i.toNat) := p2
      have k14 : Keeps H1 H4 := p3
      clear_value H4
      have own4 := own1.keeps k14
      have s14 := k14.size
      refine ⟨fun k H' => 0 ≤ k ∧ k ≤ ln ∧ H' = H4 ∧ l.takeWhile (fun y => decide (y.w ≤ x)) = l.take k.toNat ++ (l.drop k.toNat).takeWhile (fun y => decide (y.w ≤ x)) ∧ l.dropWhile (fun y => decide (y.w ≤ x)) = (l.drop k.toNat).dropWhile (fun y => decide (y.w ≤ x)), fun k _ => (ln - k).toNat,
        ⟨by omega, by omega, rfl, by simp, by simp⟩, ?_⟩
      rintro k _ H5 ⟨q0, q1, rfl, hT⟩
      refine ⟨fun q H' => H' = H5 ∧ (q = true → k < ln ∧ ∃ y, l[k.toNat]? = some y ∧ decide (y.w ≤ x) = true) ∧ (q = false → l.drop k.toNat = [] ∨ ∃ y, l[k.toNat]? = some y ∧ decide (y.w ≤ x) = false), ⟨fun hk => ?_, fun hk => ?_⟩, ?_⟩
      · simp only [decide_eq_true_eq] at hk
        obtain ⟨y, by', oy, hy, rfl, cy⟩ := own4.row.at q0 hk
        refine ⟨by', oy, rfl, ⟨q0, hk⟩, y.w, cy.w, x, p2.w, rfl, fun h => ⟨hk, y, hy, h⟩, fun h => Or.inr ⟨y, hy, h⟩⟩
      · simp only [decide_eq_false_iff_not] at hk
        exact ⟨rfl, (fun h => nomatch h), fun _ => Or.inl (List.drop_eq_nil_of_le (by omega))⟩
      · rintro q _ H6 ⟨rfl, ht, hf⟩
        refine ⟨fun h => ?_, fun h => ?_⟩
        · obtain ⟨hk, y, hy, hle⟩ := ht h
          refine ⟨by omega, ⟨by omega, by omega, rfl, ?_⟩, by dsimp only; omega⟩
          rw [show (k + 1).toNat = k.toNat + 1 by omega]
          exact takeW_step hy hle hT
        · obtain ⟨e1, e2⟩ := takeW_stop (hf h) hT
          have hlc := own4.2.1
          refine ⟨⟨q0, by omega⟩, ?_⟩
          refine app182t (base := H6.size) (n := 0) (c := 0) (ownPk_nil ..) (Nat.le_refl _) (rowR_take own4.row (k := k.toNat) (by omega)) (by omega) ?_
          intro A7 c7 H7 w7 f7 e7
          rw [List.nil_append] at w7
          have k67 : Keeps H6 H7 := ⟨f7.1, fun q hq => f7.2 q hq (by simp)⟩
          have p7 := isPk.mono _ _ _ _ _ k67 p2
          have s67 := k67.size
          refine ⟨_, _, _, rfl, ?_⟩
          refine Eq.mpr (xPk p7 _) ?_
          refine Eq.mpr (fitsPk _ _) ?_
          intro H8
          refine app182 w7 s67 (by omega) (one x i.toNat) 1 ?_
          intro A9 c9 H9 w9 f9 e9
          have k69 := f9.keeps k67 fun b hb => (ownC.lt w7 hb).1
          have own9 := own4.keeps k69
          have s69 := k69.size
          refine ⟨_, _, _, rfl, ⟨q0, q1⟩, ?_⟩
          refine app182s w9 s69 (rowR_part own9.row (i := k.toNat) (by omega) hlc) (by omega) ?_
          intro A10 c10 H10 w10 f10
          refine ⟨_, _, _, rfl, (k1.trans k14).trans (f10.keeps k69 fun b hb => (ownC.lt w9 hb).1), ?_⟩
          have : insT (one x i.toNat) l = l.take k.toNat ++ [one x i.toNat] ++ l.drop k.toNat := by
            rw [insT]
            show l.takeWhile (fun y => decide (y.w ≤ x)) ++ one x i.toNat :: l.dropWhile (fun y => decide (y.w ≤ x)) = _
            rw [e1, e2]; simp
          rw [this]
          exact ownC.base_le w10 (by omega)
  · simp only [decide_eq_false_iff_not] at hi
    rw [show n - (i + 1).toNat = cs.length by omega] at own1
    exact ⟨_, _, _, rfl, own1, k1⟩
end Go.Proofs.Ytkkjjjgcfnhabaa.Eng
namespace Go.Proofs.Ytkkjjjgcfnhabaa.Eng
open Go Go.Proofs
/-! ### The reference's rows -/
theorem f127.spec (φ : Fx) (A : Option Addr) (n c : Nat) (B : Option Addr) (m d : Nat) (fs rs : List Th) (H : Hp) (hf : pkR H A n fs) (hnc : n ≤ c) (hr : pkR H B m rs) (hn : n ≤ 1048576) (hm : m ≤ 1048576) :
    HCalls cx.P φ 127 [.slice A n c, .slice B m d] H fun r H' => ∃ A' n' c', r = .slice A' n' c' ∧ ownPk H' H.size A' n' c' (mergeL fs rs) ∧ Keeps H H' := by
  apply f127.of
  unfold f127.VC
  have lf := hf.1
  have lr := hr.1
  refine ⟨fun lA ln lc i k H' => 0 ≤ i ∧ i ≤ n ∧ 0 ≤ k ∧ k ≤ m ∧ Keeps H H' ∧ ln ≤ i.toNat + k.toNat ∧ ∃ out, ownPk H' H.size lA ln lc out ∧ out ++ mergeL (fs.drop i.toNat) (rs.drop k.toNat) = mergeL fs rs, fun _ _ _ _ k _ => (m - k).toNat,
    ⟨by omega, by omega, by omega, by omega, Keeps.refl _, by omega, [], ownPk_nil .., by simp⟩, ?_⟩
  rintro lA ln lc i k _ H1 ⟨i0, i1, k0, k1, kk, hln, out, own1, hg⟩
  have s1 := kk.size
  refine ⟨fun hk => ?_, fun hk => ?_⟩
  · simp only [decide_eq_true_eq] at hk
    obtain ⟨y, b, o, hy, rfl, cy⟩ := hr.at k0 hk
    rw [drop_at hy] at hg
    have ek : (k + 1).toNat = k.toNat + 1 := by omega
    refine ⟨fun lA ln lc i H' => 0 ≤ i ∧ i ≤ n ∧ Keeps H H' ∧ ln ≤ i.toNat + k.toNat ∧ ∃ out, ownPk H' H.size lA ln lc out ∧ out ++ mergeL (fs.drop i.toNat) (y :: rs.drop (k.toNat + 1)) = mergeL fs rs, fun _ _ _ i _ => (n - i).toNat,
      ⟨i0, i1, kk, hln, out, own1, hg⟩, ?_⟩
    clear hg hln i0 i1
    rintro lA2 ln2 lc2 i2 _ H2 ⟨i0, i1, kk2, hln, out2, own2, hg⟩
    have s2 := kk2.size
    have y2 := isPk.mono _ _ _ _ _ kk2 cy
    refine ⟨fun q H' => H' = H2 ∧ (q = true → i2 < n ∧ ∃ z, fs[i2.toNat]? = some z ∧ z.w ≤ y.w) ∧ (q = false → fs.drop i2.toNat = [] ∨ ∃ z t, fs.drop i2.toNat = z :: t ∧ ¬ z.w ≤ y.w), ⟨fun hi => ?_, fun hi => ?_⟩, ?_⟩
    · simp only [decide_eq_true_eq] at hi
      obtain ⟨z, bz, oz, hz, rfl, cz⟩ := hf.at i0 hi
      have z2 := isPk.mono _ _ _ _ _ kk2 cz
      exact ⟨bz, oz, rfl, ⟨i0, hi⟩, z.w, z2.w, b, o, rfl, ⟨k0, hk⟩, y.w, y2.w, rfl, fun h => ⟨hi, z, hz, by simpa using h⟩, fun h => Or.inr ⟨z, _, drop_at hz, by simpa using h⟩⟩
    · simp only [decide_eq_false_iff_not] at hi
      exact ⟨rfl, (fun h => nomatch h), fun _ => Or.inl (List.drop_eq_nil_of_le (by omega))⟩
    · rintro q _ H3 ⟨rfl, ht, hf'⟩
      refine ⟨fun h => ?_, fun h => ?_⟩
      · obtain ⟨hi, z, hz, hle⟩ := ht h
        obtain ⟨z', bz, oz, hz', rfl, cz⟩ := hf.at i0 hi
        rw [hz] at hz'; cases hz'
        have z3 := isPk.mono _ _ _ _ _ kk2 cz
        refine ⟨bz, oz, rfl, ⟨i0, hi⟩, ?_⟩
        refine Eq.mpr (xPk z3 _) ?_
        refine Eq.mpr (fitsPk _ _) ?_
        intro H4
        refine app182 own2 s2 (by omega) z 1 ?_
        intro A' c' H5 w f e
        refine ⟨_, _, _, rfl, by omega, ⟨by omega, by omega, f.keeps kk2 fun b hb => (ownC.lt own2 hb).1, by omega, _, w, ?_⟩, by dsimp only; omega⟩
        rw [← hg, drop_at hz, mergeL_le hle, show (i2 + 1).toNat = i2.toNat + 1 by omega, List.append_assoc]; rfl
      · refine ⟨b, o, rfl, ⟨k0, hk⟩, ?_⟩
        refine Eq.mpr (xPk y2 _) ?_
        refine Eq.mpr (fitsPk _ _) ?_
        intro H4
        refine app182 own2 s2 (by omega) y 1 ?_
        intro A' c' H5 w f e
        refine ⟨_, _, _, rfl, by omega, ⟨i0, i1, by omega, by omega, f.keeps kk2 fun b hb => (ownC.lt own2 hb).1, by omega, _, w, ?_⟩, by dsimp only; omega⟩
        rw [← hg, mergeL_gt (hf' h), ek, List.append_assoc]; rfl
  · simp only [decide_eq_false_iff_not] at hk
    rw [show rs.drop k.toNat = [] from List.drop_eq_nil_of_le (by omega), mergeL] at hg
    refine ⟨⟨i0, i1⟩, ?_⟩
    refine app182s own1 s1 (rowR_part (hf.keeps isPk.mono kk) (i := i.toNat) (by omega) hnc) (by omega) ?_
    intro A' c' H3 w fo
    exact ⟨_, _, _, rfl, _, _, _, rfl, hg ▸ w, fo.keeps kk fun b hb => (ownC.lt own1 hb).1⟩
theorem held1' {H : Hp} {b o : Nat} {x : Value} (h : cel H b o = some x) : held H b o [x] := by
  intro j u hu
  match j, hu with
  | 0, hu => simp at hu; subst hu; exact h
theorem encPk_zero (w : Int) : Value.int .i64 w :: List.replicate 256 (Value.int .i64 0) = encPk ⟨w, List.replicate 256 0, by simp⟩ := by
  rw [encPk, List.append_nil, List.map_replicate]
theorem f128.spec (φ : Fx) (B : Option Addr) (m d : Nat) (rs : List Th) (H : Hp) (hr : pkR H B m rs) (hm : m ≤ 1048576) (nn : nnT rs) (hc : ∀ s, colS s rs ≤ 255) (hw : wS rs ≤ 1152921504606846976) :
    HCalls cx.P φ 128 [.slice B m d] H fun r H' => ∃ A' n' c', r = .slice A' n' c' ∧ ownPk H' H.size A' n' c' (pairL rs) ∧ Keeps H H' := by
  apply f128.of
  unfold f128.VC
  have lr := hr.1
  refine ⟨fun lA ln lc i H' => 0 ≤ i ∧ i ≤ m + 1 ∧ Keeps H H' ∧ ln ≤ i.toNat ∧ ∃ out, ownPk H' H.size lA ln lc out ∧ out ++ pairL (rs.drop i.toNat) = pairL rs, fun _ _ _ i _ => (m + 1 - i).toNat,
    ⟨by omega, by omega, Keeps.refl _, by omega, [], ownPk_nil .., by simp⟩, ?_⟩
  rintro lA ln lc i _ H1 ⟨h0, h1, kk, hln, out, own1, hg⟩
  have s1 := kk.size
  refine ⟨by omega, fun hi => ?_, fun hi => ?_⟩
  · simp only [decide_eq_true_eq] at hi
    obtain ⟨x, b, o, hx, rfl, cx1⟩ := hr.at h0 (by omega)
    obtain ⟨y, b', o', hy, e, cy1⟩ := hr.at (i := i + 1) (by omega) hi
    cases e
    have hy' : rs[i.toNat + 1]? = some y := by rw [← hy]; congr 1; omega
    have hd := drop2 hx hy'
    have hi2 : (i + 2).toNat = i.toNat + 2 := by omega
    have x1 := isPk.mono _ _ _ _ _ kk cx1
    have y1 := isPk.mono _ _ _ _ _ kk cy1
    have mx := List.mem_of_getElem? hx
    have my := List.mem_of_getElem? hy'
    have bx := nn x mx
    have by' := nn y my
    have hsplit : rs = rs.take i.toNat ++ (x :: y :: rs.drop (i.toNat + 2)) := by rw [← hd]; exact (List.take_append_drop _ _).symm
    have nt : nnT (rs.take i.toNat) := fun z hz => nn z (List.mem_of_mem_take hz)
    have nd : nnT (rs.drop (i.toNat + 2)) := fun z hz => nn z (List.mem_of_mem_drop hz)
    have hxy : ∀ s, 0 ≤ x.o.getD s 0 ∧ 0 ≤ y.o.getD s 0 ∧ x.o.getD s 0 + y.o.getD s 0 ≤ 255 := fun s => by
      have a := hc s
      rw [hsplit, colS_app, colS, colS] at a
      have := colS_nonneg s _ nt
      have := colS_nonneg s _ nd
      exact ⟨bx.2 s, by'.2 s, by omega⟩
    have hxw : 0 ≤ x.w ∧ 0 ≤ y.w ∧ x.w + y.w ≤ 1152921504606846976 := by
      have a := hw
      rw [hsplit, wS_app, wS, wS] at a
      have := wS_nonneg _ nt
      have := wS_nonneg _ nd
      exact ⟨bx.1, by'.1, by omega⟩
    refine ⟨b, o, rfl, ⟨h0, by omega⟩, x.w, x1.w, by omega, b, o, rfl, ⟨by omega, hi⟩, y.w, y1.w, by omega, ?_⟩
    intro H2
    have o2 : objAt H2 H1.size zeroPk.toArray 188 := objAt_new ..
    have k12 : Keeps H1 H2 := Keeps.push ..
    have s12 : H2.size = H1.size + 1 := by simp [H2]
    clear_value H2
    refine ⟨held1' (k12.cel y1.w), held1' (k12.cel x1.w), ?_⟩
    change canPut H2 H1.size 0 (Value.int .i64 (x.w + y.w) :: List.replicate 256 (Value.int .i64 0)) ∧ _
    refine ⟨objAt_canPut o2 (by simp [zeroPk]) (by intro v hv; rcases List.mem_cons.1 hv with e | e; (subst e; rfl); (have := List.eq_of_mem_replicate e; subst this; rfl)), ?_⟩
    intro H3
    have o3 : objAt H3 H1.size (encPk ⟨x.w + y.w, List.replicate 256 0, by simp⟩).toArray 188 := by
      rw [← encPk_zero]
      exact objAt_put o2 0 (Value.int .i64 (x.w + y.w) :: List.replicate 256 (Value.int .i64 0)) _ (by simp [spl, zeroPk])
    have k13 : Keeps H1 H3 := k12.hput (Nat.le_refl _)
    clear_value H3
    refine ⟨fun k H' => 0 ≤ k ∧ k ≤ 256 ∧ Keeps H1 H' ∧ ∃ z : Th, objAt H' H1.size (encPk z).toArray 188 ∧ z.w = x.w + y.w ∧ ∀ j, j < 256 → z.o.getD j 0 = if (j : Int) < k then x.o.getD j 0 + y.o.getD j 0 else 0, fun k _ => (256 - k).toNat,
      ⟨by omega, by omega, k13, _, o3, rfl, fun j hj => by rw [if_neg (by omega)]; show (List.replicate 256 (0 : Int)).getD j 0 = 0; rw [List.getD_eq_getElem?_getD, List.getElem?_replicate, if_pos hj]; rfl⟩, ?_⟩
    rintro k _ H4 ⟨k0, k1, k14, z, oz, hzw, hz⟩
    refine ⟨fun hk => ?_, fun hk => ?_⟩
    · simp only [decide_eq_true_eq] at hk
      have hk2 : k.toNat < 256 := by omega
      have hb := hxy k.toNat
      have ex := (isPk.mono _ _ _ _ _ k14 x1).o hk2
      have ey := (isPk.mono _ _ _ _ _ k14 y1).o hk2
      obtain ⟨q1, q2⟩ := pk_put oz hk2 (x.o.getD k.toNat 0 + y.o.getD k.toNat 0)
      refine ⟨b, o, rfl, ⟨h0, by omega⟩, ⟨k0, by omega⟩, _, by rw [Nat.mul_one k.toNat]; exact ex, by omega, b, o, rfl, ⟨by omega, hi⟩, ⟨k0, by omega⟩, _, by rw [Nat.mul_one k.toNat]; exact ey, by omega, ⟨k0, by omega⟩, q1, by omega, ⟨by omega, by omega, k14.hput (Nat.le_refl _), _, q2, hzw, fun j hj => ?_⟩, by dsimp only; omega⟩
      show (z.o.set k.toNat _).getD j 0 = _
      rw [getD_set _ _ _ _ (by rw [z.len]; exact hk2), hz j hj]
      by_cases q : j = k.toNat
      · subst q; rw [if_pos rfl, if_pos (by omega)]
      · rw [if_neg q]
        by_cases q2 : (j : Int) < k
        · rw [if_pos q2, if_pos (by omega)]
        · rw [if_neg q2, if_neg (by omega)]
    · simp only [decide_eq_false_iff_not] at hk
      have : z = bothT x y := Th.ext' hzw (list256 z.len (bothT x y).len fun j hj => by rw [hz j hj, if_pos (by omega), bothT_get])
      subst this
      refine Eq.mpr (xPk (objAt_isPk oz) _) ?_
      refine Eq.mpr (fitsPk _ _) ?_
      intro H6
      have k04 := kk.trans k14
      have s04 := k04.size
      refine app182 (own1.keeps k14) s04 (by omega) (bothT x y) 1 ?_
      intro A' c' H7 w f e
      refine ⟨_, _, _, rfl, by omega, ⟨by omega, by omega, f.keeps k04 fun b hb => (ownC.lt own1 hb).1, by omega, _, w, ?_⟩, by dsimp only; omega⟩
      rw [← hg, hd, pairL, hi2, List.append_assoc]; rfl
  · simp only [decide_eq_false_iff_not] at hi
    have hp : pairL (rs.drop i.toNat) = [] := by
      have : (rs.drop i.toNat).length ≤ 1 := by simp; omega
      match h : rs.drop i.toNat, this with
      | [], _ => rfl
      | [_], _ => rfl
      | _ :: _ :: _, q => simp at q
    rw [hp, List.append_nil] at hg
    exact ⟨_, _, _, rfl, hg ▸ own1, kk⟩
end Go.Proofs.Ytkkjjjgcfnhabaa.Eng
namespace Go.Proofs.Ytkkjjjgcfnhabaa.Eng
open Go Go.Proofs
/-! ### The reference's Lengths -/
theorem ownPk_off {H H' : Hp} {base b : Nat} {A : Option Addr} {n c : Nat} {xs : List Th} {n2 c2 : Nat} {ys : List Int} (h : ownPk H base A n c xs) (o : ownI H base 3 (some ⟨b, 0, none⟩) n2 c2 ys) (f : offA (some ⟨b, 0, none⟩) H H') : ownPk H' base A n c xs :=
  ownC.off h o.own (by decide) f
theorem rowL_ge (first : List Th) (h : nnT first) (hc : ∀ s, colS s first ≤ 1) : ∀ j, first.length ≤ (rowL first j).length
  | 0 => by rw [rowL]; exact Nat.le_refl _
  | j + 1 => by rw [rowL_len first h hc j]; omega
theorem f57.spec (φ : Fx) (A : Option Addr) (n c : Nat) (cs : List Int) (limit : Int) (H : Hp) (hr : intsR H A n cs) (hn : n ≤ 140737488355328) :
    HCalls cx.P φ 57 [.slice A n c, .int .i64 limit] H fun r H' => ∃ A' n' c', r = .tuple #[.slice A' n' c', .int .i64 (lenRes cs limit).2] ∧ ownI H' H.size 3 A' n' c' (lenRes cs limit).1 ∧ Keeps H H' := by
  apply f57.of
  unfold f57.VC
  have hl := hr.1
  refine ⟨fun h => ?_, fun h => ?_⟩
  · simp only [decide_eq_true_eq] at h
    have e : lenRes cs limit = ([], 2) := by unfold lenRes; rw [if_pos (by omega)]
    rw [e]
    exact ⟨_, _, _, rfl, ownI_nil .., Keeps.refl _⟩
  simp only [decide_eq_false_iff_not] at h
  have h256 : cs.length ≤ 256 := by omega
  refine ⟨fun q H' => H' = H ∧ (q = true ↔ (okCounts cs = false ∨ limit < 1 ∨ 15 < limit)), ⟨fun h1 => ⟨rfl, ?_⟩, fun h1 => ⟨fun h2 => ⟨rfl, ?_⟩, fun h2 => ?_⟩⟩, ?_⟩
  · simp only [decide_eq_true_eq] at h1; simp [h1]
  · simp only [decide_eq_true_eq] at h2; simp [h2]
  · simp only [decide_eq_false_iff_not] at h1 h2
    refine HCalls.mono (f125.spec φ A n c cs H hr hn) ?_
    rintro v H0 ⟨rfl, rfl⟩
    refine ⟨_, rfl, rfl, ?_⟩
    cases hok : okCounts cs <;> simp
    omega
  rintro q _ H1 ⟨rfl, hq⟩
  refine ⟨fun h => ?_, fun h => ?_⟩
  · rw [lenRes_bad (by omega) (hq.1 h)]
    exact ⟨_, _, _, rfl, ownI_nil .., Keeps.refl _⟩
  have hq' : ¬ (okCounts cs = false ∨ limit < 1 ∨ 15 < limit) := fun g => by have := hq.2 g; rw [h] at this; cases this
  have hok : okCounts cs = true := by
    cases hc : okCounts cs
    · exact absurd (Or.inl hc) hq'
    · rfl
  have hl1 : ¬ limit < 1 := fun g => hq' (Or.inr (Or.inl g))
  have hl2 : ¬ 15 < limit := fun g => hq' (Or.inr (Or.inr g))
  clear hq hq'
  rw [lenRes_ok (by omega) hok hl1 hl2]
  obtain ⟨pe, pb⟩ := pow_lim hl1 hl2
  obtain ⟨nn, hc1, hw, hlen⟩ := things_bd hok h256
  refine HCalls.mono (f126.spec φ A n c cs H1 hr (by omega) hok) ?_
  rintro v H3 ⟨B, m, d, rfl, own3, k13⟩
  have lm := own3.len
  rw [pe]
  obtain ⟨P, hP⟩ : ∃ P, P = 2 ^ limit.toNat := ⟨_, rfl⟩
  rw [← hP] at pb ⊢
  refine ⟨_, _, _, rfl, by omega, by omega, fun h => ?_, fun h => ?_⟩
  · simp only [decide_eq_true_eq] at h
    rw [if_pos (by omega)]
    exact ⟨_, _, _, rfl, ownI_nil .., k13⟩
  simp only [decide_eq_false_iff_not] at h
  rw [if_neg (by omega)]
  refine ⟨by omega, ?_⟩
  have hN : Int.toNat (n : Int) = n := by omega
  simp -zeta only [hN]
  intro H4
  have ownl : ownI H4 H3.size 3 (some ⟨H3.size, 0, none⟩) n n (List.replicate n 0) := ownI_new ..
  have k34 : Keeps H3 H4 := Keeps.push ..
  clear_value H4
  have s13 := k13.size
  have ownl := ownl.base_le s13
  have k14 := k13.trans k34
  have own4 := own3.keeps k34
  refine ⟨fun h1 => ?_, fun h1 => ?_⟩
  · simp only [decide_eq_true_eq] at h1
    rw [if_pos (by omega), hl, lensOf_0]
    exact ⟨_, _, _, rfl, ownl, k14⟩
  simp only [decide_eq_false_iff_not] at h1
  refine ⟨fun rA rn rc j H' => 1 ≤ j ∧ j ≤ limit ∧ Keeps H4 H' ∧ ownPk H' H1.size rA rn rc (rowL (thingsL cs) (j.toNat - 1)), fun _ _ _ j _ => (limit - j).toNat, ⟨by omega, by omega, Keeps.refl _, own4⟩, ?_⟩
  rintro rA rn rc j _ H8 ⟨j0, j1, k48, ownr⟩
  have lr := ownr.len
  have s48 := k48.size
  have s14 := k14.size
  have k18 := k14.trans k48
  obtain ⟨rnn, rcb, rwb⟩ := rowL_bd nn hc1 (j.toNat - 1)
  have rlb := (rowL_enough _ nn hc1 (j.toNat - 1)).1
  have rge := rowL_ge _ nn hc1 (j.toNat - 1)
  refine ⟨fun hj => ?_, fun hj => ?_⟩
  · simp only [decide_eq_true_eq] at hj
    have hw15 : wS (rowL (thingsL cs) (j.toNat - 1)) ≤ 1152921504606846976 := by
      have : (((j.toNat - 1 : Nat) : Int) + 1) * wS (thingsL cs) ≤ 16 * 281474976710656 := by
        refine Int.le_trans (Int.mul_le_mul_of_nonneg_left hw (by omega)) ?_
        exact Int.mul_le_mul_of_nonneg_right (by omega) (by omega)
      omega
    refine HCalls.mono (f128.spec φ rA rn rc (rowL (thingsL cs) (j.toNat - 1)) H8 ownr.row (by omega) rnn (fun s => by have := rcb s; omega) hw15) ?_
    rintro v H9 ⟨A', n', c', rfl, w, k89⟩
    refine ⟨_, _, _, rfl, ?_⟩
    have lp := w.len
    have pl := (pairL_bd _ rnn).2.2
    refine HCalls.mono (f127.spec φ B m d A' n' c' (thingsL cs) _ H9 (((own4.keeps k48).keeps k89).row) own4.2.1 w.row (by omega) (by omega)) ?_
    rintro v H10 ⟨A2, n2, c2, rfl, w2, k910⟩
    have s89 := k89.size
    refine ⟨_, _, _, rfl, by omega, ⟨by omega, by omega, (k48.trans k89).trans k910, ?_⟩, by dsimp only; omega⟩
    rw [show (j + 1).toNat - 1 = (j.toNat - 1) + 1 by omega, rowL]
    exact ownC.base_le w2 (by omega)
  simp only [decide_eq_false_iff_not] at hj
  have ej : j.toNat - 1 = limit.toNat - 1 := by omega
  have hlast := rowL_last _ nn hc1 (L := limit.toNat) (by omega) (by rw [← hP]; omega)
  rw [← ej] at hlast ⊢
  have hcnt : (if (thingsL cs).length = 0 then 0 else max (2 * (thingsL cs).length - 2) 1) = max (2 * m - 2) 1 := by
    rw [lm]; split <;> omega
  rw [hcnt]
  have hM : max (2 * (m : Int) - 2) 1 = ((max (2 * m - 2) 1 : Nat) : Int) := by omega
  have hMr : max (2 * m - 2) 1 ≤ rn := by omega
  refine ⟨by omega, by omega, ?_⟩
  simp -zeta only [hM]
  generalize max (2 * m - 2) 1 = M at *
  generalize rowL (thingsL cs) (j.toNat - 1) = row at *
  have ownl8 := ownl.keeps k48
  refine ⟨fun i H' => 0 ≤ i ∧ i ≤ (M : Nat) ∧ offA (some ⟨H3.size, 0, none⟩) H8 H' ∧ ownI H' H1.size 3 (some ⟨H3.size, 0, none⟩) n n (lensOf n (row.take i.toNat)), fun i _ => ((M : Int) - i).toNat, ⟨by omega, by omega, offA.refl .., by rw [show (0 : Int).toNat = 0 from rfl, lensOf_0]; exact ownl8⟩, ?_⟩
  rintro i _ H10 ⟨i0, i1, f10, ow10⟩
  have ownr10 := ownPk_off ownr ownl8 f10
  refine ⟨fun hi => ?_, fun hi => ?_⟩
  · simp only [decide_eq_true_eq] at hi
    obtain ⟨x, b, o, hx, rfl, cx1⟩ := ownr10.row.at i0 (by omega)
    have hxn := List.mem_of_getElem? hx
    refine ⟨fun k H' => 0 ≤ k ∧ k ≤ n ∧ offA (some ⟨H3.size, 0, none⟩) H10 H' ∧ ownI H' H1.size 3 (some ⟨H3.size, 0, none⟩) n n (midL n row i.toNat k.toNat), fun k _ => (n - k).toNat, ⟨by omega, by omega, offA.refl .., by rw [show (0 : Int).toNat = 0 from rfl, midL_0]; exact ow10⟩, ?_⟩
    rintro k _ H13 ⟨k0, k1, f13, ow13⟩
    refine ⟨fun hk => ?_, fun hk => ?_⟩
    · simp only [decide_eq_true_eq] at hk
      have hkn : k.toNat < n := by omega
      obtain ⟨y, hy, cy, _⟩ := ow13.at hkn
      rw [midL_get hkn, if_neg (by omega)] at hy
      cases hy
      obtain ⟨x', b', o', hx', e, cx2⟩ := (ownPk_off ownr10 ow10 f13).row.at i0 (by omega)
      cases e
      rw [hx] at hx'; cases hx'
      have ex := cx2.o (j := k.toNat) (by omega)
      have b1 := colS_take_le rnn i.toNat k.toNat
      have b2 := rcb k.toNat
      have b3 := col_le (s := k.toNat) rnn hxn
      have b4 := (rnn x hxn).2 k.toNat
      obtain ⟨p1, p2⟩ := ow13.set hkn (y := colS k.toNat (row.take i.toNat) + x.o.getD k.toNat 0) (r64_of (by omega))
      refine ⟨_, _, rfl, ⟨k0, hk⟩, _, cy, b, o, rfl, ⟨i0, by omega⟩, ⟨k0, by omega⟩, _, by rw [Nat.mul_one k.toNat]; exact ex, by omega, _, _, rfl, ⟨k0, hk⟩, p1, by omega, ⟨by omega, by omega, f13.put _ _, ?_⟩, by dsimp only; omega⟩
      rw [show (k + 1).toNat = k.toNat + 1 by omega, ← midL_set hx hkn]
      exact p2
    · simp only [decide_eq_false_iff_not] at hk
      rw [show k.toNat = n by omega, midL_n] at ow13
      refine ⟨by omega, ⟨by omega, by omega, f10.step (Or.inl rfl) f13, ?_⟩, by dsimp only; omega⟩
      rw [show (i + 1).toNat = i.toNat + 1 by omega]
      exact ow13
  · simp only [decide_eq_false_iff_not] at hi
    refine ⟨_, _, _, rfl, ?_, f10.keeps k18 fun b hb => by cases hb; exact s13⟩
    rw [show i.toNat = M by omega] at ow10
    rw [hl]; exact ow10
end Go.Proofs.Ytkkjjjgcfnhabaa.Eng
namespace Go.Proofs.Ytkkjjjgcfnhabaa.Eng
open Go Go.Proofs
/-! ### The harness of the counts -/
theorem app95 {H : Hp} {base : Nat} {A : Option Addr} {n c : Nat} {xs : List Int} (own : ownI H base 3 A n c xs) (hbase : base ≤ H.size) (hn : n ≤ 17592186044415) {y : Int} (hy : r64 y) (d : Nat) {K : Value → Hp → Prop}
    (hK : ∀ A' c' H', ownI H' base 3 A' (n + 1) c' (xs ++ [y]) → offA A H H' → (A' = A ∨ ∃ q, H.size ≤ q ∧ A' = some ⟨q, 0, none⟩) → K (.slice A' (n + 1) c') H') :
    appW cx 95 95 (.slice A n c) (.slice (some ⟨H.size, 0, none⟩) 1 d) (Array.push H (.cells #[.int .i64 y] 3 (0, 0))) K := by
  have k : Keeps H (Array.push H (.cells #[.int .i64 y] 3 (0, 0))) := Keeps.push ..
  have hs : rdC (Array.push H (.cells #[.int .i64 y] 3 (0, 0))) (some ⟨H.size, 0, none⟩) (1 * 1) [Value.int .i64 y] := rdC_new H [Value.int .i64 y] 3 (0, 0) _ rfl
  refine app_own' (i := ⟨95, .slc 3, 1, 24, [.slice none 0 0], [.slc], [(false, [.slc])], false⟩) (e := 3) (ie := ⟨3, .int .i64, 1, 8, [.int .i64 0], [.int .i64], [(false, [.int .i64])], false⟩) rfl rfl rfl rfl (own.own.keeps k) (m := 1) (ys := [Value.int .i64 y])
    (show srcC _ 1 (.slice (some ⟨H.size, 0, none⟩) 1 d) 1 _ from ⟨rfl, hs⟩) rfl (by simp [Value.oneCell']) (by show (n + 1) * 8 ≤ _; omega) (by have := k.size; omega) ?_
  intro A' c' H' w f e _
  refine hK A' c' H' ⟨by rw [List.flatMap_append]; exact w, fun x hx => ?_⟩ ⟨Nat.le_trans k.size f.1, fun q hq hne => by rw [f.2 q (Nat.lt_of_lt_of_le hq k.size) hne]; exact k.old q hq⟩ ?_
  · rcases List.mem_append.1 hx with q | q
    · exact own.rng x q
    · simp at q; subst q; exact hy
  · rcases e with e | e
    · exact Or.inl e.1
    · exact Or.inr ⟨_, k.size, e.1⟩
theorem ownI.pre {H : Hp} {base n m c : Nat} {t : TypeId} {A : Option Addr} {xs ys : List Int} (h : ownI H base t A m c (xs ++ ys)) (hx : xs.length = n) : ownI H base t A n c xs := by
  have hl := h.len
  simp at hl
  obtain ⟨⟨_, hmc, ho⟩, hr⟩ := h
  refine ⟨⟨by rw [flat_encI]; simp [hx], by omega, ?_⟩, fun x q => hr x (List.mem_append_left _ q)⟩
  rcases ho with ho | ⟨b, cs, h1, h2, h3, h4, h5⟩
  · exact Or.inl ho
  · refine Or.inr ⟨b, cs, h1, h2, h3, h4, ?_⟩
    rw [flat_encI] at h5 ⊢
    have := congrArg (List.take n) h5
    have e3 : (xs.map (Value.int .i64)).take n = xs.map (Value.int .i64) := List.take_of_length_le (by simp [hx])
    rw [List.take_take, List.map_append, List.take_append_of_le_length (by simp [hx]), e3, show min n (m * 1) = n by omega] at this
    rw [Nat.mul_one]; exact this
theorem f55.spec (φ : Fx) (A : Option Addr) (n c : Nat) (xs : List Int) (H : Hp) (hr : intsR H A n xs) (hn : n ≤ 17592186044352) :
    HCalls cx.P φ 55 [.slice A n c] H fun r H' => r = .slice (some ⟨H.size, 0, none⟩) (n + 64) (n + 64) ∧ ownI H' H.size 2 (some ⟨H.size, 0, none⟩) (n + 64) (n + 64) (xs ++ List.replicate 64 (-77)) ∧ Keeps H H' := by
  apply f55.of
  unfold f55.VC
  have hl := hr.1
  have hN : Int.toNat (((n : Nat) : Int) + 64) = n + 64 := by omega
  simp -zeta only [hN]
  refine ⟨by omega, by omega, ?_⟩
  intro H1
  have own1 : ownI H1 H.size 2 (some ⟨H.size, 0, none⟩) (n + 64) (n + 64) (List.replicate (n + 64) 0) := ownI_new ..
  have k1 : Keeps H H1 := Keeps.push ..
  clear_value H1
  refine ⟨fun i H' => 0 ≤ i ∧ i ≤ n + 64 ∧ Keeps H H' ∧ ownI H' H.size 2 (some ⟨H.size, 0, none⟩) (n + 64) (n + 64) ((xs ++ List.replicate 64 (-77)).take i.toNat ++ List.replicate (n + 64 - i.toNat) 0), fun i _ => (n + 64 - i).toNat, ⟨by omega, by omega, k1, by simpa using own1⟩, ?_⟩
  rintro i _ H2 ⟨h0, h1, k2, own2⟩
  refine ⟨fun hi => ?_, fun hi => ?_⟩
  · simp only [decide_eq_true_eq] at hi
    have setE : ∀ v : Int, ((xs ++ List.replicate 64 (-77)).take i.toNat ++ List.replicate (n + 64 - i.toNat) (0 : Int)).set i.toNat v = (xs ++ List.replicate 64 (-77)).take i.toNat ++ v :: List.replicate (n + 64 - (i.toNat + 1)) 0 := by
      intro v
      rw [List.set_append_right _ _ (by simp; omega)]
      have : i.toNat - ((xs ++ List.replicate 64 (-77)).take i.toNat).length = 0 := by simp; omega
      rw [this, show n + 64 - i.toNat = (n + 64 - (i.toNat + 1)) + 1 by omega, List.replicate_succ]
      rfl
    obtain ⟨p1, p2⟩ := own2.set (i := i.toNat) (by omega) (y := -77) ⟨by omega, by omega⟩
    refine ⟨_, _, rfl, ⟨h0, by omega⟩, p1, ?_⟩
    intro H3
    have k3 : Keeps H H3 := k2.hput (Nat.le_refl _)
    have p2 : ownI H3 H.size 2 (some ⟨H.size, 0, none⟩) (n + 64) (n + 64) (((xs ++ List.replicate 64 (-77)).take i.toNat ++ List.replicate (n + 64 - i.toNat) (0 : Int)).set i.toNat (-77)) := p2
    clear_value H3
    have nextE : ∀ (v : Int) (G : Hp), (xs ++ List.replicate 64 (-77))[i.toNat]? = some v → ownI G H.size 2 (some ⟨H.size, 0, none⟩) (n + 64) (n + 64) (((xs ++ List.replicate 64 (-77)).take i.toNat ++ List.replicate (n + 64 - i.toNat) (0 : Int)).set i.toNat v) →
        ownI G H.size 2 (some ⟨H.size, 0, none⟩) (n + 64) (n + 64) ((xs ++ List.replicate 64 (-77)).take (i + 1).toNat ++ List.replicate (n + 64 - (i + 1).toNat) 0) := by
      intro v G hv hw
      have e : (i + 1).toNat = i.toNat + 1 := by omega
      rw [setE] at hw
      rw [e, List.take_add_one, hv]
      simpa using hw
    refine ⟨fun H' => Keeps H H' ∧ ownI H' H.size 2 (some ⟨H.size, 0, none⟩) (n + 64) (n + 64) ((xs ++ List.replicate 64 (-77)).take (i + 1).toNat ++ List.replicate (n + 64 - (i + 1).toNat) 0), ⟨fun hj => ?_, fun hj => ?_⟩, fun _ H5 h5 => ⟨by omega, ⟨by omega, by omega, h5.1, h5.2⟩, by dsimp only; omega⟩⟩
    · simp only [decide_eq_true_eq] at hj
      obtain ⟨x, b, o, hx, rfl, cx1, hu⟩ := hr.at h0 hj
      obtain ⟨r1, r2⟩ := p2.set (i := i.toNat) (by omega) (y := x) ⟨hu.1, hu.2⟩
      rw [List.set_set] at r2
      exact ⟨_, _, rfl, ⟨h0, hj⟩, _, k3.cel cx1, _, _, rfl, ⟨h0, by omega⟩, r1, k3.hput (Nat.le_refl _), nextE x _ (by rw [List.getElem?_append_left (by omega)]; exact hx) r2⟩
    · simp only [decide_eq_false_iff_not] at hj
      exact ⟨k3, nextE (-77) _ (by rw [List.getElem?_append_right (by omega), List.getElem?_replicate, if_pos (by omega)]) p2⟩
  · simp only [decide_eq_false_iff_not] at hi
    have : i.toNat = n + 64 := by omega
    rw [this, List.take_of_length_le (by simp; omega), Nat.sub_self] at own2
    exact ⟨trivial, by simpa using own2, k2⟩
theorem f58.spec (φ : Fx) (A : Option Addr) (n c : Nat) (B : Option Addr) (m d : Nat) (xs : List Int) (H : Hp) (ha : intsR H A n xs) (hb : intsR H B m xs) (hn : n ≤ 140737488355328) :
    HCalls cx.P φ 58 [.slice A n c, .slice B m d] H fun r H' => r = .bool true ∧ H' = H := by
  apply f58.of
  unfold f58.VC
  have la := ha.1
  have lb := hb.1
  refine ⟨fun h => ?_, fun h => ?_⟩
  · simp at h; omega
  clear h
  refine ⟨fun i H' => 0 ≤ i ∧ i ≤ n ∧ H' = H, fun i _ => (n - i).toNat, ⟨by omega, by omega, rfl⟩, ?_⟩
  rintro i _ H1 ⟨h0, h1, rfl⟩
  refine ⟨fun hi => ?_, fun hi => ⟨rfl, rfl⟩⟩
  simp only [decide_eq_true_eq] at hi
  obtain ⟨x, b, o, hx, rfl, cx1, _⟩ := ha.at h0 hi
  obtain ⟨y, b2, o2, hy, rfl, cy1, _⟩ := hb.at h0 (by omega)
  rw [hx] at hy; cases hy
  refine ⟨_, _, rfl, ⟨h0, hi⟩, x, cx1, _, _, rfl, ⟨h0, by omega⟩, x, cy1, fun h => ?_, fun h => ⟨by omega, ⟨by omega, by omega, rfl⟩, by dsimp only; omega⟩⟩
  simp at h
theorem f59.spec (φ : Fx) (G : Option Addr) (g d : Nat) (A : Option Addr) (n c : Nat) (xs : List Int) (H : Hp) (hg : intsR H G g (xs ++ List.replicate 64 (-77))) (hr : intsR H A n xs) (hn : n ≤ 17592186044352) :
    HCalls cx.P φ 59 [.slice G g d, .slice A n c] H fun r H' => r = .bool true ∧ Keeps H H' := by
  apply f59.of
  unfold f59.VC
  have lg := hg.1
  have lr := hr.1
  simp at lg
  refine HCalls.mono (f55.spec φ A n c xs H hr hn) ?_
  rintro v H1 ⟨rfl, own, k1⟩
  refine ⟨_, _, _, rfl, ?_⟩
  have ro := own.row
  have rg := hg.keeps isI64.mono k1
  refine ⟨fun i H' => 0 ≤ i ∧ i ≤ n + 64 ∧ H' = H1, fun i _ => (n + 64 - i).toNat, ⟨by omega, by omega, rfl⟩, ?_⟩
  rintro i _ H2 ⟨h0, h1, rfl⟩
  refine ⟨fun hi => ?_, fun hi => ?_⟩
  · simp only [decide_eq_true_eq] at hi
    obtain ⟨x, b, o, hx, rfl, cx1, _⟩ := rg.at h0 (by omega)
    obtain ⟨y, b2, o2, hy, e, cy1, _⟩ := ro.at h0 hi
    cases e
    rw [hx] at hy; cases hy
    refine ⟨_, _, rfl, ⟨h0, by omega⟩, x, cx1, _, _, rfl, ⟨h0, by omega⟩, x, cy1, fun h => ?_, fun h => ⟨by omega, ⟨by omega, by omega, rfl⟩, by dsimp only; omega⟩⟩
    simp at h
  · refine ⟨?_, k1⟩
    have : (g : Int) = ((n + 64 : Nat) : Int) := by omega
    simp [this]
/-! ### Turned round -/
def revL (xs : List Int) (i : Nat) : List Int := (List.range xs.length).map fun j => if j < i ∨ xs.length - 1 - i < j then xs.getD (xs.length - 1 - j) 0 else xs.getD j 0
theorem revL_len (xs : List Int) (i : Nat) : (revL xs i).length = xs.length := by simp [revL]
theorem revL_get {xs : List Int} {i j : Nat} (hj : j < xs.length) : (revL xs i)[j]? = some (if j < i ∨ xs.length - 1 - i < j then xs.getD (xs.length - 1 - j) 0 else xs.getD j 0) := by
  rw [revL, List.getElem?_map, List.getElem?_range hj]; rfl
theorem revL_0 (xs : List Int) : revL xs 0 = xs := by
  apply List.ext_getElem?
  intro j
  by_cases hj : j < xs.length
  · rw [revL_get hj, if_neg (by omega), List.getElem?_eq_getElem hj, List.getD_eq_getElem?_getD, List.getElem?_eq_getElem hj]; rfl
  · rw [List.getElem?_eq_none (by rw [revL_len]; omega), List.getElem?_eq_none (by omega)]
theorem revL_end {xs : List Int} {i : Nat} (h : xs.length ≤ 2 * i + 1) : revL xs i = xs.reverse := by
  apply List.ext_getElem?
  intro j
  by_cases hj : j < xs.length
  · have e : xs.getD (xs.length - 1 - j) 0 = xs[xs.length - 1 - j]'(by omega) := by rw [List.getD_eq_getElem?_getD, List.getElem?_eq_getElem (by omega)]; rfl
    rw [revL_get hj, List.getElem?_reverse hj, List.getElem?_eq_getElem (by omega), ← e]
    by_cases q : j < i ∨ xs.length - 1 - i < j
    · rw [if_pos q]
    · rw [if_neg q, show xs.length - 1 - j = j by omega]
  · rw [List.getElem?_eq_none (by rw [revL_len]; omega), List.getElem?_eq_none (by simp; omega)]
theorem revL_step {xs : List Int} {i : Nat} (h : 2 * i + 1 < xs.length) : ((revL xs i).set i (xs.getD (xs.length - 1 - i) 0)).set (xs.length - 1 - i) (xs.getD i 0) = revL xs (i + 1) := by
  apply List.ext_getElem?
  intro j
  by_cases hj : j < xs.length
  · rw [revL_get hj, List.getElem?_set, List.length_set, revL_len]
    by_cases q1 : xs.length - 1 - i = j
    · subst q1
      rw [if_pos rfl, if_pos (by omega), if_pos (by omega), show xs.length - 1 - (xs.length - 1 - i) = i by omega]
    · rw [if_neg q1, List.getElem?_set, revL_len]
      by_cases q2 : i = j
      · subst q2
        rw [if_pos rfl, if_pos (by omega), if_pos (by omega)]
      · rw [if_neg q2, revL_get hj]
        by_cases q : j < i ∨ xs.length - 1 - i < j
        · rw [if_pos q, if_pos (by omega)]
        · rw [if_neg q, if_neg (by omega)]
  · rw [List.getElem?_eq_none (by rw [List.length_set, List.length_set, revL_len]; omega), List.getElem?_eq_none (by rw [revL_len]; omega)]
theorem f60.spec (φ : Fx) {base b n c : Nat} {xs : List Int} {H : Hp} (own : ownI H base 2 (some ⟨b, 0, none⟩) n c xs) (hn : n ≤ 140737488355328) :
    HCalls cx.P φ 60 [.slice (some ⟨b, 0, none⟩) n c] H fun r H' => r = .slice (some ⟨b, 0, none⟩) n c ∧ ownI H' base 2 (some ⟨b, 0, none⟩) n c xs.reverse ∧ offA (some ⟨b, 0, none⟩) H H' := by
  apply f60.of
  unfold f60.VC
  have hl := own.len
  refine ⟨by omega, ?_⟩
  refine ⟨fun i k H' => 0 ≤ i ∧ i + k = n - 1 ∧ 2 * i ≤ n + 1 ∧ offA (some ⟨b, 0, none⟩) H H' ∧ ownI H' base 2 (some ⟨b, 0, none⟩) n c (revL xs i.toNat), fun i _ _ => (n - i).toNat,
    ⟨by omega, by omega, by omega, offA.refl .., by rw [show (0 : Int).toNat = 0 from rfl, revL_0]; exact own⟩, ?_⟩
  rintro i k _ H1 ⟨i0, hik, h2, f, ow⟩
  refine ⟨fun hi => ?_, fun hi => ?_⟩
  · simp only [decide_eq_true_eq] at hi
    have ek : k.toNat = xs.length - 1 - i.toNat := by omega
    obtain ⟨x, hx, cx1, rx⟩ := ow.at (i := i.toNat) (by omega)
    obtain ⟨y, hy, cy1, ry⟩ := ow.at (i := k.toNat) (by omega)
    rw [revL_get (by omega), if_neg (by omega)] at hx hy
    cases hx; cases hy
    obtain ⟨p1, p2⟩ := ow.set (i := i.toNat) (by omega) ry
    obtain ⟨q1, q2⟩ := p2.set (i := k.toNat) (by omega) rx
    refine ⟨_, _, rfl, ⟨i0, by omega⟩, _, cx1, _, _, rfl, ⟨by omega, by omega⟩, _, cy1, _, _, rfl, ⟨i0, by omega⟩, p1, _, _, rfl, ⟨by omega, by omega⟩, q1, by omega, by omega, ⟨by omega, by omega, by omega, (f.put _ _).put _ _, ?_⟩, by dsimp only; omega⟩
    have e5 := revL_step (xs := xs) (i := i.toNat) (by omega)
    rw [← ek] at e5
    rw [show (i + 1).toNat = i.toNat + 1 by omega, ← e5]
    exact q2
  · simp only [decide_eq_false_iff_not] at hi
    rw [revL_end (by omega)] at ow
    exact ⟨rfl, ow, f⟩
end Go.Proofs.Ytkkjjjgcfnhabaa.Eng
namespace Go.Proofs.Ytkkjjjgcfnhabaa.Eng
open Go Go.Proofs
/-! ### HuffLengths -/
theorem lenRes_len (cs : List Int) (limit : Int) : (lenRes cs limit).1.length ≤ 256 := by
  unfold lenRes
  split
  · simp
  · split
    · simp
    · split
      · simp
      · simp [lensOf]; omega
theorem f7.spec (φ : Fx) (A : Option Addr) (n c : Nat) (cs : List Int) (limit : Int) (H : Hp) (hr : intsR H A n cs) (hn : n ≤ 17592186044352) :
    HCalls cx.P φ 7 [.slice A n c, .int .i64 limit] H fun r H' => r = .bool true ∧ Keeps H H' := by
  apply f7.of
  unfold f7.VC
  have hl := hr.1
  have hN : Int.toNat (n : Int) = n := by omega
  simp -zeta only [hN]
  refine HCalls.mono (f55.spec φ A n c cs H hr hn) ?_
  rintro v H1 ⟨rfl, full1, k1⟩
  have s1 := k1.size
  have f1 := full1.pre (n := n) hl
  refine ⟨_, _, _, rfl, ⟨by omega, by omega⟩, ?_⟩
  refine HCalls.mono (f56.spec φ _ n (n + 64) cs limit H1 f1.row (by omega)) ?_
  rintro v H2 ⟨A2, n2, c2, rfl, a2, k12⟩
  have s2 := k12.size
  refine ⟨_, _, _, _, rfl, ⟨by omega, by omega⟩, ?_⟩
  refine HCalls.mono (f56.spec φ _ n (n + 64) cs limit H2 (f1.keeps k12).row (by omega)) ?_
  rintro v H3 ⟨A3, n3, c3, rfl, b3, k23⟩
  have s3 := k23.size
  refine ⟨_, _, _, _, rfl, ?_⟩
  have full3 := (full1.keeps k12).keeps k23
  have a3 := (a2.keeps k23).base_le s1
  have k03 := (k1.trans k12).trans k23
  have la := a3.len
  have lb := b3.len
  have hl256 := lenRes_len cs limit
  have ablk : ∀ q, A2 = some ⟨q, 0, none⟩ → q < H2.size := fun q hq => (ownC.lt a2.own hq).2
  have abase : ∀ q, A2 = some ⟨q, 0, none⟩ → H.size ≤ q := fun q hq => (ownC.lt a3.own hq).1
  refine ⟨fun i H' => 0 ≤ i ∧ i ≤ n2 ∧ offA A2 H3 H' ∧ ∃ ys, ownI H' H.size 3 A2 n2 c2 ys, fun i _ => (n2 - i).toNat, ⟨by omega, by omega, offA.refl .., _, a3⟩, ?_⟩
  rintro i _ H4 ⟨i0, i1, f4, ys, a4⟩
  refine ⟨fun hi => ?_, fun hi => ?_⟩
  · simp only [decide_eq_true_eq] at hi
    obtain ⟨b, rfl, _, _⟩ := ownC.some_of a4.own (by omega)
    obtain ⟨p1, p2⟩ := a4.set (i := i.toNat) (by omega) (y := -3) ⟨by omega, by omega⟩
    exact ⟨_, _, rfl, ⟨i0, hi⟩, p1, by omega, ⟨by omega, by omega, f4.put _ _, _, p2⟩, by dsimp only; omega⟩
  clear hi i0 i1
  refine ⟨fun aA an ac i H' => 0 ≤ i ∧ i ≤ 64 ∧ (an : Int) = n2 + i ∧ offA A2 H3 H' ∧ (aA = A2 ∨ ∃ q, H3.size ≤ q ∧ aA = some ⟨q, 0, none⟩) ∧ ∃ ys, ownI H' H.size 3 aA an ac ys, fun _ _ _ i _ => (64 - i).toNat, ⟨by omega, by omega, by omega, f4, Or.inl rfl, ys, a4⟩, ?_⟩
  rintro aA an ac i2 _ H6 ⟨i0, i1, han, f6, hA, zs, a6⟩
  have s6 := f6.1
  refine ⟨fun hi => ?_, fun hi => ?_⟩
  · simp only [decide_eq_true_eq] at hi
    intro H7
    refine app95 a6 (by have := k03.size; omega) (by omega) (y := -4) ⟨by omega, by omega⟩ 1 ?_
    intro A' c' H8 w f e
    refine ⟨_, _, _, rfl, by omega, ⟨by omega, by omega, by omega, f6.step hA f, ?_, _, w⟩, by dsimp only; omega⟩
    rcases e with e | ⟨q, hq, e⟩
    · rw [e]; exact hA
    · exact Or.inr ⟨q, by omega, e⟩
  simp only [decide_eq_false_iff_not] at hi
  have k06 : Keeps H H6 := f6.keeps k03 abase
  have full6 : ownI H6 H.size 2 (some ⟨H.size, 0, none⟩) (n + 64) (n + 64) (cs ++ List.replicate 64 (-77)) := ⟨ownC.off full3.own a3.own (by decide) f6, full3.rng⟩
  have b6 : ownI H6 H2.size 3 A3 n3 c3 (lenRes cs limit).1 := ⟨ownC.later f6 b3.own ablk, b3.rng⟩
  clear a6 f6 hA zs a4 f4 ys
  refine HCalls.mono (f57.spec φ A n c cs limit H6 (hr.keeps isI64.mono k06) (by omega)) ?_
  rintro v H9 ⟨A5, n5, c5, rfl, w9, k69⟩
  refine ⟨_, _, _, _, rfl, ?_⟩
  refine ⟨fun q H' => q = false ∧ Keeps H9 H', ⟨fun h => by simp at h, fun _ => ⟨fun h => by simp at h, fun _ => ?_⟩⟩, ?_⟩
  · refine HCalls.mono (f58.spec φ A3 n3 c3 A5 n5 c5 _ H9 (b6.keeps k69).row w9.row (by omega)) ?_
    rintro v H10 ⟨rfl, rfl⟩
    refine ⟨_, rfl, fun h => by simp at h, fun _ => ⟨by omega, fun h => ?_, fun _ => ?_⟩⟩
    · exfalso; simp at h; omega
    · refine HCalls.mono (f59.spec φ _ (n + 64) (n + 64) A n c cs H10 (full6.keeps k69).row (hr.keeps isI64.mono (k06.trans k69)) hn) ?_
      rintro v H11 ⟨rfl, k11⟩
      exact ⟨_, rfl, rfl, k11⟩
  rintro q _ H12 ⟨rfl, k912⟩
  refine ⟨fun h => (nomatch h), fun _ => ?_⟩
  have k612 := k69.trans k912
  have k012 := k06.trans k612
  have f12 := (full6.keeps k612).pre (n := n) hl
  have s12 := k012.size
  refine HCalls.mono (f55.spec φ A n c cs H12 (hr.keeps isI64.mono k012) hn) ?_
  rintro v H13 ⟨rfl, full13, k1213⟩
  have o13 := full13.pre (n := n) hl
  refine ⟨_, _, _, rfl, ⟨by omega, by omega⟩, ?_⟩
  refine HCalls.mono (f60.spec φ o13 (by omega)) ?_
  rintro v H14 ⟨rfl, o14, f1314⟩
  have k1214 : Keeps H12 H14 := f1314.keeps k1213 fun b hb => by cases hb; exact Nat.le_refl _
  refine ⟨_, _, _, rfl, ⟨by omega, by omega⟩, ?_⟩
  refine HCalls.mono (f60.spec φ (f12.keeps k1214) (by omega)) ?_
  rintro v H15 ⟨rfl, f15, f1415⟩
  have hlt := (ownC.lt f12.own rfl).2
  have o15 : ownI H15 H12.size 2 (some ⟨H12.size, 0, none⟩) n (n + 64) cs.reverse := ⟨ownC.later f1415 o14.own (fun q hq => by injection hq with hq; injection hq with hq; omega), o14.rng⟩
  have k015 : Keeps H H15 := f1415.keeps (k012.trans k1214) fun b hb => by cases hb; exact Nat.le_refl _
  refine ⟨_, _, _, rfl, ?_⟩
  refine HCalls.mono (f56.spec φ _ n (n + 64) cs.reverse limit H15 f15.row (by omega)) ?_
  rintro v H16 ⟨A9, n9, c9, rfl, w16, k1516⟩
  refine ⟨_, _, _, _, rfl, ?_⟩
  refine HCalls.mono (f57.spec φ _ n (n + 64) cs.reverse limit H16 (o15.keeps k1516).row (by omega)) ?_
  rintro v H17 ⟨A10, n10, c10, rfl, w17, k1617⟩
  refine ⟨_, _, _, _, rfl, ?_⟩
  have lw := w16.len
  have hl2 := lenRes_len cs.reverse limit
  refine ⟨fun q H' => q = true ∧ H' = H17, ?_, ?_⟩
  · refine HCalls.mono (f58.spec φ A9 n9 c9 A10 n10 c10 _ H17 (w16.keeps k1617).row w17.row (by omega)) ?_
    rintro v H18 ⟨rfl, rfl⟩
    exact ⟨_, rfl, fun _ => ⟨by simp, rfl⟩, fun h => (nomatch h)⟩
  · rintro q _ H19 ⟨rfl, rfl⟩
    exact ⟨rfl, (k015.trans k1516).trans k1617⟩
end Go.Proofs.Ytkkjjjgcfnhabaa.Eng
namespace Go.Proofs.Ytkkjjjgcfnhabaa.Eng
open Go Go.Proofs
theorem cells2h : Try.prog.cellsOf 2 = 1 := by kernel_rfl
theorem bytes2h : Try.prog.bytesOf 2 = 8 := by kernel_rfl
theorem arg_counts {H : Hp} {v : Value} (h : Argv Try.prog H 93 v) : ∃ A n c xs, v = .slice A n c ∧ n ≤ c ∧ c * 8 ≤ 140737488351232 ∧ intsR H A n xs := by
  obtain ⟨A, n, c, xs, e, h2, h3, h4⟩ := ok_slice (E := isI64) Try.underlying93 h.ok (by rw [cells2h]; decide) fun b o vs hl hc ho => by
    obtain ⟨x, e, r⟩ := okc_int Try.underlying2 ho
    subst e
    exact ⟨x, hc 0 _ rfl, r⟩
  rw [arg_scalar h (by rw [Try.underlying93]; rfl)] at e
  rw [cells2h] at h4
  rw [bytes2h] at h3
  simp at e; exact ⟨A, n, c, xs, e, h2, h3, h4⟩
end Go.Proofs.Ytkkjjjgcfnhabaa.Eng
namespace Go.Proofs.Ytkkjjjgcfnhabaa.huffLengths
open Go Go.Proofs.Ytkkjjjgcfnhabaa.Eng
theorem walk (φ : Fx) (H : Hp) (v0 v1 : Value) (h0 : Argv Try.prog H 93 v0) (h1 : Argv Try.prog H 3 v1) :
    HCalls Try.prog φ 7 [v0, v1] H fun v H' => v = .bool true ∧ Keeps H H' := by
  obtain ⟨A, n, c, xs, rfl, _, _, hr⟩ := arg_counts h0
  obtain ⟨l, rfl, _, _⟩ := arg_i64 h1
  exact f7.spec φ A n c xs l H hr (by omega)
end Go.Proofs.Ytkkjjjgcfnhabaa.huffLengths
