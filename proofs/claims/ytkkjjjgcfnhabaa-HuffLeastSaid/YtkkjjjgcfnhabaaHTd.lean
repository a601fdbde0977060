/- Part HTd of the proof of the claim in this folder: a way to walk code, and the contracts of the functions that the law reaches. Conditions: none. -/
import Derived.Test.YtkkjjjgcfnhabaaHTc
import Derived.Test.YtkkjjjgcfnhabaaHTb
set_option linter.unusedVariables false
set_option linter.unusedSimpArgs false
set_option maxRecDepth 10000
set_option maxRecDepth 100000
namespace Go.Proofs.Ytkkjjjgcfnhabaa.Eng
open Go Go.Proofs
theorem zeroTh_len : zeroTh.length = 257 := by simp [zeroTh]
theorem ownTh_new (H : Hp) (m : Nat) : ownTh (Array.push H (.cells (zrow zeroTh m).toArray 180 (0, 0))) H.size (some ⟨H.size, 0, none⟩) 0 m [] :=
  ⟨by simp, by omega, Or.inr ⟨H.size, _, Nat.le_refl _, rfl, objAt_new .., by simp [zrow_length, zeroTh_len], by simp⟩⟩
theorem isTh.held {H : Hp} {b o : Nat} {x : Th} (h : isTh H b o x) : Go.Proofs.Ytkkjjjgcfnhabaa.Eng.held H b o (Value.int .i64 x.w :: (List.map (Value.int .u8) x.o ++ [])) := h
theorem isTh.lt {H : Hp} {b o : Nat} {x : Th} (h : isTh H b o x) : b < H.size := cel_lt h.w
theorem isTh.off {A : Option Addr} {H H' : Hp} {b o : Nat} {x : Th} (h : isTh H b o x) (f : offA A H H') (hne : A ≠ some ⟨b, 0, none⟩) : isTh H' b o x := fun r v hv => by
  have hc := h r v hv
  have := f.2 b (cel_lt hc) hne
  unfold cel at hc ⊢; rw [this]; exact hc
theorem spl_th (z : Th) : spl zeroTh.toArray 0 (encTh z) = (encTh z).toArray := by simp [spl, zeroTh, encTh_len]
theorem f124.spec (φ : Fx) (A : Option Addr) (n c : Nat) (B : Option Addr) (m d : Nat) (fs rs : List Th) (H : Hp) (hf : thR H A n fs) (hnc : n ≤ c) (hr : thR H B m rs) (hn : n ≤ 1048576) (hm : m ≤ 1048576)
    (nn : nnT rs) (hc : ∀ s, colS s rs ≤ 255) (hw : wS rs ≤ 1152921504606846976) :
    HCalls cx.P φ 124 [.slice A n c, .slice B m d] H fun r H' => ∃ A' n' c', r = .slice A' n' c' ∧ ownTh H' H.size A' n' c' (mergeL fs (pairL rs)) ∧ Keeps H H' := by
  apply f124.of
  unfold f124.VC
  have lf := hf.1
  have lr := hr.1
  refine ⟨by omega, by omega, by omega, ?_⟩
  intro H1
  have own1 : ownTh H1 H.size (some ⟨H.size, 0, none⟩) 0 (Int.toNat ((n : Int) + (m : Int) / 2)) [] := ownTh_new ..
  have k1 : Keeps H H1 := Keeps.push ..
  clear_value H1
  refine ⟨fun fA fn fc oA on oc i H' => 0 ≤ i ∧ i ≤ m + 1 ∧ Keeps H H' ∧ fn ≤ fc ∧ on + fn ≤ n + i.toNat ∧ fn ≤ n ∧ ∃ f out, thR H fA fn f ∧ ownTh H' H.size oA on oc out ∧ out ++ mergeL f (pairL (rs.drop i.toNat)) = mergeL fs (pairL rs), fun _ _ _ _ _ _ i _ => (m + 1 - i).toNat,
    ⟨by omega, by omega, k1, hnc, by simp, Nat.le_refl _, fs, [], hf, own1, by simp⟩, ?_⟩
  rintro fA fn fc oA on oc i _ H2 ⟨h0, h1, k2, hfc, hon, hfn, f, out, tf, own2, hg⟩
  have s2 := k2.size
  refine ⟨by omega, fun hi => ?_, fun hi => ?_⟩
  · simp only [decide_eq_true_eq] at hi
    obtain ⟨x, b, o, hx, rfl, cx1⟩ := hr.at h0 (by omega)
    obtain ⟨y, b', o', hy, e, cy1⟩ := hr.at (i := i + 1) (by omega) hi
    cases e
    have hy' : rs[i.toNat + 1]? = some y := by rw [← hy]; congr 1; omega
    have hd := drop2 hx hy'
    have hi2 : (i + 2).toNat = i.toNat + 2 := by omega
    have x2 := isTh.mono _ _ _ _ _ k2 cx1
    have y2 := isTh.mono _ _ _ _ _ k2 cy1
    have mx := List.mem_of_getElem? hx
    have my := List.mem_of_getElem? hy'
    have bx := nn x mx
    have by' := nn y my
    have hsplit : rs = rs.take i.toNat ++ (x :: y :: rs.drop (i.toNat + 2)) := by rw [← hd]; exact (List.take_append_drop _ _).symm
    have nt : nnT (rs.take i.toNat) := fun z hz => nn z (List.mem_of_mem_take hz)
    have nd : nnT (rs.drop (i.toNat + 2)) := fun z hz => nn z (List.mem_of_mem_drop hz)
    have hxy : ∀ s, 0 ≤ x.o.getD s 0 ∧ 0 ≤ y.o.getD s 0 ∧ x.o.getD s 0 + y.o.getD s 0 ≤ 255 := fun s => by
      have a := hc s
      rw [hsplit, colS_app, colS, colS] at a
      have := colS_nonneg s _ nt
      have := colS_nonneg s _ nd
      exact ⟨bx.2 s, by'.2 s, by omega⟩
    have hxw : 0 ≤ x.w ∧ 0 ≤ y.w ∧ x.w + y.w ≤ 1152921504606846976 := by
      have a := hw
      rw [hsplit, wS_app, wS, wS] at a
      have := wS_nonneg _ nt
      have := wS_nonneg _ nd
      exact ⟨bx.1, by'.1, by omega⟩
    refine ⟨fun pb po H' => isTh H' pb po (bothT x y) ∧ H2.size ≤ pb ∧ Keeps H2 H', ?_, ?_⟩
    · refine ⟨b, o, rfl, ⟨h0, by omega⟩, ?_⟩
      refine Eq.mpr (xT x2 _) ?_
      refine ⟨by omega, b, o, rfl, ⟨by omega, hi⟩, ?_⟩
      refine Eq.mpr (xT y2 _) ?_
      refine ⟨HCalls.mono (f172.spec φ x y H2 hxy hxw) ?_, ?_⟩
      · rintro v H3 ⟨rfl, k23⟩
        refine ⟨(bothT x y).w, (bothT x y).o, (bothT x y).len, rfl, ?_⟩
        intro H4
        have o4 : objAt H4 H3.size zeroTh.toArray 180 := objAt_new ..
        have k34 : Keeps H3 H4 := Keeps.push ..
        clear_value H4
        refine Eq.mpr (fitsTh _ _) ?_
        refine ⟨objAt_canPut o4 (by simp [zeroTh, (bothT x y).len]) (fun v hv => encTh_one (bothT x y) v hv), ?_⟩
        intro H5
        have o5 : objAt H5 H3.size (encTh (bothT x y)).toArray 180 := objAt_put o4 _ _ _ (spl_th _)
        have := k23.size
        exact ⟨objAt_isTh o5, this, (k23.trans k34).hput this⟩
      · intro H6
        have o6 : objAt H6 H2.size zeroTh.toArray 180 := objAt_new ..
        have k26 : Keeps H2 H6 := Keeps.push ..
        clear_value H6
        refine ⟨(isTh.mono _ _ _ _ _ k26 y2).held, (isTh.mono _ _ _ _ _ k26 x2).held, HCalls.mono (f172.spec φ x y H6 hxy hxw) ?_⟩
        rintro v H7 ⟨rfl, k67⟩
        refine ⟨(bothT x y).w, (bothT x y).o, (bothT x y).len, rfl, ?_⟩
        refine Eq.mpr (fitsTh _ _) ?_
        have o7 := k67.obj o6
        refine ⟨objAt_canPut o7 (by simp [zeroTh, (bothT x y).len]) (fun v hv => encTh_one (bothT x y) v hv), ?_⟩
        intro H8
        have o8 : objAt H8 H2.size (encTh (bothT x y)).toArray 180 := objAt_put o7 _ _ _ (spl_th _)
        exact ⟨objAt_isTh o8, Nat.le_refl _, (k26.trans k67).hput (Nat.le_refl _)⟩
    · rintro pb po _ H9 ⟨p9, hpb, k29⟩
      have own9 := own2.keeps k29
      have k9 := k2.trans k29
      rw [hd, pairL] at hg
      refine ⟨fun fA fn fc oA on oc H' => Keeps H H' ∧ fn ≤ fc ∧ on + fn ≤ n + i.toNat ∧ fn ≤ n ∧ isTh H' pb po (bothT x y) ∧ oA ≠ some ⟨pb, 0, none⟩ ∧ ∃ f out, thR H fA fn f ∧ ownTh H' H.size oA on oc out ∧ out ++ mergeL f (bothT x y :: pairL (rs.drop (i.toNat + 2))) = mergeL fs (pairL rs), fun _ fn _ _ _ _ _ => fn,
        ⟨k9, hfc, hon, hfn, p9, fun e => by have := (ownC.lt own2 e).2; omega, f, out, tf, own9, hg⟩, ?_⟩
      rintro fA fn fc oA on oc _ H10 ⟨k10, hfc, hon, hfn, p10, hne, f, out, tf, own10, hg⟩
      have s10 := k10.size
      have lf := tf.1
      refine ⟨fun q H' => H' = H10 ∧ (q = true → ∃ z t, f = z :: t ∧ z.w ≤ (bothT x y).w) ∧ (q = false → f = [] ∨ ∃ z t, f = z :: t ∧ ¬ z.w ≤ (bothT x y).w), ⟨fun hq => ?_, fun hq => ?_⟩, ?_⟩
      · simp only [decide_eq_true_eq] at hq
        obtain ⟨z, bz, oz, hz, rfl, cz⟩ := tf.at (i := 0) (by omega) hq
        have z10 := isTh.mono _ _ _ _ _ k10 cz
        have hcons : ∃ t, f = z :: t := by
          cases f with
          | nil => simp at hz
          | cons a t => simp at hz; subst hz; exact ⟨t, rfl⟩
        obtain ⟨t, rfl⟩ := hcons
        refine ⟨bz, oz, rfl, ⟨by omega, hq⟩, ?_⟩
        simp -zeta only [xI z10.w, xI p10.w]
        refine ⟨trivial, fun h => ⟨z, t, rfl, by simpa using h⟩, fun h => Or.inr ⟨z, t, rfl, by simpa using h⟩⟩
      · simp only [decide_eq_false_iff_not] at hq
        refine ⟨rfl, fun h => (by cases h), fun _ => Or.inl ?_⟩
        exact List.eq_nil_of_length_eq_zero (by omega)
      · rintro q _ H11 ⟨rfl, hqt, hqf⟩
        refine ⟨fun hq => ?_, fun hq => ?_⟩
        · obtain ⟨z, t, rfl, hle⟩ := hqt hq
          simp at lf
          obtain ⟨z', bz, oz, hz, rfl, cz⟩ := tf.at (i := 0) (by omega) (by omega)
          simp at hz; subst hz
          have z11 := isTh.mono _ _ _ _ _ k10 cz
          refine ⟨bz, oz, rfl, ⟨by omega, by omega⟩, ?_⟩
          refine Eq.mpr (xT z11 _) ?_
          refine Eq.mpr (fitsTh _ _) ?_
          intro H12
          refine app175 own10 s10 (by omega) z 1 ?_
          intro A' c' H13 w fo e
          refine ⟨_, _, _, rfl, ⟨by omega, by omega⟩, ⟨fo.keeps k10 fun b hb => (ownC.lt own10 hb).1, by show fn - 1 ≤ fc - 1; omega, by show on + 1 + (fn - 1) ≤ _; omega, by show fn - 1 ≤ n; omega, p10.off fo hne, ?_, t, out ++ [z], ?_, w, ?_⟩, ?_⟩
          · rcases e with e | ⟨q, h, e⟩
            · rw [e]; exact hne
            · intro e2; rw [e] at e2; cases e2; have := p10.lt; omega
          · exact rowR_part tf (i := 1) (by omega) hfc
          · rw [← hg, mergeL_le hle, List.append_assoc]; rfl
          · show fn - 1 < fn; omega
        · refine Eq.mpr (xT p10 _) ?_
          refine Eq.mpr (fitsTh _ _) ?_
          intro H14
          refine app175 own10 s10 (by omega) (bothT x y) 1 ?_
          intro A' c' H15 w fo e
          refine ⟨_, _, _, rfl, by omega, ⟨by omega, by omega, fo.keeps k10 fun b hb => (ownC.lt own10 hb).1, hfc, by omega, hfn, f, out ++ [bothT x y], tf, w, ?_⟩, by dsimp only; omega⟩
          rw [hi2, ← hg, mergeL_gt (hqf hq), List.append_assoc]; rfl
  · simp only [decide_eq_false_iff_not] at hi
    have hp : pairL (rs.drop i.toNat) = [] := by
      have : (rs.drop i.toNat).length ≤ 1 := by simp; omega
      match h : rs.drop i.toNat, this with
      | [], _ => rfl
      | [_], _ => rfl
      | _ :: _ :: _, q => simp at q
    rw [hp, mergeL] at hg
    refine app175s own2 s2 (tf.keeps isTh.mono k2) (by omega) ?_
    intro A' c' H3 w fo
    exact ⟨_, _, _, rfl, _, _, _, rfl, hg ▸ w, fo.keeps k2 fun b hb => (ownC.lt own2 hb).1⟩
end Go.Proofs.Ytkkjjjgcfnhabaa.Eng
namespace Go.Proofs.Ytkkjjjgcfnhabaa.Eng
open Go Go.Proofs
def encI (x : Int) : List Value := [.int .i64 x]
theorem flat_encI (xs : List Int) : xs.flatMap encI = xs.map (Value.int .i64) := by
  induction xs with
  | nil => rfl
  | cons x r ih => simp only [List.flatMap_cons, List.map_cons, ih, encI]; rfl
def r64 (x : Int) : Prop := -9223372036854775808 ≤ x ∧ x ≤ 9223372036854775807
structure ownI (H : Hp) (base : Nat) (t : TypeId) (A : Option Addr) (n c : Nat) (xs : List Int) : Prop where
  own : ownC H base t 1 A n c (xs.flatMap encI)
  rng : ∀ x ∈ xs, r64 x
theorem ownI.len {H : Hp} {base : Nat} {t : TypeId} {A : Option Addr} {n c : Nat} {xs : List Int} (h : ownI H base t A n c xs) : xs.length = n := by
  have := h.own.1
  rw [flat_encI] at this; simpa using this
theorem ownI.row {H : Hp} {base : Nat} {t : TypeId} {A : Option Addr} {n c : Nat} {xs : List Int} (h : ownI H base t A n c xs) : intsR H A n xs :=
  ownC.row encI (fun _ => rfl) h.own (by decide) fun b o x hx hc => ⟨hc 0 _ rfl, h.rng x hx⟩
theorem ownI.keeps {H H' : Hp} {base : Nat} {t : TypeId} {A : Option Addr} {n c : Nat} {xs : List Int} (h : ownI H base t A n c xs) (k : Keeps H H') : ownI H' base t A n c xs := ⟨h.own.keeps k, h.rng⟩
theorem ownI_nil (H : Hp) (base : Nat) (t : TypeId) : ownI H base t none 0 0 [] := ⟨ownC_nil .., by simp⟩
theorem ownI_new (H : Hp) (t : TypeId) (n : Nat) : ownI (Array.push H (.cells (zrow [.int .i64 0] n).toArray t (0, 0))) H.size t (some ⟨H.size, 0, none⟩) n n (List.replicate n 0) := by
  have e : (List.replicate n (0 : Int)).flatMap encI = zrow [.int .i64 0] n := by
    rw [flat_encI, zrow_one, List.map_replicate]; apply List.ext_getElem?; intro i; by_cases h : i < n <;> simp [h]
  refine ⟨⟨by rw [e]; simp [zrow_length], Nat.le_refl _, Or.inr ⟨H.size, _, Nat.le_refl _, rfl, objAt_new .., by simp [zrow_length], ?_⟩⟩, fun x hx => by have := List.eq_of_mem_replicate hx; subst this; constructor <;> omega⟩
  rw [e]; exact List.take_of_length_le (by simp [zrow_length])
theorem ownI.set {H : Hp} {base b n c : Nat} {t : TypeId} {xs : List Int} (h : ownI H base t (some ⟨b, 0, none⟩) n c xs) {i : Nat} (hi : i < n) {y : Int} (hy : r64 y) :
    canPut H b (0 + i * 1) [.int .i64 y] ∧ ownI (hput H b (0 + i * 1) [.int .i64 y]) base t (some ⟨b, 0, none⟩) n c (xs.set i y) := by
  have hl := h.len
  obtain ⟨a, o⟩ := own_set encI (fun _ => rfl) (fun x v hv => by simp [encI] at hv; subst hv; rfl) h.own (i := i) (by omega) hl y
  refine ⟨a, o, fun x hx => ?_⟩
  rcases List.mem_or_eq_of_mem_set hx with q | q
  · exact h.rng x q
  · subst q; exact hy
theorem ownI.at {H : Hp} {base b n c : Nat} {t : TypeId} {xs : List Int} (h : ownI H base t (some ⟨b, 0, none⟩) n c xs) {i : Nat} (hi : i < n) : ∃ x, xs[i]? = some x ∧ cel H b (0 + i * 1) = some (.int .i64 x) ∧ r64 x := by
  obtain ⟨x, b', o', h1, h2, h3⟩ := h.row.at (i := (i : Int)) (by omega) (by omega)
  cases h2
  exact ⟨x, h1, h3⟩
theorem okCounts_cons (x : Int) (r : List Int) : okCounts (x :: r) = ((decide (0 ≤ x) && decide (x ≤ 1099511627776)) && okCounts r) := by simp only [okCounts, List.all_cons]
theorem f122.spec (φ : Fx) (A : Option Addr) (n c : Nat) (cs : List Int) (H : Hp) (hr : intsR H A n cs) (hn : n ≤ 140737488355328) :
    HCalls cx.P φ 122 [.slice A n c] H fun r H' => r = .int .i64 (if okCounts cs = true then 0 else 3) ∧ H' = H := by
  apply f122.of
  unfold f122.VC
  have hl := hr.1
  refine ⟨fun i H' => 0 ≤ i ∧ i ≤ n ∧ H' = H ∧ okCounts cs = okCounts (cs.drop i.toNat), fun i _ => (n - i).toNat, ⟨by omega, by omega, rfl, by simp⟩, ?_⟩
  rintro i _ H1 ⟨h0, h1, rfl, hd⟩
  refine ⟨fun hi => ?_, fun hi => ?_⟩
  · simp only [decide_eq_true_eq] at hi
    obtain ⟨x, b, o, hx, rfl, cx1, _⟩ := hr.at h0 hi
    refine ⟨b, o, rfl, ⟨h0, hi⟩, ?_⟩
    simp -zeta only [xI cx1]
    rw [drop_at hx, okCounts_cons] at hd
    refine ⟨fun q H' => H' = H1 ∧ (q = true ↔ ¬ (0 ≤ x ∧ x ≤ 1099511627776)), ⟨fun h => ⟨rfl, ?_⟩, fun h => ⟨rfl, ?_⟩⟩, ?_⟩
    · simp only [decide_eq_true_eq] at h; simp; omega
    · simp only [decide_eq_false_iff_not] at h; simp; omega
    · rintro q _ H2 ⟨rfl, hq⟩
      refine ⟨fun h => ?_, fun h => ⟨by omega, ⟨by omega, by omega, rfl, ?_⟩, by omega⟩⟩
      · have := hq.1 h
        have e : okCounts cs = false := by
          rw [hd]; simp only [Bool.and_eq_false_iff, decide_eq_false_iff_not]; omega
        rw [e]; exact ⟨rfl, rfl⟩
      · have : 0 ≤ x ∧ x ≤ 1099511627776 := by
          apply Classical.byContradiction; intro g; have := hq.2 g; rw [h] at this; cases this
        rw [hd, show (i + 1).toNat = i.toNat + 1 by omega]
        simp [this.1, this.2]
  · simp only [decide_eq_false_iff_not] at hi
    rw [List.drop_eq_nil_of_le (by omega)] at hd
    rw [hd]; exact ⟨rfl, rfl⟩
def midL (n : Nat) (row : List Th) (i k : Nat) : List Int := (List.range n).map fun j => colS j (row.take (if j < k then i + 1 else i))
theorem midL_len (n : Nat) (row : List Th) (i k : Nat) : (midL n row i k).length = n := by simp [midL]
theorem midL_get {n : Nat} {row : List Th} {i k j : Nat} (hj : j < n) : (midL n row i k)[j]? = some (colS j (row.take (if j < k then i + 1 else i))) := by
  rw [midL, List.getElem?_map, List.getElem?_range hj]; rfl
theorem midL_0 (n : Nat) (row : List Th) (i : Nat) : midL n row i 0 = lensOf n (row.take i) := by
  unfold midL lensOf
  apply List.map_congr_left; intro j hj; rw [if_neg (by omega)]
theorem midL_n (n : Nat) (row : List Th) (i : Nat) : midL n row i n = lensOf n (row.take (i + 1)) := by
  unfold midL lensOf
  apply List.map_congr_left; intro j hj; rw [if_pos (by simpa using hj)]
theorem colS_take {row : List Th} {i : Nat} {x : Th} (hx : row[i]? = some x) (s : Nat) : colS s (row.take (i + 1)) = colS s (row.take i) + x.o.getD s 0 := by
  rw [List.take_add_one, hx, colS_app]; simp [colS]
theorem midL_set {n : Nat} {row : List Th} {i k : Nat} {x : Th} (hx : row[i]? = some x) (hk : k < n) : (midL n row i k).set k (colS k (row.take i) + x.o.getD k 0) = midL n row i (k + 1) := by
  apply List.ext_getElem?
  intro j
  rw [List.getElem?_set]
  by_cases hj : j < n
  · rw [midL_get hj]
    by_cases q : k = j
    · subst q
      rw [if_pos rfl, if_pos (by rw [midL_len]; exact hj), midL_get hj, if_pos (by omega), colS_take hx]
    · rw [if_neg q, midL_get hj]
      by_cases g : j < k
      · rw [if_pos g, if_pos (by omega)]
      · rw [if_neg g, if_neg (by omega)]
  · rw [if_neg (by omega), List.getElem?_eq_none (by rw [midL_len]; omega), List.getElem?_eq_none (by rw [midL_len]; omega)]
theorem colS_take_le {row : List Th} (nn : nnT row) (i s : Nat) : 0 ≤ colS s (row.take i) ∧ colS s (row.take i) ≤ colS s row := by
  have a := colS_nonneg s (row.take i) fun z hz => nn z (List.mem_of_mem_take hz)
  have b := colS_nonneg s (row.drop i) fun z hz => nn z (List.mem_of_mem_drop hz)
  have e : colS s row = colS s (row.take i) + colS s (row.drop i) := by rw [← colS_app, List.take_append_drop]
  omega
theorem lensOf_0 (n : Nat) (row : List Th) : lensOf n (row.take 0) = List.replicate n 0 := by
  apply List.ext_getElem?
  intro j
  unfold lensOf
  by_cases h : j < n
  · rw [List.getElem?_map, List.getElem?_range h, List.getElem?_replicate, if_pos h]; rfl
  · rw [List.getElem?_eq_none (by simp; omega), List.getElem?_eq_none (by simp; omega)]
theorem colS_rawU {cs : List Int} (h256 : cs.length ≤ 256) (s : Nat) : ∀ (d : Nat), d ≤ cs.length → colS s (rawU cs d) = if cs.length - d ≤ s ∧ s < cs.length ∧ 0 < cs.getD s 0 then 1 else 0
  | 0, _ => by rw [if_neg (by omega)]; rfl
  | d + 1, hd => by
    rw [rawU, colS_app, colS_rawU h256 s d (by omega)]
    by_cases q : 0 < cs.getD (cs.length - (d + 1)) 0
    · rw [if_pos q]
      show _ + ((eV _).getD s 0 + 0) = _
      rw [eV_get]
      by_cases g : s = cs.length - (d + 1)
      · rw [if_neg (by omega), if_pos ⟨g, by omega⟩, if_pos ⟨by omega, by omega, by rw [g]; exact q⟩]; rfl
      · have e2 : (if s = cs.length - (d + 1) ∧ s < 256 then (1 : Int) else 0) = 0 := if_neg (fun h => g h.1)
        rw [e2]
        by_cases u : cs.length - d ≤ s ∧ s < cs.length ∧ 0 < cs.getD s 0
        · rw [if_pos u, if_pos ⟨by omega, u.2⟩]; rfl
        · rw [if_neg u, if_neg (fun h => u ⟨by omega, h.2⟩)]; rfl
    · rw [if_neg q]
      show _ + 0 = _
      by_cases g : s = cs.length - (d + 1)
      · rw [if_neg (by omega), if_neg (fun h => q (g ▸ h.2.2))]; rfl
      · by_cases u : cs.length - d ≤ s ∧ s < cs.length ∧ 0 < cs.getD s 0
        · rw [if_pos u, if_pos ⟨by omega, u.2⟩]; rfl
        · rw [if_neg u, if_neg (fun h => u ⟨by omega, h.2⟩)]; rfl
theorem colS_things {cs : List Int} (h256 : cs.length ≤ 256) {s : Nat} (hs : s < cs.length) : colS s (thingsL cs) = if 0 < cs.getD s 0 then 1 else 0 := by
  rw [thingsL, colS_perm s (refU_spec h256 cs.length (Nat.le_refl _)).1, colS_rawU h256 s cs.length (Nat.le_refl _)]
  by_cases q : 0 < cs.getD s 0
  · rw [if_pos q, if_pos ⟨by omega, hs, q⟩]
  · rw [if_neg q, if_neg (fun h => q h.2.2)]
def oneL (cs : List Int) (i : Nat) : List Int := (List.range cs.length).map fun j => if j < i ∧ 0 < cs.getD j 0 then 1 else 0
theorem oneL_0 (cs : List Int) : oneL cs 0 = List.replicate cs.length 0 := by
  apply List.ext_getElem?
  intro j
  unfold oneL
  by_cases h : j < cs.length
  · rw [List.getElem?_map, List.getElem?_range h, List.getElem?_replicate, if_pos h]; simp
  · rw [List.getElem?_eq_none (by simp; omega), List.getElem?_eq_none (by simp; omega)]
theorem oneL_n {cs : List Int} (h256 : cs.length ≤ 256) : oneL cs cs.length = lensOf cs.length (thingsL cs) := by
  unfold oneL lensOf
  apply List.map_congr_left
  intro j hj
  simp only [List.mem_range] at hj
  rw [colS_things h256 hj]
  by_cases q : 0 < cs.getD j 0
  · rw [if_pos ⟨hj, q⟩, if_pos q]
  · rw [if_neg (fun h => q h.2), if_neg q]
theorem oneL_step {cs : List Int} {i : Nat} (hi : i < cs.length) {x : Int} (hx : cs[i]? = some x) : (0 < x → (oneL cs i).set i 1 = oneL cs (i + 1)) ∧ (¬ 0 < x → oneL cs i = oneL cs (i + 1)) := by
  have hg : cs.getD i 0 = x := by rw [List.getD_eq_getElem?_getD, hx]; rfl
  have get : ∀ j k, j < cs.length → (oneL cs k)[j]? = some (if j < k ∧ 0 < cs.getD j 0 then 1 else 0) := fun j k hj => by
    rw [oneL, List.getElem?_map, List.getElem?_range hj]; rfl
  have len : ∀ k, (oneL cs k).length = cs.length := fun k => by simp [oneL]
  constructor
  · intro hp
    apply List.ext_getElem?
    intro j
    rw [List.getElem?_set]
    by_cases hj : j < cs.length
    · by_cases q : i = j
      · subst q
        rw [if_pos rfl, if_pos (by rw [len]; exact hi), get _ _ hj, if_pos ⟨by omega, by omega⟩]
      · rw [if_neg q, get _ _ hj, get _ _ hj]
        by_cases g : j < i
        · simp [g, show j < i + 1 by omega]
        · rw [if_neg (fun h => g h.1), if_neg (fun h => by omega)]
    · rw [if_neg (by omega), List.getElem?_eq_none (by rw [len]; omega), List.getElem?_eq_none (by rw [len]; omega)]
  · intro hp
    apply List.ext_getElem?
    intro j
    by_cases hj : j < cs.length
    · rw [get _ _ hj, get _ _ hj]
      by_cases g : j < i
      · simp [g, show j < i + 1 by omega]
      · by_cases q : j = i
        · subst q
          rw [if_neg (fun h => g h.1), if_neg (fun h => hp (hg ▸ h.2))]
        · rw [if_neg (fun h => g h.1), if_neg (fun h => by omega)]
    · rw [List.getElem?_eq_none (by rw [len]; omega), List.getElem?_eq_none (by rw [len]; omega)]
theorem rowL_one {x : Th} : ∀ j, rowL [x] j = [x]
  | 0 => rfl
  | j + 1 => by rw [rowL, rowL_one j]; rfl
end Go.Proofs.Ytkkjjjgcfnhabaa.Eng
namespace Go.Proofs.Ytkkjjjgcfnhabaa.Eng
open Go Go.Proofs
theorem r64_of {x : Int} (h : 0 ≤ x ∧ x ≤ 1000) : r64 x := ⟨by omega, by omega⟩
theorem ownTh_off {H H' : Hp} {base b : Nat} {A : Option Addr} {n c : Nat} {xs : List Th} {n2 c2 : Nat} {ys : List Int} (h : ownTh H base A n c xs) (o : ownI H base 3 (some ⟨b, 0, none⟩) n2 c2 ys) (f : offA (some ⟨b, 0, none⟩) H H') : ownTh H' base A n c xs :=
  ownC.off h o.own (by decide) f
theorem ownI.base_le {H : Hp} {base base' : Nat} {t : TypeId} {A : Option Addr} {n c : Nat} {xs : List Int} (h : ownI H base t A n c xs) (hb : base' ≤ base) : ownI H base' t A n c xs := ⟨h.own.base_le hb, h.rng⟩
theorem lenRes_ok {cs : List Int} {limit : Int} (h1 : ¬ 256 < cs.length) (h2 : okCounts cs = true) (h3 : ¬ limit < 1) (h4 : ¬ 15 < limit) :
    lenRes cs limit = if 2 ^ limit.toNat < (thingsL cs).length then ([], 41) else
      (lensOf cs.length ((rowL (thingsL cs) (limit.toNat - 1)).take (if (thingsL cs).length = 0 then 0 else max (2 * (thingsL cs).length - 2) 1)), 0) := by
  unfold lenRes; rw [if_neg h1, if_neg (by rw [h2]; simp; omega)]
theorem lenRes_bad {cs : List Int} {limit : Int} (h1 : ¬ 256 < cs.length) (h2 : okCounts cs = false ∨ limit < 1 ∨ 15 < limit) : lenRes cs limit = ([], 3) := by
  unfold lenRes; rw [if_neg h1, if_pos h2]
theorem pow_lim {limit : Int} (h3 : ¬ limit < 1) (h4 : ¬ 15 < limit) : (1 : Int) * 2 ^ (min limit.toNat 64) = ((2 ^ limit.toNat : Nat) : Int) ∧ 2 ^ limit.toNat ≤ 32768 := by
  have : min limit.toNat 64 = limit.toNat := by omega
  rw [this, Int.one_mul]
  refine ⟨by push_cast; rfl, ?_⟩
  have : 2 ^ limit.toNat ≤ 2 ^ 15 := Nat.pow_le_pow_right (by decide) (by omega)
  exact this
theorem f56.spec (φ : Fx) (A : Option Addr) (n c : Nat) (cs : List Int) (limit : Int) (H : Hp) (hr : intsR H A n cs) (hn : n ≤ 140737488355328) :
    HCalls cx.P φ 56 [.slice A n c, .int .i64 limit] H fun r H' => ∃ A' n' c', r = .tuple #[.slice A' n' c', .int .i64 (lenRes cs limit).2] ∧ ownI H' H.size 3 A' n' c' (lenRes cs limit).1 ∧ Keeps H H' := by
  apply f56.of
  unfold f56.VC
  have hl := hr.1
  refine ⟨fun h => ?_, fun h => ?_⟩
  · simp only [decide_eq_true_eq] at h
    have e : lenRes cs limit = ([], 2) := by unfold lenRes; rw [if_pos (by omega)]
    rw [e]
    exact ⟨_, _, _, rfl, ownI_nil .., Keeps.refl _⟩
  simp only [decide_eq_false_iff_not] at h
  have h256 : cs.length ≤ 256 := by omega
  refine HCalls.mono (f122.spec φ A n c cs H hr hn) ?_
  rintro v H0 ⟨rfl, rfl⟩
  refine ⟨_, rfl, ?_⟩
  refine ⟨fun q H' => H' = H0 ∧ (q = true ↔ (okCounts cs = false ∨ limit < 1 ∨ 15 < limit)), ⟨fun h => ⟨rfl, ?_⟩, fun h => ⟨fun h2 => ⟨rfl, ?_⟩, fun h2 => ⟨rfl, ?_⟩⟩⟩, ?_⟩
  · cases hok : okCounts cs <;> simp [hok] at h ⊢
  · simp only [decide_eq_true_eq] at h2; simp [h2]
  · simp only [decide_eq_false_iff_not] at h2
    cases hok : okCounts cs <;> simp [hok] at h ⊢
    omega
  rintro q _ H1 ⟨rfl, hq⟩
  refine ⟨fun h => ?_, fun h => ?_⟩
  · rw [lenRes_bad (by omega) (hq.1 h)]
    exact ⟨_, _, _, rfl, ownI_nil .., Keeps.refl _⟩
  have hq' : ¬ (okCounts cs = false ∨ limit < 1 ∨ 15 < limit) := fun g => by have := hq.2 g; rw [h] at this; cases this
  have hok : okCounts cs = true := by
    cases hc : okCounts cs
    · exact absurd (Or.inl hc) hq'
    · rfl
  have hl1 : ¬ limit < 1 := fun g => hq' (Or.inr (Or.inl g))
  have hl2 : ¬ 15 < limit := fun g => hq' (Or.inr (Or.inr g))
  clear hq hq'
  rw [lenRes_ok (by omega) hok hl1 hl2]
  obtain ⟨pe, pb⟩ := pow_lim hl1 hl2
  obtain ⟨nn, hc1, hw, hlen⟩ := things_bd hok h256
  refine HCalls.mono (f123.spec φ A n c cs H1 hr (by omega)) ?_
  rintro v H3 ⟨B, m, d, rfl, own3, k13⟩
  have lm := own3.len
  rw [pe]
  obtain ⟨P, hP⟩ : ∃ P, P = 2 ^ limit.toNat := ⟨_, rfl⟩
  rw [← hP] at pb ⊢
  refine ⟨_, _, _, rfl, by omega, by omega, fun h => ?_, fun h => ?_⟩
  · simp only [decide_eq_true_eq] at h
    rw [if_pos (by omega)]
    exact ⟨_, _, _, rfl, ownI_nil .., k13⟩
  simp only [decide_eq_false_iff_not] at h
  rw [if_neg (by omega)]
  refine ⟨by omega, ?_⟩
  have hN : Int.toNat (n : Int) = n := by omega
  simp -zeta only [hN]
  intro H4
  have ownl : ownI H4 H3.size 3 (some ⟨H3.size, 0, none⟩) n n (List.replicate n 0) := ownI_new ..
  have k34 : Keeps H3 H4 := Keeps.push ..
  clear_value H4
  have s13 := k13.size
  have ownl := ownl.base_le s13
  have k14 := k13.trans k34
  have own4 := own3.keeps k34
  refine ⟨fun h1 => ?_, fun h1 => ?_⟩
  · simp only [decide_eq_true_eq] at h1
    have e : lensOf cs.length ((rowL (thingsL cs) (limit.toNat - 1)).take (if (thingsL cs).length = 0 then 0 else max (2 * (thingsL cs).length - 2) 1)) = oneL cs cs.length := by
      rw [oneL_n h256, lm, if_neg (by omega), show max (2 * m - 2) 1 = 1 by omega]
      obtain ⟨x, hx⟩ := List.length_eq_one_iff.1 (show (thingsL cs).length = 1 by omega)
      rw [hx, rowL_one]; rfl
    rw [e]
    refine ⟨fun i H' => 0 ≤ i ∧ i ≤ n ∧ Keeps H1 H' ∧ ownI H' H1.size 3 (some ⟨H3.size, 0, none⟩) n n (oneL cs i.toNat), fun i _ => (n - i).toNat, ⟨by omega, by omega, k14, by rw [show (0 : Int).toNat = 0 from rfl, oneL_0, hl]; exact ownl⟩, ?_⟩
    rintro i _ H5 ⟨i0, i1, k5, ow⟩
    refine ⟨fun hi => ?_, fun hi => ?_⟩
    · simp only [decide_eq_true_eq] at hi
      obtain ⟨x, b, o, hx, rfl, cx1, _⟩ := hr.at i0 hi
      obtain ⟨st1, st2⟩ := oneL_step (i := i.toNat) (by omega) hx
      have e1 : (i + 1).toNat = i.toNat + 1 := by omega
      refine ⟨b, o, rfl, ⟨i0, hi⟩, ?_⟩
      simp -zeta only [xI (k5.cel cx1)]
      refine ⟨fun H' => Keeps H1 H' ∧ ownI H' H1.size 3 (some ⟨H3.size, 0, none⟩) n n (oneL cs (i + 1).toNat), ⟨fun hp => ?_, fun hp => ?_⟩, fun _ H7 h7 => ⟨by omega, ⟨by omega, by omega, h7.1, h7.2⟩, by omega⟩⟩
      · simp only [decide_eq_true_eq] at hp
        obtain ⟨p1, p2⟩ := ow.set (i := i.toNat) (by omega) (y := 1) (r64_of (by omega))
        refine ⟨_, _, rfl, ⟨i0, hi⟩, p1, k5.hput s13, ?_⟩
        rw [e1, ← st1 hp]; exact p2
      · simp only [decide_eq_false_iff_not] at hp
        refine ⟨k5, ?_⟩
        rw [e1, ← st2 hp]; exact ow
    · simp only [decide_eq_false_iff_not] at hi
      refine ⟨_, _, _, rfl, ?_, k5⟩
      rw [show i.toNat = cs.length by omega] at ow
      exact ow
  simp only [decide_eq_false_iff_not] at h1
  refine ⟨by omega, ?_⟩
  refine ⟨fun rA rn rc j H' => 0 ≤ j ∧ j ≤ limit - 1 ∧ Keeps H4 H' ∧ ownTh H' H1.size rA rn rc (rowL (thingsL cs) j.toNat), fun _ _ _ j _ => (limit - j).toNat, ⟨by omega, by omega, Keeps.refl _, own4⟩, ?_⟩
  rintro rA rn rc j _ H8 ⟨j0, j1, k48, ownr⟩
  have lr := ownr.len
  have s48 := k48.size
  have s14 := k14.size
  have k18 := k14.trans k48
  obtain ⟨rnn, rcb, rwb⟩ := rowL_bd nn hc1 j.toNat
  have rlb := (rowL_enough _ nn hc1 j.toNat).1
  refine ⟨fun hj => ?_, fun hj => ?_⟩
  · simp only [decide_eq_true_eq] at hj
    have hw15 : wS (rowL (thingsL cs) j.toNat) ≤ 1152921504606846976 := by
      have : ((j.toNat : Int) + 1) * wS (thingsL cs) ≤ 16 * 281474976710656 := by
        refine Int.le_trans (Int.mul_le_mul_of_nonneg_left hw (by omega)) ?_
        exact Int.mul_le_mul_of_nonneg_right (by omega) (by omega)
      omega
    refine HCalls.mono (f124.spec φ B m d rA rn rc (thingsL cs) (rowL (thingsL cs) j.toNat) H8 ((own4.keeps k48).row) own4.2.1 ownr.row (by omega) (by omega) rnn (fun s => by have := rcb s; omega) hw15) ?_
    rintro v H9 ⟨A', n', c', rfl, w, k89⟩
    refine ⟨_, _, _, rfl, by omega, ⟨by omega, by omega, k48.trans k89, ?_⟩, by dsimp only; omega⟩
    rw [show (j + 1).toNat = j.toNat + 1 by omega, rowL]
    exact ownC.base_le w (by omega)
  simp only [decide_eq_false_iff_not] at hj
  have ej : j.toNat = limit.toNat - 1 := by omega
  have hlast := rowL_last _ nn hc1 (L := limit.toNat) (by omega) (by rw [← hP]; omega)
  rw [← ej] at hlast ⊢
  have hcnt : (if (thingsL cs).length = 0 then 0 else max (2 * (thingsL cs).length - 2) 1) = 2 * m - 2 := by
    rw [lm]; split <;> omega
  rw [hcnt]
  have hM : Int.toNat (max (2 * (m : Int) - 2) 0) = 2 * m - 2 := by omega
  have hrc := ownr.2.1
  refine ⟨by omega, by omega, ⟨by omega, by omega⟩, ?_⟩
  simp -zeta only [hM]
  generalize rowL (thingsL cs) j.toNat = row at *
  have ownl8 := ownl.keeps k48
  refine ⟨fun i H' => 0 ≤ i ∧ i ≤ (2 * m - 2 : Nat) ∧ offA (some ⟨H3.size, 0, none⟩) H8 H' ∧ ownI H' H1.size 3 (some ⟨H3.size, 0, none⟩) n n (lensOf n (row.take i.toNat)), fun i _ => (((2 * m - 2 : Nat) : Int) - i).toNat, ⟨by omega, by omega, offA.refl .., by rw [show (0 : Int).toNat = 0 from rfl, lensOf_0]; exact ownl8⟩, ?_⟩
  rintro i _ H10 ⟨i0, i1, f10, ow10⟩
  have s10 := f10.1
  have ownr10 := ownTh_off ownr ownl8 f10
  refine ⟨fun hi => ?_, fun hi => ?_⟩
  · simp only [decide_eq_true_eq] at hi
    obtain ⟨x, b, o, hx, rfl, cx1⟩ := ownr10.row.at i0 (by omega)
    refine ⟨b, o, rfl, ⟨i0, hi⟩, ?_⟩
    refine Eq.mpr (xT cx1 _) ?_
    intro H11
    have o11 : objAt H11 H10.size zeroTh.toArray 180 := objAt_new ..
    have k11 : Keeps H10 H11 := Keeps.push ..
    clear_value H11
    refine Eq.mpr (fitsTh _ _) ?_
    refine ⟨objAt_canPut o11 (by simp [zeroTh, x.len]) (fun v hv => encTh_one x v hv), ?_⟩
    intro H12
    have o12 : objAt H12 H10.size (encTh x).toArray 180 := objAt_put o11 _ _ _ (spl_th _)
    have k12 : Keeps H10 H12 := k11.hput (Nat.le_refl _)
    clear_value H12
    have ow12 := ow10.keeps k12
    have hxn := List.mem_of_getElem? hx
    refine ⟨fun k H' => 0 ≤ k ∧ k ≤ n ∧ offA (some ⟨H3.size, 0, none⟩) H12 H' ∧ ownI H' H1.size 3 (some ⟨H3.size, 0, none⟩) n n (midL n row i.toNat k.toNat), fun k _ => (n - k).toNat, ⟨by omega, by omega, offA.refl .., by rw [show (0 : Int).toNat = 0 from rfl, midL_0]; exact ow12⟩, ?_⟩
    rintro k _ H13 ⟨k0, k1, f13, ow13⟩
    refine ⟨fun hk => ?_, fun hk => ?_⟩
    · simp only [decide_eq_true_eq] at hk
      have hkn : k.toNat < n := by omega
      obtain ⟨y, hy, cy, _⟩ := ow13.at hkn
      rw [midL_get hkn, if_neg (by omega)] at hy
      cases hy
      have ox : objAt H13 H10.size (encTh x).toArray 180 := o12.frame (f13.2 _ (objAt_lt o12) (fun e => by injection e with e; injection e with e; have := (ownC.lt ow10.own rfl).2; omega))
      have ex := (objAt_isTh ox).o (j := k.toNat) (by omega)
      rw [← Nat.mul_one k.toNat] at ex
      have b1 := colS_take_le rnn i.toNat k.toNat
      have b2 := rcb k.toNat
      have b3 := col_le (s := k.toNat) rnn hxn
      have b4 := (rnn x hxn).2 k.toNat
      obtain ⟨p1, p2⟩ := ow13.set hkn (y := colS k.toNat (row.take i.toNat) + x.o.getD k.toNat 0) (r64_of (by omega))
      refine ⟨_, _, rfl, ⟨k0, hk⟩, ?_⟩
      refine ⟨_, cy, ⟨k0, by omega⟩, ?_⟩
      rw [Nat.mul_one k.toNat] at ex
      refine ⟨_, by rw [Nat.mul_one]; exact ex, by omega, by omega, _, _, rfl, ⟨k0, hk⟩, p1, by omega, ⟨by omega, by omega, f13.put _ _, ?_⟩, by dsimp only; omega⟩
      rw [show (k + 1).toNat = k.toNat + 1 by omega, ← midL_set hx hkn]
      exact p2
    · simp only [decide_eq_false_iff_not] at hk
      rw [show k.toNat = n by omega, midL_n] at ow13
      refine ⟨by omega, ⟨by omega, by omega, (f10.keep k12).step (Or.inl rfl) f13, ?_⟩, by dsimp only; omega⟩
      rw [show (i + 1).toNat = i.toNat + 1 by omega]
      exact ow13
  · simp only [decide_eq_false_iff_not] at hi
    refine ⟨_, _, _, rfl, ?_, f10.keeps k18 fun b hb => by cases hb; exact s13⟩
    rw [show i.toNat = 2 * m - 2 by omega] at ow10
    rw [hl]; exact ow10
end Go.Proofs.Ytkkjjjgcfnhabaa.Eng






namespace Go.Proofs.Ytkkjjjgcfnhabaa.Eng
open Go
def sw (l : List Th) : Prop := l.Pairwise fun x y => x.w ≤ y.w
theorem srt_sw {l : List Th} (h : srt rkS l) : sw l := h.imp fun q => by unfold lx at q; omega
theorem sw_cons {x : Th} {l : List Th} : sw (x :: l) ↔ (∀ y ∈ l, x.w ≤ y.w) ∧ sw l := List.pairwise_cons
theorem mergeL_cons_le {x p : Th} {fs r : List Th} (h : x.w ≤ p.w) : mergeL (x :: fs) (p :: r) = x :: mergeL fs (p :: r) := by
  rw [mergeL, mergeL, List.takeWhile_cons_of_pos (by simpa using h), List.dropWhile_cons_of_pos (by simpa using h)]; rfl
theorem mergeL_cons_gt {p : Th} {fs r : List Th} (h : fs = [] ∨ ∃ x t, fs = x :: t ∧ ¬ x.w ≤ p.w) : mergeL fs (p :: r) = p :: mergeL fs r := by
  rcases h with h | ⟨x, t, h, hx⟩
  · subst h; rw [mergeL]; rfl
  · subst h
    rw [mergeL, List.takeWhile_cons_of_neg (by simpa using hx), List.dropWhile_cons_of_neg (by simpa using hx)]; rfl
theorem mcase (a : List Th) (y : Th) : (∃ x t, a = x :: t ∧ x.w ≤ y.w) ∨ (a = [] ∨ ∃ x t, a = x :: t ∧ ¬ x.w ≤ y.w) := by
  cases a with
  | nil => exact Or.inr (Or.inl rfl)
  | cons x t =>
    by_cases h : x.w ≤ y.w
    · exact Or.inl ⟨x, t, rfl, h⟩
    · exact Or.inr (Or.inr ⟨x, t, rfl, h⟩)
theorem mergeL_sw : ∀ (k : Nat) (a b : List Th), a.length + b.length = k → sw a → sw b → sw (mergeL a b)
  | k, a, [], _, ha, _ => by rw [mergeL]; exact ha
  | 0, a, y :: r, hk, _, _ => by simp at hk
  | k + 1, a, y :: r, hk, ha, hb => by
    rcases mcase a y with ⟨x, t, rfl, h⟩ | h
    · rw [mergeL_cons_le h]
      refine sw_cons.2 ⟨fun z hz => ?_, mergeL_sw k t (y :: r) (by simp at hk ⊢; omega) (sw_cons.1 ha).2 hb⟩
      rcases List.mem_append.1 ((mergeL_perm (y :: r) t).mem_iff.1 hz) with q | q
      · exact (sw_cons.1 ha).1 z q
      · rcases List.mem_cons.1 q with q | q
        · subst q; exact h
        · have := (sw_cons.1 hb).1 z q; omega
    · rw [mergeL_cons_gt h]
      refine sw_cons.2 ⟨fun z hz => ?_, mergeL_sw k a r (by simp at hk ⊢; omega) ha (sw_cons.1 hb).2⟩
      rcases List.mem_append.1 ((mergeL_perm r a).mem_iff.1 hz) with q | q
      · rcases h with h | ⟨x, t, h, hx⟩
        · subst h; simp at q
        · subst h
          rcases List.mem_cons.1 q with q | q
          · subst q; omega
          · have := (sw_cons.1 ha).1 z q; omega
      · exact (sw_cons.1 hb).1 z q
/-- The first k of a merge: the first m of the one and the first p of the other; all of the one that weigh no more than a chosen one of the other are chosen. -/
theorem mergeL_take : ∀ (k : Nat) (a b : List Th), sw a → k ≤ a.length + b.length →
    ∃ m p, m + p = k ∧ m ≤ a.length ∧ p ≤ b.length ∧ ((mergeL a b).take k).Perm (a.take m ++ b.take p) ∧ ∀ i x, a[i]? = some x → (∃ y ∈ b.take p, x.w ≤ y.w) → i < m
  | 0, a, b, _, _ => ⟨0, 0, rfl, Nat.zero_le _, Nat.zero_le _, by simp, fun i x _ h => by simp at h⟩
  | k + 1, a, [], _, hk => ⟨k + 1, 0, rfl, by simpa using hk, Nat.zero_le _, by rw [mergeL]; simp, fun i x _ h => by simp at h⟩
  | k + 1, a, y :: r, ha, hk => by
    rcases mcase a y with ⟨x, t, rfl, h⟩ | h
    · obtain ⟨m, p, e, h1, h2, h3, h4⟩ := mergeL_take k t (y :: r) (sw_cons.1 ha).2 (by simp at hk ⊢; omega)
      refine ⟨m + 1, p, by omega, by simpa using h1, h2, ?_, fun i z hz hy => ?_⟩
      · rw [mergeL_cons_le h, List.take_succ_cons, List.take_succ_cons]
        exact List.Perm.cons _ h3
      · cases i with
        | zero => omega
        | succ i =>
          have := h4 i z (by simpa using hz) hy
          omega
    · obtain ⟨m, p, e, h1, h2, h3, h4⟩ := mergeL_take k a r ha (by simp at hk ⊢; omega)
      refine ⟨m, p + 1, by omega, h1, by simpa using h2, ?_, fun i z hz hy => ?_⟩
      · rw [mergeL_cons_gt h, List.take_succ_cons, List.take_succ_cons]
        exact (List.Perm.cons _ h3).trans List.perm_middle.symm
      · obtain ⟨y', hy', hle⟩ := hy
        rw [List.take_succ_cons] at hy'
        rcases List.mem_cons.1 hy' with q | q
        · subst q
          exfalso
          rcases h with h | ⟨x, t, h, hx⟩
          · subst h; simp at hz
          · subst h
            rcases List.mem_cons.1 (List.mem_of_getElem? hz) with q | q
            · subst q; exact hx hle
            · have := (sw_cons.1 ha).1 z q; omega
        · exact h4 i z hz ⟨y', q, hle⟩
theorem pairL_sw : ∀ (l : List Th), sw l → sw (pairL l)
  | [], _ => List.Pairwise.nil
  | [_], _ => List.Pairwise.nil
  | x :: y :: r, h => by
    obtain ⟨a, b⟩ := sw_cons.1 h
    obtain ⟨c, d⟩ := sw_cons.1 b
    rw [pairL]
    refine sw_cons.2 ⟨fun z hz => ?_, pairL_sw r d⟩
    have key : ∀ (l : List Th), (∀ u ∈ l, y.w ≤ u.w) → ∀ z ∈ pairL l, y.w + y.w ≤ z.w := by
      intro l
      induction l using pairL.induct with
      | case1 u v t ih =>
        intro hl z hz
        rw [pairL] at hz
        rcases List.mem_cons.1 hz with q | q
        · subst q
          have := hl u (by simp)
          have := hl v (by simp)
          show _ ≤ u.w + v.w
          omega
        · exact ih (fun w hw => hl w (by simp [hw])) z q
      | case2 l hl => intro _ z hz; rw [pairL] at hz; · simp at hz
                      · intro u v t e; exact hl u v t e
    have := key r c z hz
    have := a y (by simp)
    show x.w + y.w ≤ z.w
    omega
theorem pairL_take : ∀ (p : Nat) (l : List Th), p ≤ l.length / 2 → (∀ s, colS s ((pairL l).take p) = colS s (l.take (2 * p))) ∧ wS ((pairL l).take p) = wS (l.take (2 * p))
  | 0, l, _ => by simp
  | p + 1, [], h => by simp at h
  | p + 1, [_], h => by simp at h
  | p + 1, x :: y :: r, h => by
    obtain ⟨a, b⟩ := pairL_take p r (by simp at h; omega)
    rw [pairL, show 2 * (p + 1) = 2 * p + 1 + 1 by omega]
    simp only [List.take_succ_cons]
    refine ⟨fun s => ?_, ?_⟩
    · simp only [colS, bothT_get, a s]; omega
    · simp only [wS, b]; show x.w + y.w + _ = _; omega
theorem pairL_up : ∀ (p : Nat) (l : List Th), nnT l → p ≤ l.length / 2 → ∀ z ∈ l.take (2 * p), ∃ P ∈ (pairL l).take p, z.w ≤ P.w
  | 0, l, _, _, z, hz => by simp at hz
  | p + 1, [], _, h, z, hz => by simp at hz
  | p + 1, [_], _, h, z, hz => by simp at h
  | p + 1, x :: y :: r, nn, h, z, hz => by
    rw [show 2 * (p + 1) = 2 * p + 1 + 1 by omega, List.take_succ_cons, List.take_succ_cons] at hz
    have hx := nn x (by simp)
    have hy := nn y (by simp)
    rw [pairL, List.take_succ_cons]
    have e : (bothT x y).w = x.w + y.w := rfl
    rcases List.mem_cons.1 hz with q | q
    · exact ⟨_, List.mem_cons_self, by rw [q, e]; omega⟩
    · rcases List.mem_cons.1 q with q | q
      · exact ⟨_, List.mem_cons_self, by rw [q, e]; omega⟩
      · obtain ⟨P, h1, h2⟩ := pairL_up p r (fun w hw => nn w (by simp [hw])) (by simp at h; omega) z q
        exact ⟨P, List.mem_cons_of_mem _ h1, h2⟩
def selC (first : List Th) (s : Nat) : List Nat → Int
  | [] => 0
  | m :: r => colS s (first.take m) + selC first s r
def wid : List Nat → Nat
  | [] => 0
  | m :: r => m * 2 ^ r.length + wid r
theorem rowL_sw {first : List Th} (h : sw first) : ∀ j, sw (rowL first j)
  | 0 => h
  | j + 1 => mergeL_sw _ _ _ rfl h (pairL_sw _ (rowL_sw h j))
theorem chosen {first : List Th} (hs : sw first) (nn : nnT first) (hc : ∀ s, colS s first ≤ 1) : ∀ (j k : Nat), k ≤ (rowL first j).length →
    ∃ m ms, ms.length = j ∧ (m :: ms).Pairwise (fun a b => b ≤ a) ∧ m ≤ first.length ∧ (∀ s, colS s ((rowL first j).take k) = selC first s (m :: ms)) ∧ wid (m :: ms) = k * 2 ^ j ∧ ∀ z ∈ first.take m, z ∈ (rowL first j).take k
  | 0, k, hk => ⟨k, [], rfl, List.pairwise_singleton .., hk, fun s => by simp [selC, rowL], by simp [wid], fun z hz => hz⟩
  | j + 1, k, hk => by
    have rn := (rowL_bd nn hc j).1
    have pl := (pairL_bd _ rn).2.2
    rw [rowL_len first nn hc j] at hk
    obtain ⟨m, p, e, h1, h2, h3, h4⟩ := mergeL_take k first (pairL (rowL first j)) hs (by omega)
    rw [pl] at h2
    obtain ⟨m', ms, g1, g2, g3, g4, g5, g6⟩ := chosen hs nn hc j (2 * p) (by omega)
    obtain ⟨t1, t2⟩ := pairL_take p _ h2
    have hmm : m' ≤ m := by
      by_cases z : m' = 0
      · omega
      · have hx := List.getElem?_eq_getElem (l := first) (i := m' - 1) (by omega)
        have hxm : first[m' - 1] ∈ first.take m' := by
          refine List.mem_iff_getElem?.2 ⟨m' - 1, ?_⟩
          rw [List.getElem?_take, if_pos (by omega)]; exact hx
        obtain ⟨P, q1, q2⟩ := pairL_up p _ rn h2 _ (g6 _ hxm)
        have := h4 _ _ hx ⟨P, q1, q2⟩
        omega
    refine ⟨m, m' :: ms, by simp [g1], ?_, h1, fun s => ?_, ?_, fun z hz => ?_⟩
    · refine List.pairwise_cons.2 ⟨fun b hb => ?_, g2⟩
      rcases List.mem_cons.1 hb with q | q
      · subst q; exact hmm
      · have := (List.pairwise_cons.1 g2).1 b q; omega
    · rw [rowL, colS_perm s h3, colS_app, t1 s, g4 s]; rfl
    · rw [wid, g5]
      simp only [List.length_cons, g1]
      rw [Nat.pow_succ, ← e, Nat.add_mul]
      congr 1
      rw [Nat.mul_comm 2 p, Nat.mul_assoc, Nat.mul_comm 2]
    · rw [rowL]
      exact h3.symm.mem_iff.1 (List.mem_append_left _ hz)
end Go.Proofs.Ytkkjjjgcfnhabaa.Eng
namespace Go.Proofs.Ytkkjjjgcfnhabaa.Eng
open Go
def sumN (f : Nat → Nat) : Nat → Nat
  | 0 => 0
  | n + 1 => sumN f n + f n
def sumZ (f : Nat → Int) : Nat → Int
  | 0 => 0
  | n + 1 => sumZ f n + f n
def sumL (g : Th → Nat) : List Th → Nat
  | [] => 0
  | x :: r => g x + sumL g r
def wmul (g : Th → Int) : List Th → Int
  | [] => 0
  | x :: r => x.w * g x + wmul g r
theorem sumN_congr {f g : Nat → Nat} : ∀ {n : Nat}, (∀ i, i < n → f i = g i) → sumN f n = sumN g n
  | 0, _ => rfl
  | n + 1, h => by rw [sumN, sumN, sumN_congr fun i hi => h i (by omega), h n (by omega)]
theorem sumZ_congr {f g : Nat → Int} : ∀ {n : Nat}, (∀ i, i < n → f i = g i) → sumZ f n = sumZ g n
  | 0, _ => rfl
  | n + 1, h => by rw [sumZ, sumZ, sumZ_congr fun i hi => h i (by omega), h n (by omega)]
theorem sumZ_add (f g : Nat → Int) : ∀ n, sumZ (fun i => f i + g i) n = sumZ f n + sumZ g n
  | 0 => rfl
  | n + 1 => by simp only [sumZ, sumZ_add f g n]; omega
theorem sumZ_zero : ∀ n, sumZ (fun _ => 0) n = 0
  | 0 => rfl
  | n + 1 => by rw [sumZ, sumZ_zero n]; rfl
theorem sumZ_one (f : Nat → Int) (i : Nat) : ∀ n, i < n → (∀ j, j ≠ i → f j = 0) → sumZ f n = f i
  | 0, h, _ => by omega
  | n + 1, h, hz => by
    rw [sumZ]
    by_cases e : i = n
    · subst e
      have : sumZ f i = 0 := by rw [sumZ_congr (g := fun _ => 0) fun j hj => hz j (by omega), sumZ_zero]
      omega
    · rw [sumZ_one f i n (by omega) hz, hz n (by omega)]; omega
theorem sumN_two {f : Nat → Nat} {a b : Nat} : ∀ n, a < n → b < n → a ≠ b → f a + f b ≤ sumN f n
  | 0, h, _, _ => by omega
  | n + 1, ha, hb, hne => by
    have one : ∀ (c n : Nat), c < n → f c ≤ sumN f n := by
      intro c n
      induction n with
      | zero => intro h; omega
      | succ n ih =>
        intro h
        rw [sumN]
        by_cases e : c = n
        · subst e; omega
        · have := ih (by omega); omega
    rw [sumN]
    by_cases e : a = n
    · subst e; have := one b a (by omega); omega
    · by_cases e2 : b = n
      · subst e2; have := one a b (by omega); omega
      · have := sumN_two (f := f) n (show a < n by omega) (show b < n by omega) hne; omega
theorem sumL_app (g : Th → Nat) (a b : List Th) : sumL g (a ++ b) = sumL g a + sumL g b := by
  induction a with
  | nil => simp [sumL]
  | cons x r ih => simp only [List.cons_append, sumL, ih]; omega
theorem wmul_app (g : Th → Int) (a b : List Th) : wmul g (a ++ b) = wmul g a + wmul g b := by
  induction a with
  | nil => simp [wmul]
  | cons x r ih => simp only [List.cons_append, wmul, ih]; omega
theorem sumL_perm (g : Th → Nat) {a b : List Th} (h : a.Perm b) : sumL g a = sumL g b := by
  induction h with
  | nil => rfl
  | cons x _ ih => simp only [sumL, ih]
  | swap x y l => simp only [sumL]; omega
  | trans _ _ h1 h2 => exact h1.trans h2
theorem wmul_perm (g : Th → Int) {a b : List Th} (h : a.Perm b) : wmul g a = wmul g b := by
  induction h with
  | nil => rfl
  | cons x _ ih => simp only [wmul, ih]
  | swap x y l => simp only [wmul]; omega
  | trans _ _ h1 h2 => exact h1.trans h2
theorem sumL_sumN {g : Th → Nat} {f : Nat → Nat} {l : List Th} (h : ∀ r x, l[r]? = some x → g x = f r) : sumL g l = sumN f l.length := by
  have key : ∀ k, k ≤ l.length → sumL g (l.take k) = sumN f k := by
    intro k
    induction k with
    | zero => intro _; rfl
    | succ k ih =>
      intro hk
      have hx := List.getElem?_eq_getElem (l := l) (i := k) (by omega)
      rw [List.take_add_one, hx, sumL_app, ih (by omega), sumN]
      show _ + (g _ + 0) = _
      rw [h k _ hx]; omega
  have := key l.length (Nat.le_refl _)
  rwa [List.take_length] at this
theorem sumL_congr {g h : Th → Nat} : ∀ {l : List Th}, (∀ x ∈ l, g x = h x) → sumL g l = sumL h l
  | [], _ => rfl
  | x :: r, e => by rw [sumL, sumL, e x (by simp), sumL_congr fun y hy => e y (by simp [hy])]
theorem wmul_congr {g h : Th → Int} : ∀ {l : List Th}, (∀ x ∈ l, g x = h x) → wmul g l = wmul h l
  | [], _ => rfl
  | x :: r, e => by rw [wmul, wmul, e x (by simp), wmul_congr fun y hy => e y (by simp [hy])]
theorem sumL_mul (g : Th → Nat) (c : Nat) : ∀ l : List Th, sumL (fun x => c * g x) l = c * sumL g l
  | [] => by simp [sumL]
  | x :: r => by simp only [sumL, sumL_mul g c r, Nat.mul_add]
theorem sumN_mul (g : Nat → Nat) (c : Nat) : ∀ n, sumN (fun x => c * g x) n = c * sumN g n
  | 0 => by simp [sumN]
  | n + 1 => by simp only [sumN, sumN_mul g c n, Nat.mul_add]
def cnt (r : Nat) : List Nat → Nat
  | [] => 0
  | m :: t => (if r < m then 1 else 0) + cnt r t
theorem cnt_le (r : Nat) : ∀ ms, cnt r ms ≤ ms.length
  | [] => Nat.le_refl _
  | m :: t => by have := cnt_le r t; rw [cnt, List.length_cons]; split <;> omega
theorem cnt_zero {r : Nat} : ∀ {ms : List Nat}, (∀ m ∈ ms, m ≤ r) → cnt r ms = 0
  | [], _ => rfl
  | m :: t, h => by rw [cnt, if_neg (by have := h m (by simp); omega), cnt_zero fun a ha => h a (by simp [ha])]
theorem cnt_anti {r q : Nat} (h : r ≤ q) : ∀ ms, cnt q ms ≤ cnt r ms
  | [] => Nat.le_refl _
  | m :: t => by have := cnt_anti h t; rw [cnt, cnt]; split <;> split <;> omega
def krR (ms : List Nat) (r : Nat) : Nat := 2 ^ (ms.length - cnt r ms)
theorem sumN_krR (m : Nat) (t : List Nat) (h : ∀ b ∈ t, b ≤ m) : ∀ n, sumN (krR (m :: t)) n = sumN (krR t) n + (n - m) * 2 ^ t.length
  | 0 => by simp [sumN]
  | n + 1 => by
    rw [sumN, sumN, sumN_krR m t h n]
    by_cases q : n < m
    · have e : krR (m :: t) n = krR t n := by
        unfold krR
        rw [cnt, if_pos q, List.length_cons]
        congr 1
        omega
      rw [e, show n + 1 - m = 0 by omega, show n - m = 0 by omega]
      omega
    · have e : krR (m :: t) n = krR t n + 2 ^ t.length := by
        unfold krR
        rw [cnt, if_neg q, List.length_cons, cnt_zero fun b hb => by have := h b hb; omega]
        rw [show t.length + 1 - (0 + 0) = t.length + 1 by omega, Nat.pow_succ, Nat.sub_zero]
        omega
      rw [e, show n + 1 - m = (n - m) + 1 by omega, Nat.add_mul]
      omega
theorem krR_wid {n : Nat} : ∀ (ms : List Nat), ms.Pairwise (fun a b => b ≤ a) → (∀ m ∈ ms, m ≤ n) → sumN (krR ms) n + wid ms = n * 2 ^ ms.length
  | [], _, _ => by
    have : ∀ n, sumN (krR []) n = n := by
      intro n
      induction n with
      | zero => rfl
      | succ n ih => rw [sumN, ih]; rfl
    rw [this]; simp [wid]
  | m :: t, h, hn => by
    obtain ⟨h1, h2⟩ := List.pairwise_cons.1 h
    have ih := krR_wid t h2 fun a ha => hn a (by simp [ha])
    have hm := hn m (by simp)
    rw [sumN_krR m t h1, wid, List.length_cons, Nat.pow_succ]
    have e : (n - m) * 2 ^ t.length + m * 2 ^ t.length = n * 2 ^ t.length := by rw [← Nat.add_mul]; congr 1; omega
    have e2 : n * (2 ^ t.length * 2) = n * 2 ^ t.length + n * 2 ^ t.length := by rw [← Nat.mul_assoc]; omega
    omega
/-- Two things and more: Kraft's sum is one, and each is chosen. -/
theorem krR_one {n L : Nat} {ms : List Nat} (hn : 2 ≤ n) (hl : ms.length = L) (hd : ms.Pairwise (fun a b => b ≤ a)) (hm : ∀ m ∈ ms, m ≤ n) (hw : wid ms + 2 ^ L = n * 2 ^ L) :
    sumN (krR ms) n = 2 ^ L ∧ ∀ r, r < n → 0 < cnt r ms := by
  have := krR_wid ms hd hm
  rw [hl] at this
  have e : sumN (krR ms) n = 2 ^ L := by omega
  refine ⟨e, fun r hr => ?_⟩
  apply Classical.byContradiction
  intro h
  have h0 : cnt r ms = 0 := by omega
  have pos : ∀ q, 0 < krR ms q := fun q => Nat.two_pow_pos _
  have hk : krR ms r = 2 ^ L := by unfold krR; rw [h0, hl, Nat.sub_zero]
  have : ∃ q, q < n ∧ q ≠ r := ⟨if r = 0 then 1 else 0, by split <;> omega, by split <;> omega⟩
  obtain ⟨q, q1, q2⟩ := this
  have := sumN_two (f := krR ms) (a := r) (b := q) n hr q1 (fun e => q2 e.symm)
  have := pos q
  omega
theorem wS_take_le {l : List Th} (nn : nnT l) {i k : Nat} (h : i ≤ k) : wS (l.take i) ≤ wS (l.take k) := by
  have e : l.take k = l.take i ++ (l.take k).drop i := by
    have := List.take_append_drop i (l.take k)
    rw [List.take_take, Nat.min_eq_left h] at this
    exact this.symm
  rw [e, wS_app]
  have := wS_nonneg ((l.take k).drop i) fun z hz => nn z (List.mem_of_mem_take (List.mem_of_mem_drop hz))
  omega
theorem wS_shift {l : List Th} (hs : sw l) {v : Int} (hv : ∀ z ∈ l, v ≤ z.w) : ∀ k, k < l.length → v + wS (l.take k) ≤ wS (l.take (k + 1)) := by
  intro k hk
  have hx := List.getElem?_eq_getElem (l := l) (i := k) hk
  rw [List.take_add_one, hx, wS_app]
  have := hv _ (List.getElem_mem hk)
  simp only [Option.toList, wS]
  omega
theorem wS_sub {a l : List Th} (h : a.Sublist l) : sw l → wS (l.take a.length) ≤ wS a := by
  induction h with
  | slnil => intro _; exact Int.le_refl _
  | @cons a l x h ih =>
    intro hs
    obtain ⟨h1, h2⟩ := sw_cons.1 hs
    have := ih h2
    match hl : a.length, this with
    | 0, this =>
      have : a = [] := List.eq_nil_of_length_eq_zero hl
      subst this; exact Int.le_refl _
    | k + 1, this =>
      have := wS_shift h2 h1 k (by have := h.length_le; omega)
      rw [List.take_succ_cons]
      simp only [wS]; omega
  | @cons_cons a l x h ih =>
    intro hs
    have := ih (sw_cons.1 hs).2
    rw [List.length_cons, List.take_succ_cons]
    simp only [wS]; omega
theorem mergeL_least : ∀ (k : Nat) (a b : List Th) (m p : Nat), sw a → sw b → m + p = k → m ≤ a.length → p ≤ b.length → wS ((mergeL a b).take k) ≤ wS (a.take m) + wS (b.take p)
  | 0, a, b, m, p, _, _, e, _, _ => by
    have e1 : m = 0 := by omega
    have e2 : p = 0 := by omega
    subst e1; subst e2; simp [wS]
  | k + 1, a, [], m, p, _, _, e, _, hp => by
    have e2 : p = 0 := by simpa using hp
    subst e2
    have e1 : m = k + 1 := by omega
    subst e1
    rw [mergeL]; simp [wS]
  | k + 1, a, y :: r, m, p, ha, hb, e, hm, hp => by
    rcases mcase a y with ⟨x, t, rfl, h⟩ | h
    · rw [mergeL_cons_le h, List.take_succ_cons]
      obtain ⟨a1, a2⟩ := sw_cons.1 ha
      match m, e, hm with
      | m + 1, e, hm =>
        have := mergeL_least k t (y :: r) m p a2 hb (by omega) (by simpa using hm) hp
        rw [List.take_succ_cons]
        simp only [wS]; omega
      | 0, e, _ =>
        have ih := mergeL_least k t (y :: r) 0 k a2 hb (by omega) (by omega) (by omega)
        have := wS_shift hb (v := x.w) (fun z hz => by
          rcases List.mem_cons.1 hz with q | q
          · subst q; exact h
          · have := (sw_cons.1 hb).1 z q; omega) k (by omega)
        rw [show p = k + 1 by omega]
        simp only [List.take_zero, wS] at ih ⊢; omega
    · rw [mergeL_cons_gt h, List.take_succ_cons]
      obtain ⟨b1, b2⟩ := sw_cons.1 hb
      match p, e, hp with
      | p + 1, e, hp =>
        have := mergeL_least k a r m p ha b2 (by omega) hm (by simpa using hp)
        rw [List.take_succ_cons]
        simp only [wS]; omega
      | 0, e, _ =>
        have ih := mergeL_least k a r k 0 ha b2 (by omega) (by omega) (by omega)
        have := wS_shift ha (v := y.w) (fun z hz => by
          rcases h with h | ⟨x, t, h, hx⟩
          · subst h; simp at hz
          · subst h
            rcases List.mem_cons.1 hz with q | q
            · subst q; omega
            · have := (sw_cons.1 ha).1 z q; omega) k (by omega)
        rw [show m = k + 1 by omega]
        simp only [List.take_zero, wS] at ih ⊢; omega
def Kc : List (List Th) → Nat
  | [] => 0
  | A :: r => A.length + Kc r / 2
def wSS : List (List Th) → Int
  | [] => 0
  | A :: r => wS A + wSS r
def widA : List (List Th) → Nat
  | [] => 0
  | A :: r => A.length * 2 ^ r.length + widA r
theorem opt {first : List Th} (hs : sw first) (nn : nnT first) (hc : ∀ s, colS s first ≤ 1) : ∀ (As : List (List Th)) (A : List Th), (∀ B ∈ A :: As, B.Sublist first) →
    Kc (A :: As) ≤ (rowL first As.length).length ∧ wS ((rowL first As.length).take (Kc (A :: As))) ≤ wSS (A :: As)
  | [], A, h => by
    have hA := h A (by simp)
    refine ⟨by simpa [Kc, rowL] using hA.length_le, ?_⟩
    have := wS_sub hA hs
    simp only [Kc, wSS, rowL, List.length_nil, Nat.zero_div, Nat.add_zero]
    omega
  | B :: As, A, h => by
    have hA := h A (by simp)
    obtain ⟨i1, i2⟩ := opt hs nn hc As B fun C hC => h C (by simp at hC ⊢; exact Or.inr hC)
    have rn := (rowL_bd nn hc As.length).1
    have pl := (pairL_bd _ rn).2.2
    rw [Kc, List.length_cons]
    generalize Kc (B :: As) = K at *
    have hK : K / 2 ≤ (rowL first As.length).length / 2 := Nat.div_le_div_right i1
    refine ⟨by rw [rowL_len first nn hc]; have := hA.length_le; omega, ?_⟩
    rw [rowL]
    have l1 := mergeL_least (A.length + K / 2) first (pairL (rowL first As.length)) A.length (K / 2) hs (pairL_sw _ (rowL_sw hs _)) rfl hA.length_le (by omega)
    have l2 := wS_sub hA hs
    have l3 := (pairL_take (K / 2) _ hK).2
    have l4 := wS_take_le rn (i := 2 * (K / 2)) (k := K) (by omega)
    rw [wSS]
    omega
theorem Kc_wid : ∀ (As : List (List Th)) (A : List Th), Kc (A :: As) = widA (A :: As) / 2 ^ As.length
  | [], A => by simp [Kc, widA]
  | B :: As, A => by
    rw [Kc, Kc_wid As B, List.length_cons, Nat.div_div_eq_div_mul, ← Nat.pow_succ]
    show _ = (A.length * 2 ^ (As.length + 1) + widA (B :: As)) / 2 ^ (As.length + 1)
    rw [Nat.mul_comm A.length, Nat.mul_add_div (Nat.two_pow_pos _)]
def lev (f : Th → Nat) (first : List Th) : Nat → Nat → List (List Th)
  | _, 0 => []
  | d, L + 1 => first.filter (fun x => decide (d ≤ f x)) :: lev f first (d + 1) L
theorem lev_len (f : Th → Nat) (first : List Th) : ∀ L d, (lev f first d L).length = L
  | 0, _ => rfl
  | L + 1, d => by rw [lev, List.length_cons, lev_len f first L]
theorem lev_sub (f : Th → Nat) (first : List Th) : ∀ L d, ∀ B ∈ lev f first d L, B.Sublist first
  | 0, _, B, h => by simp [lev] at h
  | L + 1, d, B, h => by
    rw [lev] at h
    rcases List.mem_cons.1 h with q | q
    · subst q; exact List.filter_sublist
    · exact lev_sub f first L _ B q
theorem lev_wid (f : Th → Nat) (first : List Th) : ∀ L d, widA (lev f first d L) + sumL (fun x => 2 ^ (L - (f x + 1 - d))) first = first.length * 2 ^ L
  | 0, d => by
    have : ∀ l : List Th, sumL (fun x => 2 ^ (0 - (f x + 1 - d))) l = l.length := by
      intro l
      induction l with
      | nil => rfl
      | cons x r ih => rw [sumL, ih]; simp; omega
    rw [this]; simp [lev, widA]
  | L + 1, d => by
    have step : ∀ l : List Th, sumL (fun x => 2 ^ (L + 1 - (f x + 1 - d))) l + (l.filter (fun x => decide (d ≤ f x))).length * 2 ^ L = sumL (fun x => 2 ^ (L - (f x + 1 - (d + 1)))) l + l.length * 2 ^ L := by
      intro l
      induction l with
      | nil => simp [sumL]
      | cons x r ih =>
        rw [sumL, sumL]
        by_cases q : d ≤ f x
        · rw [List.filter_cons_of_pos (by simpa using q), List.length_cons, List.length_cons]
          rw [show L + 1 - (f x + 1 - d) = L - (f x + 1 - (d + 1)) by omega, Nat.add_mul, Nat.add_mul]
          omega
        · rw [List.filter_cons_of_neg (by simpa using q), List.length_cons]
          rw [show L + 1 - (f x + 1 - d) = L + 1 by omega, show L - (f x + 1 - (d + 1)) = L by omega, Nat.add_mul, Nat.pow_succ]
          omega
    have ih := lev_wid f first L (d + 1)
    have st := step first
    rw [lev, widA, lev_len, Nat.pow_succ]
    have : first.length * (2 ^ L * 2) = first.length * 2 ^ L + first.length * 2 ^ L := by rw [← Nat.mul_assoc]; omega
    omega
theorem lev_w (f : Th → Nat) (first : List Th) : ∀ L d, wSS (lev f first d L) = wmul (fun x => ((min L (f x + 1 - d) : Nat) : Int)) first
  | 0, d => by
    have : ∀ l : List Th, wmul (fun x => ((min 0 (f x + 1 - d) : Nat) : Int)) l = 0 := by
      intro l
      induction l with
      | nil => rfl
      | cons x r ih => rw [wmul, ih]; simp
    rw [this]; rfl
  | L + 1, d => by
    rw [lev, wSS, lev_w f first L (d + 1)]
    have step : ∀ l : List Th, wS (l.filter (fun x => decide (d ≤ f x))) + wmul (fun x => ((min L (f x + 1 - (d + 1)) : Nat) : Int)) l = wmul (fun x => ((min (L + 1) (f x + 1 - d) : Nat) : Int)) l := by
      intro l
      induction l with
      | nil => rfl
      | cons x r ih =>
        rw [wmul, wmul]
        by_cases q : d ≤ f x
        · rw [List.filter_cons_of_pos (by simpa using q), wS]
          rw [show min (L + 1) (f x + 1 - d) = min L (f x + 1 - (d + 1)) + 1 by omega]
          rw [Int.natCast_add, Int.mul_add]
          omega
        · rw [List.filter_cons_of_neg (by simpa using q)]
          rw [show min (L + 1) (f x + 1 - d) = 0 by omega, show min L (f x + 1 - (d + 1)) = 0 by omega]
          simp only [Int.natCast_zero, Int.mul_zero]
          omega
    exact step first
/-- No lengths of at most L, with Kraft's sum at most one, weigh less than the row's first. -/
theorem least {first : List Th} (hs : sw first) (nn : nnT first) (hc : ∀ s, colS s first ≤ 1) {L : Nat} (f : Th → Nat) (hf : ∀ x ∈ first, f x ≤ L + 1) (hk : sumL (fun x => 2 ^ (L + 1 - f x)) first ≤ 2 ^ (L + 1)) :
    wS ((rowL first L).take (2 * first.length - 2)) ≤ wmul (fun x => (f x : Int)) first := by
  have e : lev f first 1 (L + 1) = first.filter (fun x => decide (1 ≤ f x)) :: lev f first 2 L := rfl
  have hl := lev_len f first L 2
  have o := opt hs nn hc (lev f first 2 L) (first.filter (fun x => decide (1 ≤ f x))) (by rw [← e]; exact lev_sub f first (L + 1) 1)
  rw [← e, hl] at o
  have w := lev_wid f first (L + 1) 1
  have ww := lev_w f first (L + 1) 1
  have c1 : sumL (fun x => 2 ^ (L + 1 - (f x + 1 - 1))) first = sumL (fun x => 2 ^ (L + 1 - f x)) first := sumL_congr fun x _ => by rw [Nat.add_sub_cancel]
  have c2 : wmul (fun x => ((min (L + 1) (f x + 1 - 1) : Nat) : Int)) first = wmul (fun x => (f x : Int)) first := wmul_congr fun x hx => by
    have := hf x hx
    rw [Nat.add_sub_cancel, Nat.min_eq_right this]
  rw [c1] at w
  rw [c2] at ww
  have kw := Kc_wid (lev f first 2 L) (first.filter (fun x => decide (1 ≤ f x)))
  rw [← e, hl] at kw
  have hK : 2 * first.length - 2 ≤ Kc (lev f first 1 (L + 1)) := by
    rw [kw, Nat.le_div_iff_mul_le (Nat.two_pow_pos _)]
    have p : 2 ^ (L + 1) = 2 ^ L * 2 := Nat.pow_succ ..
    have q : (2 * first.length - 2) * 2 ^ L = (first.length - 1) * 2 ^ (L + 1) := by
      rw [p, ← Nat.mul_assoc, Nat.mul_right_comm]; congr 1; omega
    rw [q]
    have r : (first.length - 1) * 2 ^ (L + 1) = first.length * 2 ^ (L + 1) - 2 ^ (L + 1) := by rw [Nat.sub_mul, Nat.one_mul]
    omega
  have := wS_take_le (rowL_bd nn hc L).1 hK
  omega
end Go.Proofs.Ytkkjjjgcfnhabaa.Eng
namespace Go.Proofs.Ytkkjjjgcfnhabaa.Eng
open Go
def symF (x : Th) : Nat := 255 - rkS x
theorem sym_one (w : Int) {i : Nat} (hi : i < 256) : symF (one w i) = i := by rw [symF, rkS_one w i hi]; omega
theorem sumL_raw {cs : List Int} (g : Th → Nat) : ∀ d, d ≤ cs.length → sumL g (rawU cs d) + sumN (fun i => if 0 < cs.getD i 0 then g (one (cs.getD i 0) i) else 0) (cs.length - d) = sumN (fun i => if 0 < cs.getD i 0 then g (one (cs.getD i 0) i) else 0) cs.length
  | 0, _ => by rw [rawU]; simp [sumL]
  | d + 1, hd => by
    have ih := sumL_raw (cs := cs) g d (by omega)
    rw [show cs.length - d = (cs.length - (d + 1)) + 1 by omega, sumN] at ih
    rw [rawU, sumL_app]
    by_cases q : 0 < cs.getD (cs.length - (d + 1)) 0
    · rw [if_pos q] at ih ⊢
      simp only [sumL]; omega
    · rw [if_neg q] at ih ⊢
      simp only [sumL]; omega
theorem wmul_raw {cs : List Int} (g : Th → Int) : ∀ d, d ≤ cs.length → wmul g (rawU cs d) + sumZ (fun i => if 0 < cs.getD i 0 then cs.getD i 0 * g (one (cs.getD i 0) i) else 0) (cs.length - d) = sumZ (fun i => if 0 < cs.getD i 0 then cs.getD i 0 * g (one (cs.getD i 0) i) else 0) cs.length
  | 0, _ => by rw [rawU]; simp [wmul]
  | d + 1, hd => by
    have ih := wmul_raw (cs := cs) g d (by omega)
    rw [show cs.length - d = (cs.length - (d + 1)) + 1 by omega, sumZ] at ih
    rw [rawU, wmul_app]
    by_cases q : 0 < cs.getD (cs.length - (d + 1)) 0
    · rw [if_pos q] at ih ⊢
      simp only [wmul]
      have : (one (cs.getD (cs.length - (d + 1)) 0) (cs.length - (d + 1))).w = cs.getD (cs.length - (d + 1)) 0 := rfl
      rw [this]; omega
    · rw [if_neg q] at ih ⊢
      simp only [wmul]; omega
theorem sumL_things {cs : List Int} (h256 : cs.length ≤ 256) (g : Th → Nat) : sumL g (thingsL cs) = sumN (fun i => if 0 < cs.getD i 0 then g (one (cs.getD i 0) i) else 0) cs.length := by
  have := sumL_raw (cs := cs) g cs.length (Nat.le_refl _)
  rw [Nat.sub_self, sumN, Nat.add_zero] at this
  rw [thingsL, sumL_perm g (refU_spec h256 cs.length (Nat.le_refl _)).1, this]
theorem wmul_things {cs : List Int} (h256 : cs.length ≤ 256) (g : Th → Int) : wmul g (thingsL cs) = sumZ (fun i => if 0 < cs.getD i 0 then cs.getD i 0 * g (one (cs.getD i 0) i) else 0) cs.length := by
  have := wmul_raw (cs := cs) g cs.length (Nat.le_refl _)
  rw [Nat.sub_self, sumZ, Int.add_zero] at this
  rw [thingsL, wmul_perm g (refU_spec h256 cs.length (Nat.le_refl _)).1, this]
theorem things_mem {cs : List Int} (h256 : cs.length ≤ 256) {x : Th} (h : x ∈ thingsL cs) : ∃ i, i < cs.length ∧ x = one (cs.getD i 0) i ∧ 0 < cs.getD i 0 := by
  obtain ⟨i, _, b, c, e⟩ := rawU_mem (Nat.le_refl _) ((refU_spec h256 cs.length (Nat.le_refl _)).1.mem_iff.1 h)
  exact ⟨i, b, c, e⟩
theorem rawU_has {cs : List Int} {i : Nat} (hp : 0 < cs.getD i 0) : ∀ d, d ≤ cs.length → cs.length - d ≤ i → i < cs.length → one (cs.getD i 0) i ∈ rawU cs d
  | 0, _, h1, h2 => by omega
  | d + 1, hd, h1, h2 => by
    rw [rawU]
    by_cases e : i = cs.length - (d + 1)
    · refine List.mem_append_right _ ?_
      rw [← e, if_pos hp]; simp
    · exact List.mem_append_left _ (rawU_has hp d (by omega) (by omega) h2)
theorem things_has {cs : List Int} (h256 : cs.length ≤ 256) {i : Nat} (hi : i < cs.length) (hp : 0 < cs.getD i 0) : ∃ r, r < (thingsL cs).length ∧ (thingsL cs)[r]? = some (one (cs.getD i 0) i) := by
  have := (refU_spec h256 cs.length (Nat.le_refl _)).1.mem_iff.2 (rawU_has hp cs.length (Nat.le_refl _) (by omega) hi)
  obtain ⟨r, hr⟩ := List.mem_iff_getElem?.1 this
  exact ⟨r, (List.getElem?_eq_some_iff.1 hr).1, hr⟩
theorem things_sw {cs : List Int} (h256 : cs.length ≤ 256) : sw (thingsL cs) := srt_sw (refU_spec h256 cs.length (Nat.le_refl _)).2
theorem colS_split (s : Nat) (l : List Th) (m : Nat) : colS s l = colS s (l.take m) + colS s (l.drop m) := by rw [← colS_app, List.take_append_drop]
theorem leaf_col {first : List Th} (nn : nnT first) (hc : ∀ s, colS s first ≤ 1) {r s : Nat} {x : Th} (hx : first[r]? = some x) (ho : x.o.getD s 0 = 1) (m : Nat) : colS s (first.take m) = if r < m then 1 else 0 := by
  have sp := colS_split s first m
  have h1 := hc s
  have nt : nnT (first.take m) := fun z hz => nn z (List.mem_of_mem_take hz)
  have nd : nnT (first.drop m) := fun z hz => nn z (List.mem_of_mem_drop hz)
  have a := colS_nonneg s _ nt
  have b := colS_nonneg s _ nd
  by_cases q : r < m
  · rw [if_pos q]
    have : x ∈ first.take m := List.mem_iff_getElem?.2 ⟨r, by rw [List.getElem?_take, if_pos q]; exact hx⟩
    have := col_le (s := s) nt this
    omega
  · rw [if_neg q]
    have : x ∈ first.drop m := List.mem_iff_getElem?.2 ⟨r - m, by rw [List.getElem?_drop, show m + (r - m) = r by omega]; exact hx⟩
    have := col_le (s := s) nd this
    omega
theorem selC_cnt {first : List Th} (nn : nnT first) (hc : ∀ s, colS s first ≤ 1) {r s : Nat} {x : Th} (hx : first[r]? = some x) (ho : x.o.getD s 0 = 1) : ∀ ms, selC first s ms = (cnt r ms : Nat)
  | [] => rfl
  | m :: t => by
    rw [selC, cnt, leaf_col nn hc hx ho, selC_cnt nn hc hx ho t]
    split <;> simp
theorem selC_zero {first : List Th} (nn : nnT first) {s : Nat} (h : colS s first ≤ 0) : ∀ ms, selC first s ms = 0
  | [] => rfl
  | m :: t => by
    have sp := colS_split s first m
    have a := colS_nonneg s (first.take m) fun z hz => nn z (List.mem_of_mem_take hz)
    have b := colS_nonneg s (first.drop m) fun z hz => nn z (List.mem_of_mem_drop hz)
    rw [selC, selC_zero nn h t]; omega
theorem rowL_geT (first : List Th) (h : nnT first) (hc : ∀ s, colS s first ≤ 1) : ∀ j, first.length ≤ (rowL first j).length
  | 0 => by rw [rowL]; exact Nat.le_refl _
  | j + 1 => by rw [rowL_len first h hc j]; omega
theorem colS_thing0 {cs : List Int} (h256 : cs.length ≤ 256) {s : Nat} (hz : ¬ 0 < cs.getD s 0) : colS s (thingsL cs) ≤ 0 := by
  have key : ∀ l : List Th, (∀ x ∈ l, ∃ i, i < cs.length ∧ x = one (cs.getD i 0) i ∧ 0 < cs.getD i 0) → colS s l ≤ 0 := by
    intro l
    induction l with
    | nil => intro _; exact Int.le_refl _
    | cons x r ih =>
      intro h
      obtain ⟨i, h1, h2, h3⟩ := h x (by simp)
      have := ih fun y hy => h y (by simp [hy])
      rw [colS, h2]
      show (eV i).getD s 0 + _ ≤ 0
      rw [eV_get, if_neg (fun (e : s = i ∧ s < 256) => hz (e.1 ▸ h3))]
      omega
  exact key _ fun x hx => things_mem h256 hx
def dotC (cs : List Int) (o : List Int) : Int := sumZ (fun i => cs.getD i 0 * o.getD i 0) cs.length
theorem dot_one {cs : List Int} (h256 : cs.length ≤ 256) {i : Nat} (hi : i < cs.length) : dotC cs (one (cs.getD i 0) i).o = cs.getD i 0 := by
  show sumZ (fun j => cs.getD j 0 * (eV i).getD j 0) cs.length = _
  rw [sumZ_one _ i _ hi fun j hj => by rw [eV_get, if_neg (fun (e : j = i ∧ j < 256) => hj e.1), Int.mul_zero]]
  rw [eV_get, if_pos ⟨rfl, by omega⟩, Int.mul_one]
theorem dot_both (cs : List Int) (x y : Th) : dotC cs (bothT x y).o = dotC cs x.o + dotC cs y.o := by
  unfold dotC
  rw [← sumZ_add]
  exact sumZ_congr fun i _ => by rw [bothT_get, Int.mul_add]
def isDot (cs : List Int) (l : List Th) : Prop := ∀ z ∈ l, z.w = dotC cs z.o
theorem pairL_dot {cs : List Int} : ∀ (l : List Th), isDot cs l → isDot cs (pairL l)
  | [], _ => by intro x hx; simp [pairL] at hx
  | [_], _ => by intro x hx; simp [pairL] at hx
  | x :: y :: r, h => by
    intro z hz
    rw [pairL] at hz
    rcases List.mem_cons.1 hz with e | e
    · subst e
      rw [dot_both, ← h x (by simp), ← h y (by simp)]; rfl
    · exact pairL_dot r (fun w hw => h w (by simp [hw])) z e
theorem rowL_dot {cs : List Int} {first : List Th} (h : isDot cs first) : ∀ j, isDot cs (rowL first j)
  | 0 => h
  | j + 1 => fun z hz => by
    rcases List.mem_append.1 ((mergeL_perm _ _).mem_iff.1 hz) with q | q
    · exact h z q
    · exact pairL_dot _ (rowL_dot h j) z q
theorem wS_dot {cs : List Int} : ∀ (l : List Th), isDot cs l → wS l = sumZ (fun i => cs.getD i 0 * colS i l) cs.length
  | [], _ => by
    rw [sumZ_congr (g := fun _ => 0) fun i _ => by simp [colS], sumZ_zero]; rfl
  | x :: r, h => by
    rw [wS, wS_dot r fun y hy => h y (by simp [hy]), h x (by simp)]
    unfold dotC
    rw [← sumZ_add]
    exact sumZ_congr fun i _ => by rw [colS, Int.mul_add]
def kT (l : Int) : Nat := if 0 < l ∧ l ≤ 15 then 2 ^ (15 - l.toNat) else 0
def kraftL (ls : List Int) : Nat := sumN (fun i => kT (ls.getD i 0)) ls.length
def costL (cs ls : List Int) : Int := sumZ (fun i => cs.getD i 0 * ls.getD i 0) cs.length
structure PM (cs : List Int) (top : Int) (lens : List Int) : Prop where
  len : lens.length = cs.length
  rng : ∀ i, i < cs.length → 0 ≤ lens.getD i 0 ∧ lens.getD i 0 ≤ top ∧ (0 < lens.getD i 0 ↔ 0 < cs.getD i 0)
  kraft : kraftL lens = if 2 ≤ (thingsL cs).length then 32768 else (thingsL cs).length * 16384
  mono : ∀ i k, i < cs.length → k < cs.length → cs.getD k 0 < cs.getD i 0 → 0 < cs.getD k 0 → lens.getD i 0 ≤ lens.getD k 0
  best : ∀ ls : List Int, ls.length = cs.length → (∀ i, i < cs.length → (0 < cs.getD i 0 → 1 ≤ ls.getD i 0 ∧ ls.getD i 0 ≤ top) ∧ (¬ 0 < cs.getD i 0 → ls.getD i 0 = 0)) → kraftL ls ≤ 32768 → costL cs lens ≤ costL cs ls
theorem lensOf_get {n : Nat} {l : List Th} {i : Nat} (hi : i < n) : (lensOf n l).getD i 0 = colS i l := by
  rw [lensOf, List.getD_eq_getElem?_getD, List.getElem?_map, List.getElem?_range hi]; rfl
theorem kraft_things {cs ls : List Int} (h256 : cs.length ≤ 256) (hl : ls.length = cs.length) (hz : ∀ i, i < cs.length → ¬ 0 < cs.getD i 0 → ls.getD i 0 = 0) : kraftL ls = sumL (fun x => kT (ls.getD (symF x) 0)) (thingsL cs) := by
  rw [sumL_things h256, kraftL, hl]
  refine sumN_congr fun i hi => ?_
  by_cases q : 0 < cs.getD i 0
  · rw [if_pos q, sym_one _ (by omega)]
  · rw [if_neg q, hz i hi q]; rfl
theorem cost_things {cs ls : List Int} (h256 : cs.length ≤ 256) (hok : okCounts cs = true) (f : Th → Int) (hf : ∀ i, i < cs.length → 0 < cs.getD i 0 → f (one (cs.getD i 0) i) = ls.getD i 0) : wmul f (thingsL cs) = costL cs ls := by
  rw [wmul_things h256, costL]
  refine sumZ_congr fun i hi => ?_
  by_cases q : 0 < cs.getD i 0
  · rw [if_pos q, hf i hi q]
  · have := (okCounts_at hok i).1
    rw [if_neg q, show cs.getD i 0 = 0 by omega, Int.zero_mul]
theorem kT_of {L c : Nat} (h1 : 0 < c) (h2 : c ≤ L + 1) (h3 : L + 1 ≤ 15) : kT (c : Int) = 2 ^ (14 - L) * 2 ^ (L + 1 - c) := by
  rw [kT, if_pos ⟨by omega, by omega⟩, ← Nat.pow_add]
  congr 1
  omega
theorem pm_lens {cs : List Int} (h256 : cs.length ≤ 256) (hok : okCounts cs = true) {L : Nat} (hL : L + 1 ≤ 15) (hn : (thingsL cs).length ≤ 2 ^ (L + 1)) :
    PM cs ((L : Int) + 1) (lensOf cs.length ((rowL (thingsL cs) L).take (if (thingsL cs).length = 0 then 0 else max (2 * (thingsL cs).length - 2) 1))) := by
  obtain ⟨nn, hc, hw, hlen⟩ := things_bd hok h256
  have hs := things_sw h256
  have hmem := fun {x : Th} (h : x ∈ thingsL cs) => things_mem h256 h
  have hhas := fun {i : Nat} (hi : i < cs.length) (hp : 0 < cs.getD i 0) => things_has h256 hi hp
  have hz0 := fun {s : Nat} (h : ¬ 0 < cs.getD s 0) => colS_thing0 h256 h
  have hdot : isDot cs (thingsL cs) := fun z hz => by
    obtain ⟨i, h1, h2, h3⟩ := hmem hz
    rw [h2, dot_one h256 h1]; rfl
  have hkt := fun {ls : List Int} (hl : ls.length = cs.length) hz => kraft_things (ls := ls) h256 hl hz
  have hct := fun {ls : List Int} (f : Th → Int) hf => cost_things (cs := cs) (ls := ls) h256 hok f hf
  have hlast := rowL_last _ nn hc (L := L + 1) (by omega) hn
  have hge := rowL_geT _ nn hc L
  rw [Nat.add_sub_cancel] at hlast
  generalize hF : thingsL cs = first at *
  have hKl : (if first.length = 0 then 0 else max (2 * first.length - 2) 1) ≤ (rowL first L).length := by split <;> omega
  generalize hK : (if first.length = 0 then 0 else max (2 * first.length - 2) 1) = K at *
  obtain ⟨m, ms0, g1, g2, g3, g4, g5, -⟩ := chosen hs nn hc L K hKl
  generalize hms : m :: ms0 = ms at *
  have gl : ms.length = L + 1 := by rw [← hms, List.length_cons, g1]
  have gm : ∀ a ∈ ms, a ≤ first.length := fun a ha => by
    rw [← hms] at ha g2
    rcases List.mem_cons.1 ha with q | q
    · omega
    · have := (List.pairwise_cons.1 g2).1 a q; omega
  have hcnt : ∀ r i, i < cs.length → first[r]? = some (one (cs.getD i 0) i) → colS i ((rowL first L).take K) = (cnt r ms : Nat) := fun r i hi hr => by
    rw [g4 i]
    refine selC_cnt nn hc hr ?_ ms
    show (eV i).getD i 0 = 1
    rw [eV_get, if_pos ⟨rfl, by omega⟩]
  have hzero : ∀ i, ¬ 0 < cs.getD i 0 → colS i ((rowL first L).take K) = 0 := fun i hi => by rw [g4 i, selC_zero nn (hz0 hi)]
  have hcost : costL cs (lensOf cs.length ((rowL first L).take K)) = wS ((rowL first L).take K) := by
    rw [wS_dot (cs := cs) _ fun z hz => rowL_dot hdot L z (List.mem_of_mem_take hz)]
    exact sumZ_congr fun i hi => by rw [lensOf_get hi]
  -- each number
  have hpos : ∀ r, r < first.length → 0 < cnt r ms := by
    intro r hr
    by_cases h2 : 2 ≤ first.length
    · refine (krR_one h2 gl g2 gm ?_).2 r hr
      rw [g5, ← hK, if_neg (by omega), show max (2 * first.length - 2) 1 = 2 * (first.length - 1) by omega, Nat.pow_succ, Nat.mul_right_comm, Nat.mul_comm (2 * 2 ^ L), Nat.mul_comm (2 ^ L) 2]
      have e : first.length * (2 * 2 ^ L) = (first.length - 1) * (2 * 2 ^ L) + 2 * 2 ^ L := by
        have : first.length = (first.length - 1) + 1 := by omega
        rw [this, Nat.add_mul, Nat.one_mul]; rfl
      omega
    · have e1 : first.length = 1 := by omega
      have : K = 1 := by rw [← hK, if_neg (by omega)]; omega
      have hx := List.getElem?_eq_getElem (l := first) (i := r) hr
      obtain ⟨i, h1, h2, h3⟩ := hmem (List.getElem_mem hr)
      rw [h2] at hx
      have hc1 := hcnt r i h1 hx
      obtain ⟨y, hy⟩ := List.length_eq_one_iff.1 e1
      have hrow : rowL first L = [y] := by
        rw [hy]
        have : ∀ j, rowL [y] j = [y] := by
          intro j
          induction j with
          | zero => rfl
          | succ j ih => rw [rowL, ih]; rfl
        exact this L
      rw [hrow, this] at hc1
      have hr0 : r = 0 := by omega
      rw [hy, hr0] at hx
      simp only [List.getElem?_cons_zero, Option.some.injEq] at hx
      rw [hx] at hc1
      have : colS i ([one (cs.getD i 0) i].take 1) = 1 := by
        show (eV i).getD i 0 + 0 = 1
        rw [eV_get, if_pos ⟨rfl, by omega⟩]; rfl
      rw [this] at hc1
      omega
  have hle : ∀ r, cnt r ms ≤ L + 1 := fun r => by rw [← gl]; exact cnt_le r ms
  refine ⟨by simp [lensOf], fun i hi => ?_, ?_, fun i k hi hk hik hp => ?_, fun ls hll hls hkr => ?_⟩
  · rw [lensOf_get hi]
    by_cases q : 0 < cs.getD i 0
    · obtain ⟨r, hr, hx⟩ := hhas hi q
      rw [hcnt r i hi hx]
      have := hpos r hr
      have := hle r
      omega
    · rw [hzero i q]; omega
  · rw [hkt (by simp [lensOf]) fun i hi q => by rw [lensOf_get hi, hzero i q]]
    have e : sumL (fun x => kT ((lensOf cs.length ((rowL first L).take K)).getD (symF x) 0)) first = sumN (fun r => 2 ^ (14 - L) * krR ms r) first.length := by
      have e1 := sumL_sumN (g := fun x => kT ((lensOf cs.length ((rowL first L).take K)).getD (symF x) 0)) (f := fun r => kT ((cnt r ms : Nat) : Int)) (l := first) fun r x hx => by
        obtain ⟨i, h1, h2, h3⟩ := hmem (List.mem_of_getElem? hx)
        rw [h2] at hx
        rw [h2, sym_one _ (by omega), lensOf_get h1, hcnt r i h1 hx]
      rw [e1]
      refine sumN_congr fun r hr => ?_
      rw [kT_of (hpos r hr) (hle r) hL, krR, gl]
    rw [e, sumN_mul, hF]
    by_cases h2 : 2 ≤ first.length
    · have := (krR_one h2 gl g2 gm (by
        rw [g5, ← hK, if_neg (by omega), show max (2 * first.length - 2) 1 = 2 * (first.length - 1) by omega, Nat.pow_succ, Nat.mul_right_comm, Nat.mul_comm (2 * 2 ^ L), Nat.mul_comm (2 ^ L) 2]
        have e : first.length * (2 * 2 ^ L) = (first.length - 1) * (2 * 2 ^ L) + 2 * 2 ^ L := by
          have : first.length = (first.length - 1) + 1 := by omega
          rw [this, Nat.add_mul, Nat.one_mul]; rfl
        omega)).1
      rw [if_pos h2, this, ← Nat.pow_add, show 14 - L + (L + 1) = 15 by omega]
    · rw [if_neg h2]
      match hfl : first.length, h2 with
      | 0, _ => simp [sumN]
      | 1, _ =>
        have h1 : K = 1 := by rw [← hK, if_neg (by omega)]; omega
        have p := hpos 0 (by omega)
        have w := krR_wid (n := 1) ms g2 (by rw [← hfl]; exact gm)
        rw [g5, h1, gl, Nat.one_mul, Nat.one_mul, Nat.pow_succ] at w
        have : sumN (krR ms) 1 = 2 ^ L := by omega
        rw [this, ← Nat.pow_add, show 14 - L + L = 14 by omega]
      | n + 2, h2 => omega
  · rw [lensOf_get hi, lensOf_get hk]
    obtain ⟨r, hr, hx⟩ := hhas hi (by omega)
    obtain ⟨q, hq, hy⟩ := hhas hk hp
    rw [hcnt r i hi hx, hcnt q k hk hy]
    have : q ≤ r := by
      apply Classical.byContradiction
      intro h
      have h1 := List.getElem_of_getElem? hx
      have h2 := List.getElem_of_getElem? hy
      obtain ⟨a1, a2⟩ := h1
      obtain ⟨b1, b2⟩ := h2
      have := List.pairwise_iff_getElem.1 hs r q a1 b1 (by omega)
      rw [a2, b2] at this
      have : cs.getD i 0 ≤ cs.getD k 0 := this
      omega
    have := cnt_anti this ms
    omega
  · rw [hcost]
    have hf : ∀ x ∈ first, ∃ i, i < cs.length ∧ symF x = i ∧ 0 < cs.getD i 0 ∧ 1 ≤ ls.getD i 0 ∧ ls.getD i 0 ≤ (L : Int) + 1 := fun x hx => by
      obtain ⟨i, h1, h2, h3⟩ := hmem hx
      exact ⟨i, h1, by rw [h2, sym_one _ (by omega)], h3, (hls i h1).1 h3⟩
    have ec : costL cs ls = wmul (fun x => (((ls.getD (symF x) 0).toNat : Nat) : Int)) first := by
      refine (hct _ fun i hi q => ?_).symm
      rw [sym_one _ (by omega)]
      have := (hls i hi).1 q
      omega
    rw [ec]
    have ek : kraftL ls = 2 ^ (14 - L) * sumL (fun x => 2 ^ (L + 1 - (ls.getD (symF x) 0).toNat)) first := by
      rw [hkt hll fun i hi q => (hls i hi).2 q, ← sumL_mul]
      refine sumL_congr fun x hx => ?_
      obtain ⟨i, h1, h2, h3, h4, h5⟩ := hf x hx
      rw [h2]
      have := kT_of (L := L) (c := (ls.getD i 0).toNat) (by omega) (by omega) hL
      rw [← this]
      congr 1
      omega
    by_cases h2 : 2 ≤ first.length
    · have hK2 : K = 2 * first.length - 2 := by rw [← hK, if_neg (by omega)]; omega
      rw [hK2]
      refine least hs nn hc _ (fun x hx => ?_) ?_
      · obtain ⟨i, h1, h2, h3, h4, h5⟩ := hf x hx
        rw [h2]; omega
      · rw [ek] at hkr
        have e15 : 32768 = 2 ^ (14 - L) * 2 ^ (L + 1) := by rw [← Nat.pow_add, show 14 - L + (L + 1) = 15 by omega]
        rw [e15] at hkr
        exact Nat.le_of_mul_le_mul_left hkr (Nat.two_pow_pos _)
    · match first, h2, hK, hf, nn with
      | [], _, hK, _, _ =>
        have : K = 0 := by rw [← hK]; rfl
        rw [this]; exact Int.le_refl _
      | [y], _, hK, hf, nn =>
        have : K = 1 := by rw [← hK]; rfl
        have hrow : ∀ j, rowL [y] j = [y] := by
          intro j
          induction j with
          | zero => rfl
          | succ j ih => rw [rowL, ih]; rfl
        rw [this, hrow]
        obtain ⟨i, h1, h2, h3, h4, h5⟩ := hf y (by simp)
        show y.w + 0 ≤ y.w * (((ls.getD (symF y) 0).toNat : Nat) : Int) + 0
        rw [h2]
        have hy := (nn y (by simp)).1
        have := Int.mul_le_mul_of_nonneg_left (show (1 : Int) ≤ (((ls.getD i 0).toNat : Nat) : Int) by omega) hy
        omega
      | _ :: _ :: _, h2, _, _, _ => simp at h2
end Go.Proofs.Ytkkjjjgcfnhabaa.Eng
namespace Go.Proofs.Ytkkjjjgcfnhabaa.Eng
open Go Go.Proofs
theorem getD_of {xs : List Int} {i : Nat} {x : Int} (h : xs[i]? = some x) : xs.getD i 0 = x := by rw [List.getD_eq_getElem?_getD, h]; rfl
theorem app93 {H : Hp} {base : Nat} {A : Option Addr} {n c : Nat} {xs : List Int} (own : ownI H base 2 A n c xs) (hbase : base ≤ H.size) (hn : n ≤ 17592186044415) {y : Int} (hy : r64 y) (d : Nat) {K : Value → Hp → Prop}
    (hK : ∀ A' c' H', ownI H' base 2 A' (n + 1) c' (xs ++ [y]) → offA A H H' → K (.slice A' (n + 1) c') H') :
    appW cx 93 93 (.slice A n c) (.slice (some ⟨H.size, 0, none⟩) 1 d) (Array.push H (.cells #[.int .i64 y] 2 (0, 0))) K := by
  have k : Keeps H (Array.push H (.cells #[.int .i64 y] 2 (0, 0))) := Keeps.push ..
  have hs : rdC (Array.push H (.cells #[.int .i64 y] 2 (0, 0))) (some ⟨H.size, 0, none⟩) (1 * 1) [Value.int .i64 y] := rdC_new H [Value.int .i64 y] 2 (0, 0) _ rfl
  refine app_own' (i := ⟨93, .slc 2, 1, 24, [.slice none 0 0], [.slc], [(false, [.slc])], false⟩) (e := 2) (ie := ⟨2, .int .i64, 1, 8, [.int .i64 0], [.int .i64], [(false, [.int .i64])], false⟩) rfl rfl rfl rfl (own.own.keeps k) (m := 1) (ys := [Value.int .i64 y])
    (show srcC _ 1 (.slice (some ⟨H.size, 0, none⟩) 1 d) 1 _ from ⟨rfl, hs⟩) rfl (by simp [Value.oneCell']) (by show (n + 1) * 8 ≤ _; omega) (by have := k.size; omega) ?_
  intro A' c' H' w f e _
  refine hK A' c' H' ⟨by rw [List.flatMap_append]; exact w, fun x hx => ?_⟩ ⟨Nat.le_trans k.size f.1, fun q hq hne => by rw [f.2 q (Nat.lt_of_lt_of_le hq k.size) hne]; exact k.old q hq⟩
  rcases List.mem_append.1 hx with q | q
  · exact own.rng x q
  · simp at q; subst q; exact hy
def bent1 (x : Int) : Int := if Int.tmod x 1073741824 < 0 then -(Int.tmod x 1073741824) else Int.tmod x 1073741824
theorem bent1_bd (x : Int) : 0 ≤ bent1 x ∧ bent1 x < 1073741824 := by
  have a := Int.tmod_lt_of_pos x (show (0 : Int) < 1073741824 by decide)
  have b := Int.lt_tmod_of_pos x (show (0 : Int) < 1073741824 by decide)
  unfold bent1; split <;> omega
def bentL (cs : List Int) : List Int := (cs.take 256).map bent1
theorem bentL_len (cs : List Int) : (bentL cs).length ≤ 256 := by simp [bentL]; omega
theorem bentL_bd (cs : List Int) : ∀ x ∈ bentL cs, 0 ≤ x ∧ x < 1073741824 := fun x hx => by
  obtain ⟨y, _, rfl⟩ := List.mem_map.1 hx
  exact bent1_bd y
theorem bentL_ok (cs : List Int) : okCounts (bentL cs) = true := by
  refine List.all_eq_true.2 fun x hx => ?_
  have := bentL_bd cs x hx
  simp only [Bool.and_eq_true, decide_eq_true_eq]; omega
theorem f61.spec (φ : Fx) (A : Option Addr) (n c : Nat) (cs : List Int) (H : Hp) (hr : intsR H A n cs) :
    HCalls cx.P φ 61 [.slice A n c] H fun r H' => ∃ A' n' c', r = .slice A' n' c' ∧ ownI H' H.size 2 A' n' c' (bentL cs) ∧ Keeps H H' := by
  apply f61.of
  unfold f61.VC
  have hl := hr.1
  refine ⟨fun lA ln lc i H' => 0 ≤ i ∧ i ≤ n ∧ i ≤ 256 ∧ (ln : Int) = i ∧ Keeps H H' ∧ ownI H' H.size 2 lA ln lc ((cs.take i.toNat).map bent1), fun _ _ _ i _ => (256 - i).toNat,
    ⟨by omega, by omega, by omega, rfl, Keeps.refl _, ownI_nil ..⟩, ?_⟩
  rintro lA ln lc i _ H1 ⟨h0, h1, h2, hln, k1, own⟩
  have s1 := k1.size
  refine ⟨fun q H' => H' = H1 ∧ q = (decide (i < n) && decide (i < 256)), ⟨fun h => ⟨rfl, ?_⟩, fun h => ⟨rfl, ?_⟩⟩, ?_⟩
  · rw [h]; rfl
  · rw [h]; rfl
  rintro q _ H2 ⟨rfl, hq⟩
  refine ⟨fun h => ?_, fun h => ?_⟩
  · rw [h] at hq
    have hq := hq.symm
    simp only [Bool.and_eq_true, decide_eq_true_eq] at hq
    obtain ⟨x, b, o, hx, rfl, cx1, _⟩ := hr.at h0 hq.1
    refine ⟨b, o, rfl, ⟨h0, hq.1⟩, x, k1.cel cx1, by decide, fun v H' => H' = H2 ∧ v = bent1 x, ⟨fun hn => ⟨?_, rfl, ?_⟩, fun hn => ⟨rfl, ?_⟩⟩, ?_⟩
    · have a := Int.tmod_lt_of_pos x (show (0 : Int) < 1073741824 by decide)
      have b := Int.lt_tmod_of_pos x (show (0 : Int) < 1073741824 by decide)
      omega
    · simp only [decide_eq_true_eq] at hn
      rw [bent1, if_pos hn]
    · simp only [decide_eq_false_iff_not] at hn
      rw [bent1, if_neg hn]
    · rintro v _ H3 ⟨rfl, rfl⟩
      have bd := bent1_bd x
      intro H4
      refine app93 own s1 (by omega) (y := bent1 x) ⟨by omega, by omega⟩ 1 ?_
      intro A' c' H5 w f
      refine ⟨_, _, _, rfl, by omega, ⟨by omega, by omega, by omega, by omega, f.keeps k1 fun b hb => (ownC.lt own.own hb).1, ?_⟩, by dsimp only; omega⟩
      rw [show (i + 1).toNat = i.toNat + 1 by omega, List.take_add_one, hx]
      simpa using w
  · rw [h] at hq
    have hq := hq.symm
    simp only [Bool.and_eq_false_iff, decide_eq_false_iff_not] at hq
    have e : cs.take i.toNat = cs.take 256 := by
      by_cases q : i.toNat = 256
      · rw [q]
      · rw [List.take_of_length_le (by omega), List.take_of_length_le (by omega)]
    rw [e] at own
    exact ⟨_, _, _, rfl, own, k1⟩
def usedN (cs : List Int) (n : Nat) : Nat := sumN (fun i => if 0 < cs.getD i 0 then 1 else 0) n
theorem usedN_le (cs : List Int) : ∀ n, usedN cs n ≤ n
  | 0 => Nat.le_refl _
  | n + 1 => by have := usedN_le cs n; unfold usedN at *; rw [sumN]; split <;> omega
theorem usedN_things {cs : List Int} (h256 : cs.length ≤ 256) : usedN cs cs.length = (thingsL cs).length := by
  have := sumL_things h256 (fun _ => 1)
  have e : ∀ l : List Th, sumL (fun _ => 1) l = l.length := by
    intro l
    induction l with
    | nil => rfl
    | cons x r ih => rw [sumL, ih, List.length_cons]; omega
  rw [e] at this
  exact this.symm
theorem f62.spec (φ : Fx) (A : Option Addr) (n c : Nat) (cs : List Int) (H : Hp) (hr : intsR H A n cs) (hn : n ≤ 1048576) :
    HCalls cx.P φ 62 [.slice A n c] H fun r H' => r = .int .i64 (usedN cs cs.length : Nat) ∧ H' = H := by
  apply f62.of
  unfold f62.VC
  have hl := hr.1
  refine ⟨fun v i H' => 0 ≤ i ∧ i ≤ n ∧ H' = H ∧ v = (usedN cs i.toNat : Nat), fun _ i _ => (n - i).toNat, ⟨by omega, by omega, rfl, rfl⟩, ?_⟩
  rintro v i _ H1 ⟨h0, h1, rfl, rfl⟩
  refine ⟨fun hi => ?_, fun hi => ?_⟩
  · simp only [decide_eq_true_eq] at hi
    obtain ⟨x, b, o, hx, rfl, cx1, _⟩ := hr.at h0 hi
    have hg := getD_of hx
    have hb := usedN_le cs i.toNat
    have e : usedN cs (i + 1).toNat = usedN cs i.toNat + if 0 < x then 1 else 0 := by
      rw [show (i + 1).toNat = i.toNat + 1 by omega]; unfold usedN; rw [sumN, hg]
    refine ⟨b, o, rfl, ⟨h0, hi⟩, x, cx1, fun v H' => H' = H1 ∧ v = (usedN cs (i + 1).toNat : Nat), ⟨fun hp => ⟨by omega, rfl, ?_⟩, fun hp => ⟨rfl, ?_⟩⟩, fun v _ H2 h2 => ⟨by omega, ⟨by omega, by omega, h2.1, h2.2⟩, by dsimp only; omega⟩⟩
    · simp only [decide_eq_true_eq] at hp
      rw [e, if_pos hp]; rfl
    · simp only [decide_eq_false_iff_not] at hp
      rw [e, if_neg hp]; rfl
  · simp only [decide_eq_false_iff_not] at hi
    rw [show i.toNat = cs.length by omega]
    exact ⟨rfl, rfl⟩
theorem pow15 {l : Int} (h1 : 1 ≤ l) (h2 : l ≤ 15) : (1 : Int) * 2 ^ (min l.toNat 64) = ((2 ^ l.toNat : Nat) : Int) ∧ 2 ^ l.toNat ≤ 32768 := pow_lim (by omega) (by omega)
theorem f63.spec (φ : Fx) (limit n : Int) (H : Hp) (hn : n ≤ 32768) :
    HCalls cx.P φ 63 [.int .i64 limit, .int .i64 n] H fun r H' => (∃ l, r = .int .i64 l ∧ 1 ≤ l ∧ l ≤ 15 ∧ n ≤ ((2 ^ l.toNat : Nat) : Int)) ∧ H' = H := by
  apply f63.of
  unfold f63.VC
  have a := Int.tmod_lt_of_pos limit (show (0 : Int) < 15 by decide)
  have b := Int.lt_tmod_of_pos limit (show (0 : Int) < 15 by decide)
  refine ⟨by decide, fun l H' => H' = H ∧ 0 ≤ l ∧ l ≤ 14, ⟨fun h => ⟨by omega, rfl, by omega, ?_⟩, fun h => ⟨rfl, ?_, by omega⟩⟩, ?_⟩
  · simp only [decide_eq_true_eq] at h; omega
  · simp only [decide_eq_false_iff_not] at h; omega
  rintro l _ H1 ⟨rfl, h0, h1⟩
  refine ⟨by omega, fun l H' => H' = H1 ∧ 1 ≤ l ∧ l ≤ 15, fun l _ => (15 - l).toNat, ⟨rfl, by omega, by omega⟩, ?_⟩
  clear h0 h1
  rintro l _ H2 ⟨rfl, h1, h2⟩
  obtain ⟨e1, e2⟩ := pow15 h1 h2
  rw [e1]
  generalize hP : 2 ^ l.toNat = P at *
  refine ⟨by omega, by omega, fun h => ?_, fun h => ?_⟩
  · simp only [decide_eq_true_eq] at h
    have : l ≠ 15 := fun e => by
      subst e
      have : P = 32768 := hP.symm
      omega
    exact ⟨by omega, ⟨rfl, by omega, by omega⟩, by dsimp only; omega⟩
  · simp only [decide_eq_false_iff_not] at h
    exact ⟨⟨l, rfl, h1, h2, by rw [hP]; omega⟩, rfl⟩
theorem sumZ_bd {f : Nat → Int} {M : Int} : ∀ {n : Nat}, (∀ i, i < n → 0 ≤ f i ∧ f i ≤ M) → 0 ≤ sumZ f n ∧ sumZ f n ≤ n * M
  | 0, _ => by simp [sumZ]
  | n + 1, h => by
    have := sumZ_bd (n := n) fun i hi => h i (by omega)
    have := h n (by omega)
    rw [sumZ]
    have e : ((n + 1 : Nat) : Int) * M = n * M + M := by rw [Int.natCast_add, Int.add_mul]; simp
    omega
theorem f129.spec (φ : Fx) (A : Option Addr) (n c : Nat) (ls : List Int) (H : Hp) (hr : intsR H A n ls) (hn : n ≤ 1048576) (hb : ∀ i, i < ls.length → 0 ≤ ls.getD i 0 ∧ ls.getD i 0 ≤ 15) :
    HCalls cx.P φ 129 [.slice A n c] H fun r H' => r = .bool true ∧ H' = H := by
  apply f129.of
  unfold f129.VC
  have hl := hr.1
  refine ⟨fun i H' => 0 ≤ i ∧ i ≤ n ∧ H' = H, fun i _ => (n - i).toNat, ⟨by omega, by omega, rfl⟩, ?_⟩
  rintro i _ H1 ⟨h0, h1, rfl⟩
  refine ⟨fun hi => ?_, fun hi => ⟨rfl, rfl⟩⟩
  simp only [decide_eq_true_eq] at hi
  obtain ⟨x, b, o, hx, rfl, cx1, _⟩ := hr.at h0 hi
  have hg := getD_of hx
  have := hb i.toNat (by omega)
  rw [hg] at this
  refine ⟨b, o, rfl, ⟨h0, hi⟩, x, cx1, fun q H' => H' = H1 ∧ q = false, ⟨fun h => ?_, fun h => ⟨rfl, ?_⟩⟩, ?_⟩
  · simp only [decide_eq_true_eq] at h; omega
  · simp; omega
  · rintro q _ H2 ⟨rfl, rfl⟩
    exact ⟨fun h => (nomatch h), fun _ => ⟨by omega, ⟨by omega, by omega, rfl⟩, by dsimp only; omega⟩⟩
theorem prod_bd {a b M : Int} (h1 : 0 ≤ a) (h2 : a ≤ M) (h3 : 0 ≤ b) (h4 : b ≤ 15) : 0 ≤ a * b ∧ a * b ≤ 15 * M := by
  refine ⟨Int.mul_nonneg h1 h3, ?_⟩
  have h := Int.mul_le_mul h2 h4 h3 (by omega : (0 : Int) ≤ M)
  rw [Int.mul_comm 15]; exact h
theorem f64.spec (φ : Fx) (A : Option Addr) (n c : Nat) (cs : List Int) (B : Option Addr) (m d : Nat) (ls : List Int) (H : Hp) (ha : intsR H A n cs) (hb : intsR H B m ls) (h256 : cs.length ≤ 256) (hok : okCounts cs = true)
    (hl : ls.length = cs.length) (hbd : ∀ i, i < ls.length → 0 ≤ ls.getD i 0 ∧ ls.getD i 0 ≤ 15) :
    HCalls cx.P φ 64 [.slice A n c, .slice B m d] H fun r H' => r = .tuple #[.int .i64 (costL cs ls), .int .i64 0] ∧ H' = H := by
  apply f64.of
  unfold f64.VC
  have la := ha.1
  have lb := hb.1
  refine ⟨fun q H' => H' = H ∧ q = false, ⟨fun h => ?_, fun h => ⟨rfl, ?_⟩⟩, ?_⟩
  · simp only [decide_eq_true_eq] at h; omega
  · simp; omega
  rintro q _ H1 ⟨rfl, rfl⟩
  refine ⟨fun h => (nomatch h), fun _ => ?_⟩
  refine ⟨fun q H' => H' = H1 ∧ q = false, ?_, ?_⟩
  · refine HCalls.mono (f122.spec φ A n c cs H1 ha (by omega)) ?_
    rintro v H2 ⟨rfl, rfl⟩
    rw [if_pos hok]
    refine ⟨_, rfl, fun h => by simp at h, fun _ => ?_⟩
    refine HCalls.mono (f129.spec φ B m d ls H2 hb (by omega) hbd) ?_
    rintro v H3 ⟨rfl, rfl⟩
    exact ⟨_, rfl, rfl, rfl⟩
  rintro q _ H2 ⟨rfl, rfl⟩
  refine ⟨fun h => (nomatch h), fun _ => ?_⟩
  have hp : ∀ i, i < cs.length → 0 ≤ cs.getD i 0 * ls.getD i 0 ∧ cs.getD i 0 * ls.getD i 0 ≤ 16492674416640 := fun i hi => by
    have := okCounts_at hok i
    have := hbd i (by omega)
    exact prod_bd (M := 1099511627776) (by omega) (by omega) (by omega) (by omega)
  refine ⟨fun sum i H' => 0 ≤ i ∧ i ≤ n ∧ H' = H2 ∧ sum = sumZ (fun i => cs.getD i 0 * ls.getD i 0) i.toNat, fun _ i _ => (n - i).toNat, ⟨by omega, by omega, rfl, rfl⟩, ?_⟩
  rintro sum i _ H3 ⟨h0, h1, rfl, rfl⟩
  refine ⟨fun hi => ?_, fun hi => ?_⟩
  · simp only [decide_eq_true_eq] at hi
    obtain ⟨x, b, o, hx, rfl, cx1, _⟩ := ha.at h0 (by omega)
    obtain ⟨y, b2, o2, hy, rfl, cy1, _⟩ := hb.at h0 (by omega)
    have gx := getD_of hx
    have gy := getD_of hy
    have p := hp i.toNat (by omega)
    have sb := sumZ_bd (M := 16492674416640) (n := i.toNat) fun j hj => hp j (by omega)
    rw [gx, gy] at p
    refine ⟨b, o, rfl, ⟨h0, by omega⟩, x, cx1, b2, o2, rfl, ⟨h0, by omega⟩, y, cy1, by omega, by omega, by omega, ⟨by omega, by omega, rfl, ?_⟩, by dsimp only; omega⟩
    rw [show (i + 1).toNat = i.toNat + 1 by omega, sumZ, gx, gy]
  · simp only [decide_eq_false_iff_not] at hi
    have : i.toNat = cs.length := by omega
    rw [this]
    exact ⟨rfl, rfl⟩
theorem sumN_bd {f : Nat → Nat} {M : Nat} : ∀ {n : Nat}, (∀ i, f i ≤ M) → sumN f n ≤ n * M
  | 0, _ => by simp [sumN]
  | n + 1, h => by
    have := sumN_bd (n := n) h
    have := h n
    rw [sumN, Nat.add_mul]; omega
theorem kT_le (l : Int) : kT l ≤ 32768 := by
  unfold kT
  split
  · have : 2 ^ (15 - l.toNat) ≤ 2 ^ 15 := Nat.pow_le_pow_right (by decide) (by omega)
    exact this
  · omega
theorem f65.spec (φ : Fx) (A : Option Addr) (n c : Nat) (ls : List Int) (H : Hp) (hr : intsR H A n ls) (hn : n ≤ 1048576) :
    HCalls cx.P φ 65 [.slice A n c] H fun r H' => r = .int .i64 (kraftL ls : Nat) ∧ H' = H := by
  apply f65.of
  unfold f65.VC
  have hl := hr.1
  refine ⟨fun sum i H' => 0 ≤ i ∧ i ≤ n ∧ H' = H ∧ sum = (sumN (fun i => kT (ls.getD i 0)) i.toNat : Nat), fun _ i _ => (n - i).toNat, ⟨by omega, by omega, rfl, rfl⟩, ?_⟩
  rintro sum i _ H1 ⟨h0, h1, rfl, rfl⟩
  refine ⟨fun hi => ?_, fun hi => ?_⟩
  · simp only [decide_eq_true_eq] at hi
    obtain ⟨x, b, o, hx, rfl, cx1, _⟩ := hr.at h0 hi
    have hg := getD_of hx
    have sb := sumN_bd (f := fun i => kT (ls.getD i 0)) (M := 32768) (n := i.toNat) fun j => kT_le _
    have e : sumN (fun i => kT (ls.getD i 0)) (i + 1).toNat = sumN (fun i => kT (ls.getD i 0)) i.toNat + kT x := by
      rw [show (i + 1).toNat = i.toNat + 1 by omega, sumN, hg]
    refine ⟨fun q H' => H' = H1 ∧ (q = true ↔ 0 < x ∧ x ≤ 15), ⟨b, o, rfl, ⟨h0, hi⟩, x, cx1, fun h => ⟨b, o, rfl, ⟨h0, hi⟩, x, cx1, rfl, ?_⟩, fun h => ⟨rfl, ?_⟩⟩, ?_⟩
    · simp only [decide_eq_true_eq] at h; simp; omega
    · simp only [decide_eq_false_iff_not] at h; simp; omega
    rintro q _ H2 ⟨rfl, hq⟩
    have kl := kT_le x
    refine ⟨fun v H' => H' = H2 ∧ v = (sumN (fun i => kT (ls.getD i 0)) (i + 1).toNat : Nat), ⟨fun h => ?_, fun h => ⟨rfl, ?_⟩⟩, fun v _ H3 h3 => ⟨by omega, ⟨by omega, by omega, h3.1, h3.2⟩, by dsimp only; omega⟩⟩
    · have hb := hq.1 h
      have ep : (1 : Int) * 2 ^ (min (15 - x).toNat 64) = (kT x : Nat) := by
        rw [kT, if_pos hb, show min (15 - x).toNat 64 = 15 - x.toNat by omega, Int.one_mul]
        push_cast; rfl
      refine ⟨b, o, rfl, ⟨h0, hi⟩, x, cx1, by omega, by omega, ?_⟩
      rw [ep]
      exact ⟨by omega, by omega, rfl, by rw [e]; omega⟩
    · have : kT x = 0 := by rw [kT, if_neg]; intro g; have := hq.2 g; rw [h] at this; cases this
      rw [e, this]; rfl
  · simp only [decide_eq_false_iff_not] at hi
    rw [show i.toNat = ls.length by omega]
    exact ⟨rfl, rfl⟩
end Go.Proofs.Ytkkjjjgcfnhabaa.Eng
namespace Go.Proofs.Ytkkjjjgcfnhabaa.Eng
open Go Go.Proofs
theorem kraft_top {cs ls : List Int} (h256 : cs.length ≤ 256) (hl : ls.length = cs.length) {top : Int} (h1 : 1 ≤ top) (h2 : top ≤ 15) (hn : (thingsL cs).length ≤ 2 ^ top.toNat)
    (hp : ∀ j, j < cs.length → (0 < cs.getD j 0 → ls.getD j 0 = top) ∧ (¬ 0 < cs.getD j 0 → ls.getD j 0 = 0)) : kraftL ls ≤ 32768 := by
  rw [kraft_things h256 hl fun i hi q => (hp i hi).2 q]
  have e : sumL (fun x => kT (ls.getD (symF x) 0)) (thingsL cs) = sumL (fun x => 2 ^ (15 - top.toNat) * 1) (thingsL cs) := sumL_congr fun x hx => by
    obtain ⟨i, a, b, c⟩ := things_mem h256 hx
    rw [b, sym_one _ (by omega), (hp i a).1 c, kT, if_pos ⟨by omega, h2⟩, Nat.mul_one]
  have c1 : ∀ l : List Th, sumL (fun _ => 1) l = l.length := by
    intro l
    induction l with
    | nil => rfl
    | cons x r ih => rw [sumL, ih, List.length_cons]; omega
  rw [e, sumL_mul, c1]
  have e15 : 32768 = 2 ^ (15 - top.toNat) * 2 ^ top.toNat := by rw [← Nat.pow_add, show 15 - top.toNat + top.toNat = 15 by omega]
  rw [e15]
  exact Nat.mul_le_mul_left _ hn
def cellI (H : Hp) (b o : Nat) : Int := match cel H b o with
  | some (.int _ v) => v
  | _ => 0
theorem cellI_of {H : Hp} {b o : Nat} {k : IntKind} {v : Int} (h : cel H b o = some (.int k v)) : cellI H b o = v := by unfold cellI; rw [h]
/-- Lengths that fit the counts and the limit. -/
def fitL (cs : List Int) (top : Int) (ls : List Int) : Prop := ∀ j, j < cs.length → (0 < cs.getD j 0 → 1 ≤ ls.getD j 0 ∧ ls.getD j 0 ≤ top) ∧ (¬ 0 < cs.getD j 0 → ls.getD j 0 = 0)
/-- What Lengths answers for right counts. -/
theorem len_pm {cs : List Int} (h256 : cs.length ≤ 256) (hok : okCounts cs = true) {top : Int} (h1 : 1 ≤ top) (h2 : top ≤ 15) (hn : (thingsL cs).length ≤ 2 ^ top.toNat) : (lenRes cs top).2 = 0 ∧ PM cs top (lenRes cs top).1 := by
  rw [lenRes_ok (by omega) hok (by omega) (by omega), if_neg (by omega)]
  refine ⟨rfl, ?_⟩
  have := pm_lens h256 hok (L := top.toNat - 1) (by omega) (by rw [show top.toNat - 1 + 1 = top.toNat by omega]; exact hn)
  rw [show ((top.toNat - 1 : Nat) : Int) + 1 = top by omega] at this
  exact this
theorem f8.spec (φ : Fx) (A0 : Option Addr) (n0 c0 : Nat) (cs0 : List Int) (limit : Int) (B0 : Option Addr) (m0 d0 : Nat) (os : List Int) (H : Hp) (hr : intsR H A0 n0 cs0) (ho : intsR H B0 m0 os) :
    HCalls cx.P φ 8 [.slice A0 n0 c0, .int .i64 limit, .slice B0 m0 d0] H fun r H' => r = .bool true ∧ Keeps H H' := by
  apply f8.of
  unfold f8.VC
  refine HCalls.mono (f61.spec φ A0 n0 c0 cs0 H hr) ?_
  rintro v H1 ⟨A, n, c, rfl, own1, k1⟩
  have h256 := bentL_len cs0
  have hok := bentL_ok cs0
  generalize bentL cs0 = cs at *
  have hl := own1.len
  refine ⟨_, _, _, rfl, ?_⟩
  refine HCalls.mono (f62.spec φ A n c cs H1 own1.row (by omega)) ?_
  rintro v H2 ⟨rfl, rfl⟩
  have hu := usedN_things h256
  have hub := usedN_le cs cs.length
  refine ⟨_, rfl, ?_⟩
  refine HCalls.mono (f63.spec φ limit _ H2 (by omega)) ?_
  rintro v H3 ⟨⟨top, rfl, t1, t2, t3⟩, rfl⟩
  refine ⟨_, rfl, ?_⟩
  have hn : (thingsL cs).length ≤ 2 ^ top.toNat := by omega
  obtain ⟨e0, pm⟩ := len_pm h256 hok t1 t2 hn
  refine HCalls.mono (f56.spec φ A n c cs top H3 own1.row (by omega)) ?_
  rintro v H4 ⟨A2, n2, c2, rfl, own4, k4⟩
  rw [e0]
  generalize (lenRes cs top).1 = lens at *
  have l2 := own4.len
  have pl := pm.len
  have rA4 := (own1.keeps k4).row
  have k04 := k1.trans k4
  have hlb : ∀ i, i < lens.length → 0 ≤ lens.getD i 0 ∧ lens.getD i 0 ≤ 15 := fun i hi => by have := pm.rng i (by omega); omega
  refine ⟨_, _, _, _, rfl, ?_⟩
  refine HCalls.mono (f64.spec φ A n c cs A2 n2 c2 lens H4 rA4 own4.row h256 hok pl hlb) ?_
  rintro v H5 ⟨rfl, rfl⟩
  refine ⟨_, _, rfl, ?_⟩
  refine ⟨fun q H' => H' = H5 ∧ q = false, ⟨fun h => by simp at h, fun _ => ⟨fun h => by simp at h, fun _ => ⟨rfl, ?_⟩⟩⟩, ?_⟩
  · simp; omega
  rintro q _ H6 ⟨rfl, rfl⟩
  refine ⟨fun h => (nomatch h), fun _ => ?_⟩
  refine ⟨fun i H' => 0 ≤ i ∧ i ≤ n ∧ H' = H6, fun i _ => (n - i).toNat, ⟨by omega, by omega, rfl⟩, ?_⟩
  rintro i _ H7 ⟨i0, i1, rfl⟩
  refine ⟨fun hi => ?_, fun hi => ?_⟩
  · simp only [decide_eq_true_eq] at hi
    obtain ⟨x, b, o, hx, rfl, cx1, _⟩ := own4.row.at i0 (by omega)
    obtain ⟨y, b2, o2, hy, rfl, cy1, _⟩ := rA4.at i0 (by omega)
    have gx := getD_of hx
    have gy := getD_of hy
    have pr := pm.rng i.toNat (by omega)
    rw [gx, gy] at pr
    refine ⟨fun q H' => H' = H7 ∧ q = false, ⟨b, o, rfl, ⟨i0, by omega⟩, x, cx1, fun h => ?_, fun h => ⟨b, o, rfl, ⟨i0, by omega⟩, x, cx1, fun h => ?_, fun h => ⟨b, o, rfl, ⟨i0, by omega⟩, x, cx1, b2, o2, rfl, ⟨i0, by omega⟩, y, cy1, rfl, ?_⟩⟩⟩, ?_⟩
    · simp only [decide_eq_true_eq] at h; omega
    · simp only [decide_eq_true_eq] at h; omega
    · have : decide (0 < x) = decide (0 < y) := by simp only [decide_eq_decide]; exact pr.2.2
      rw [this]; simp
    · rintro q _ H8 ⟨rfl, rfl⟩
      exact ⟨fun h => (nomatch h), fun _ => ⟨by omega, ⟨by omega, by omega, rfl⟩, by dsimp only; omega⟩⟩
  clear i0 i1 hi i
  refine ⟨by omega, ?_⟩
  have hN : Int.toNat (n : Int) = n := by omega
  simp -zeta only [hN]
  intro H9
  have own9 : ownI H9 H7.size 3 (some ⟨H7.size, 0, none⟩) n n (List.replicate n 0) := ownI_new ..
  have k9 : Keeps H7 H9 := Keeps.push ..
  clear_value H9
  have rep0 : ∀ j, (List.replicate n (0 : Int)).getD j 0 = 0 := fun j => by rw [List.getD_eq_getElem?_getD, List.getElem?_replicate]; split <;> rfl
  refine ⟨fun i H' => 0 ≤ i ∧ i ≤ n ∧ Keeps H7 H' ∧ ∃ ls, ownI H' H7.size 3 (some ⟨H7.size, 0, none⟩) n n ls ∧ ∀ j, j < n → ((j : Int) < i → 0 < cs.getD j 0 → 1 ≤ ls.getD j 0 ∧ ls.getD j 0 ≤ top) ∧ ((i : Int) ≤ j ∨ ¬ 0 < cs.getD j 0 → ls.getD j 0 = 0), fun i _ => (n - i).toNat,
    ⟨by omega, by omega, k9, _, own9, fun j hj => ⟨fun h => by omega, fun _ => rep0 j⟩⟩, ?_⟩
  rintro i _ H10 ⟨i0, i1, k10, ls, own10, hls⟩
  have lls := own10.len
  refine ⟨fun hi => ?_, fun hi => ?_⟩
  · simp only [decide_eq_true_eq] at hi
    have hin : i.toNat < n := by omega
    obtain ⟨x, b, o, hx, rfl, cx1, _⟩ := rA4.at i0 hi
    have gx := getD_of hx
    refine ⟨fun H' => Keeps H7 H' ∧ ∃ ls, ownI H' H7.size 3 (some ⟨H7.size, 0, none⟩) n n ls ∧ ∀ j, j < n → ((j : Int) < i + 1 → 0 < cs.getD j 0 → 1 ≤ ls.getD j 0 ∧ ls.getD j 0 ≤ top) ∧ ((i + 1 : Int) ≤ j ∨ ¬ 0 < cs.getD j 0 → ls.getD j 0 = 0),
      ⟨b, o, rfl, ⟨i0, hi⟩, x, k10.cel cx1, fun h => ⟨k10, ls, own10, ?_⟩, fun h => ?_⟩, fun _ H16 h16 => ⟨by omega, ⟨by omega, by omega, h16⟩, by dsimp only; omega⟩⟩
    · simp only [decide_eq_true_eq] at h
      intro j hj
      refine ⟨fun a p => (hls j hj).1 ?_ p, fun a => (hls j hj).2 (by omega)⟩
      have : j ≠ i.toNat := fun e => by subst e; rw [gx] at p; omega
      omega
    · simp only [decide_eq_false_iff_not] at h
      have hx0 : 0 < x := by rw [← gx] at h ⊢; have := (okCounts_at hok i.toNat).1; omega
      obtain ⟨p1, p2⟩ := own10.set hin (y := top) ⟨by omega, by omega⟩
      refine ⟨_, _, rfl, ⟨i0, hi⟩, p1, ?_⟩
      intro H11
      have k11 : Keeps H7 H11 := k10.hput (Nat.le_refl _)
      have p2 : ownI H11 H7.size 3 (some ⟨H7.size, 0, none⟩) n n (ls.set i.toNat top) := p2
      clear_value H11
      refine ⟨fun H' => Keeps H7 H' ∧ ∃ v, 1 ≤ v ∧ v ≤ 15 ∧ ownI H' H7.size 3 (some ⟨H7.size, 0, none⟩) n n (ls.set i.toNat v), ⟨fun hj => ?_, fun hj => ⟨k11, top, t1, t2, p2⟩⟩, ?_⟩
      · simp only [decide_eq_true_eq] at hj
        obtain ⟨w, b7, o7, hw, rfl, cw1, _⟩ := ho.at i0 hj
        refine ⟨b7, o7, rfl, ⟨i0, hj⟩, w, (k04.trans k11).cel cw1, ?_⟩
        refine HCalls.mono (f63.spec φ w 0 H11 (by omega)) ?_
        rintro v H12 ⟨⟨l, rfl, q1, q2, _⟩, rfl⟩
        obtain ⟨r1, r2⟩ := p2.set hin (y := l) ⟨by omega, by omega⟩
        rw [List.set_set] at r2
        exact ⟨_, rfl, _, _, rfl, ⟨i0, hi⟩, r1, k11.hput (Nat.le_refl _), l, q1, q2, r2⟩
      · rintro _ H14 ⟨k14, v, v1, v2, own14⟩
        obtain ⟨y, hy, cy1, _⟩ := own14.at hin
        have : y = v := by
          rw [List.getElem?_set, if_pos rfl, if_pos (by omega)] at hy
          simp at hy; exact hy.symm
        subst this
        obtain ⟨r1, r2⟩ := own14.set hin (y := min y top) ⟨by omega, by omega⟩
        rw [List.set_set] at r2
        refine ⟨_, _, rfl, ⟨i0, hi⟩, y, cy1, _, _, rfl, ⟨i0, hi⟩, r1, k14.hput (Nat.le_refl _), _, r2, fun j hj => ?_⟩
        rw [getD_set _ _ _ _ (by omega)]
        by_cases e : j = i.toNat
        · subst e
          rw [if_pos rfl, gx]
          exact ⟨fun _ _ => by omega, fun a => by omega⟩
        · rw [if_neg e]
          exact ⟨fun a p => (hls j hj).1 (by omega) p, fun a => (hls j hj).2 (by omega)⟩
  simp only [decide_eq_false_iff_not] at hi
  have hfit : fitL cs top ls := fun j hj => ⟨fun p => (hls j (by omega)).1 (by omega) p, fun p => (hls j (by omega)).2 (Or.inr p)⟩
  clear hls i0 i1
  refine ⟨fun i H' => 0 ≤ i ∧ i ≤ n ∧ Keeps H7 H' ∧ ∃ ls, ownI H' H7.size 3 (some ⟨H7.size, 0, none⟩) n n ls ∧ fitL cs top ls ∧ (kraftL ls ≤ 32768 ∨ ∀ j, j < n → (j : Int) < i → 0 < cs.getD j 0 → ls.getD j 0 = top), fun i _ => (n - i).toNat,
    ⟨by omega, by omega, k10, ls, own10, hfit, Or.inr fun j _ h => by omega⟩, ?_⟩
  clear hfit lls own10 hi k10 ls H10
  clear i
  rintro i _ H17 ⟨i0, i1, k17, ls, own17, hfit, hdis⟩
  have lls := own17.len
  refine ⟨fun q H' => H' = H17 ∧ (q = true → i < n ∧ 32768 < kraftL ls) ∧ (q = false → (n : Int) ≤ i ∨ kraftL ls ≤ 32768), ⟨fun hi => ?_, fun hi => ⟨rfl, (fun h => nomatch h), fun _ => Or.inl ?_⟩⟩, ?_⟩
  · simp only [decide_eq_true_eq] at hi
    refine HCalls.mono (f65.spec φ _ n n ls H17 own17.row (by omega)) ?_
    rintro v H18 ⟨rfl, rfl⟩
    refine ⟨_, rfl, rfl, fun h => ⟨hi, ?_⟩, fun h => Or.inr ?_⟩
    · simp only [decide_eq_true_eq] at h; omega
    · simp only [decide_eq_false_iff_not] at h; omega
  · simp only [decide_eq_false_iff_not] at hi; omega
  rintro q _ H19 ⟨rfl, hqt, hqf⟩
  refine ⟨fun h => ?_, fun h => ?_⟩
  · obtain ⟨hi, hkr⟩ := hqt h
    have hin : i.toNat < n := by omega
    have hd : ∀ j, j < n → (j : Int) < i → 0 < cs.getD j 0 → ls.getD j 0 = top := by
      rcases hdis with h | h
      · omega
      · exact h
    refine ⟨fun H' => Keeps H7 H' ∧ ∃ ls, ownI H' H7.size 3 (some ⟨H7.size, 0, none⟩) n n ls ∧ fitL cs top ls ∧ ∀ j, j < n → (j : Int) < i → 0 < cs.getD j 0 → ls.getD j 0 = top, fun H' => (top - cellI H' H7.size (0 + i.toNat * 1)).toNat,
      ⟨k17, ls, own17, hfit, hd⟩, ?_⟩
    clear hd hfit own17 lls hdis hqt hqf hkr
    rintro _ H20 ⟨k20, ls, own20, hfit, hd⟩
    have lls := own20.len
    obtain ⟨x, hx, cx1, _⟩ := own20.at hin
    have gx := getD_of hx
    refine ⟨fun q H' => H' = H20 ∧ (q = true → 0 < x ∧ x < top) ∧ (q = false → ¬ 0 < x ∨ ¬ x < top ∨ kraftL ls ≤ 32768), ⟨_, _, rfl, ⟨i0, hi⟩, x, cx1, fun p => ⟨_, _, rfl, ⟨i0, hi⟩, x, cx1, fun p2 => ?_, fun p2 => ?_⟩, fun p => ?_⟩, ?_⟩
    · simp only [decide_eq_true_eq] at p p2
      refine HCalls.mono (f65.spec φ _ n n ls H20 own20.row (by omega)) ?_
      rintro v H21 ⟨rfl, rfl⟩
      refine ⟨_, rfl, rfl, fun _ => ⟨p, p2⟩, fun h => Or.inr (Or.inr ?_)⟩
      simp only [decide_eq_false_iff_not] at h; omega
    · simp only [decide_eq_false_iff_not] at p2
      exact ⟨rfl, (fun h => nomatch h), fun _ => Or.inr (Or.inl p2)⟩
    · simp only [decide_eq_false_iff_not] at p
      exact ⟨rfl, (fun h => nomatch h), fun _ => Or.inl p⟩
    rintro q _ H22 ⟨rfl, ht, hf⟩
    have hfi := hfit i.toNat (by omega)
    rw [gx] at hfi
    refine ⟨fun h => ?_, fun h => ?_⟩
    · obtain ⟨p, p2⟩ := ht h
      obtain ⟨r1, r2⟩ := own20.set hin (y := x + 1) ⟨by omega, by omega⟩
      have hused : 0 < cs.getD i.toNat 0 := by
        apply Classical.byContradiction; intro g
        have := hfi.2 g; omega
      refine ⟨_, _, rfl, ⟨i0, hi⟩, x, cx1, by omega, _, _, rfl, ⟨i0, hi⟩, r1, ⟨k20.hput (Nat.le_refl _), _, r2, fun j hj => ?_, fun j hj a b => ?_⟩, ?_⟩
      · rw [getD_set _ _ _ _ (by omega)]
        by_cases e : j = i.toNat
        · subst e; rw [if_pos rfl]; exact ⟨fun _ => by omega, fun g => absurd hused g⟩
        · rw [if_neg e]; exact hfit j hj
      · rw [getD_set _ _ _ _ (by omega), if_neg (by omega)]; exact hd j hj a b
      · obtain ⟨y, hy, cy, _⟩ := r2.at hin
        have : y = x + 1 := by
          rw [List.getElem?_set, if_pos rfl, if_pos (by omega)] at hy
          simp at hy; exact hy.symm
        subst this
        have m1 := cellI_of cy
        have m2 := cellI_of cx1
        dsimp only
        rw [m1, m2]; omega
    · have hx := hf h
      refine ⟨by omega, ⟨by omega, by omega, k20, ls, own20, hfit, ?_⟩, by dsimp only; omega⟩
      rcases hx with g | g | g
      · refine Or.inr fun j hj a b => ?_
        by_cases e : j = i.toNat
        · subst e; have := hfi.1 b; omega
        · exact hd j hj (by omega) b
      · refine Or.inr fun j hj a b => ?_
        by_cases e : j = i.toNat
        · subst e; rw [gx]; have := hfi.1 b; omega
        · exact hd j hj (by omega) b
      · exact Or.inl g
  have hkr : kraftL ls ≤ 32768 := by
    rcases hqf h with g | g
    · rcases hdis with d | d
      · exact d
      · exact kraft_top h256 (by omega) t1 t2 hn fun j hj => ⟨fun p => d j (by omega) (by omega) p, fun p => (hfit j hj).2 p⟩
    · exact g
  refine HCalls.mono (f65.spec φ _ n n ls H19 own17.row (by omega)) ?_
  rintro v H24 ⟨rfl, rfl⟩
  refine ⟨_, rfl, fun h => ?_, fun _ => ?_⟩
  · simp only [decide_eq_true_eq] at h; omega
  have hbest := pm.best ls (by omega) hfit hkr
  have hp : ∀ i, i < cs.length → 0 ≤ cs.getD i 0 * ls.getD i 0 ∧ cs.getD i 0 * ls.getD i 0 ≤ 16492674416640 := fun i hi => by
    have a := okCounts_at hok i
    have b := hfit i hi
    have : 0 ≤ ls.getD i 0 ∧ ls.getD i 0 ≤ 15 := by
      by_cases g : 0 < cs.getD i 0
      · have := b.1 g; omega
      · have := b.2 g; omega
    exact prod_bd (M := 1099511627776) (by omega) (by omega) this.1 this.2
  refine ⟨fun sum i H' => 0 ≤ i ∧ i ≤ n ∧ H' = H24 ∧ sum = sumZ (fun i => cs.getD i 0 * ls.getD i 0) i.toNat, fun _ i _ => (n - i).toNat, ⟨by omega, by omega, rfl, rfl⟩, ?_⟩
  clear hqt hqf hdis i0 i1 h i
  rintro sum i _ H25 ⟨i0, i1, rfl, rfl⟩
  refine ⟨fun hi => ?_, fun hi => ?_⟩
  · simp only [decide_eq_true_eq] at hi
    obtain ⟨x, b, o, hx, rfl, cx1, _⟩ := (rA4.keeps isI64.mono k17).at i0 hi
    obtain ⟨y, hy, cy1, _⟩ := own17.at (i := i.toNat) (by omega)
    have gx := getD_of hx
    have gy := getD_of hy
    have p := hp i.toNat (by omega)
    have sb := sumZ_bd (M := 16492674416640) (n := i.toNat) fun j hj => hp j (by omega)
    rw [gx, gy] at p
    refine ⟨b, o, rfl, ⟨i0, hi⟩, x, cx1, _, _, rfl, ⟨i0, hi⟩, y, cy1, by omega, by omega, by omega, ⟨by omega, by omega, rfl, ?_⟩, by dsimp only; omega⟩
    rw [show (i + 1).toNat = i.toNat + 1 by omega, sumZ, gx, gy]
  simp only [decide_eq_false_iff_not] at hi
  refine ⟨fun q H' => q = true ∧ H' = H25, ?_, ?_⟩
  · refine HCalls.mono (f65.spec φ A2 n2 c2 lens H25 (own4.keeps k17).row (by omega)) ?_
    rintro v H26 ⟨rfl, rfl⟩
    have hk := pm.kraft
    refine ⟨_, rfl, fun _ => ⟨?_, rfl⟩, fun h => ?_⟩
    · rw [show i.toNat = cs.length by omega]
      simp only [decide_eq_true_eq]
      exact hbest
    · simp only [decide_eq_false_iff_not] at h
      exfalso
      split at hk <;> omega
  · rintro q _ H27 ⟨rfl, rfl⟩
    exact ⟨rfl, k04.trans k17⟩
end Go.Proofs.Ytkkjjjgcfnhabaa.Eng
namespace Go.Proofs.Ytkkjjjgcfnhabaa.huffLeast
open Go Go.Proofs.Ytkkjjjgcfnhabaa.Eng
theorem walk (φ : Fx) (H : Hp) (v0 v1 v2 : Value) (h0 : Argv Try.prog H 93 v0) (h1 : Argv Try.prog H 3 v1) (h2 : Argv Try.prog H 95 v2) :
    HCalls Try.prog φ 8 [v0, v1, v2] H fun v H' => v = .bool true ∧ Keeps H H' := by
  obtain ⟨A, n, c, xs, rfl, _, _, hr⟩ := arg_counts h0
  obtain ⟨l, rfl, _, _⟩ := arg_i64 h1
  obtain ⟨B, m, d, os, rfl, _, _, ho⟩ := arg_ints h2
  exact f8.spec φ A n c xs l B m d os H hr ho
end Go.Proofs.Ytkkjjjgcfnhabaa.huffLeast
