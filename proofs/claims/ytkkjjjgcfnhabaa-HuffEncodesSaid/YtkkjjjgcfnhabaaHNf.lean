/- Part HNf of the proof of the claim in this folder: a way to walk code, and the contracts of the functions that the law reaches. Conditions: none. -/
import Derived.Test.YtkkjjjgcfnhabaaHNe
import Derived.Test.YtkkjjjgcfnhabaaHNc
set_option linter.unusedVariables false
set_option linter.unusedSimpArgs false
set_option maxRecDepth 10000
set_option maxRecDepth 100000
namespace Go.Proofs.Ytkkjjjgcfnhabaa.Eng
open Go Go.Proofs
def encC (p : Int × Int) : List Value := [.int .i64 p.1, .int .u32 p.2]
theorem encC_len (p : Int × Int) : (encC p).length = 2 := rfl
theorem encC_one (p : Int × Int) : ∀ v ∈ encC p, v.oneCell' = true := fun v hv => by
  simp [encC] at hv; rcases hv with e | e <;> (subst e; rfl)
def isCd (H : Hp) (b o : Nat) (p : Int × Int) : Prop := cel H b o = some (.int .i64 p.1) ∧ cel H b (o + 1) = some (.int .u32 p.2)
abbrev cdR := rowR isCd 2
def ownCd (H : Hp) (base : Nat) (A : Option Addr) (n c : Nat) (ps : List (Int × Int)) : Prop := ownC H base 130 2 A n c (ps.flatMap encC)
theorem ownCd.len {H : Hp} {base : Nat} {A : Option Addr} {n c : Nat} {ps : List (Int × Int)} (h : ownCd H base A n c ps) : ps.length = n := by
  have h1 := h.1
  have h2 := (flatMap_get encC 2 ps fun x _ => encC_len x).1
  rw [h2] at h1
  exact Nat.eq_of_mul_eq_mul_right (by decide) h1
theorem ownCd.row {H : Hp} {base : Nat} {A : Option Addr} {n c : Nat} {ps : List (Int × Int)} (h : ownCd H base A n c ps) : cdR H A n ps :=
  ownC.row encC encC_len h (by decide) fun b o x _ hc => ⟨hc 0 _ rfl, hc 1 _ rfl⟩
theorem ownCd.keeps {H H' : Hp} {base : Nat} {A : Option Addr} {n c : Nat} {ps : List (Int × Int)} (h : ownCd H base A n c ps) (k : Keeps H H') : ownCd H' base A n c ps := ownC.keeps h k
theorem ownCd_new (H : Hp) (n : Nat) : ownCd (Array.push H (.cells (zrow [.int .i64 0, .int .u32 0] n).toArray 130 (0, 0))) H.size (some ⟨H.size, 0, none⟩) n n (List.replicate n (0, 0)) := by
  have e : ∀ n, (List.replicate n ((0, 0) : Int × Int)).flatMap encC = zrow [.int .i64 0, .int .u32 0] n := by
    intro n
    induction n with
    | zero => rfl
    | succ n ih => rw [List.replicate_succ, List.flatMap_cons, ih, zrow]; rfl
  refine ⟨by rw [e]; simp [zrow_length], Nat.le_refl _, Or.inr ⟨H.size, _, Nat.le_refl _, rfl, objAt_new .., by simp [zrow_length], ?_⟩⟩
  rw [e]; exact List.take_of_length_le (by simp [zrow_length])
theorem ownCd.set {H : Hp} {base b n c : Nat} {ps : List (Int × Int)} (h : ownCd H base (some ⟨b, 0, none⟩) n c ps) {i : Nat} (hi : i < n) (y : Int × Int) :
    canPut H b (0 + i * 2) (encC y) ∧ ownCd (hput H b (0 + i * 2) (encC y)) base (some ⟨b, 0, none⟩) n c (ps.set i y) := by
  have hl := h.len
  exact own_set encC encC_len encC_one h (i := i) (by omega) hl y
def insideB (ls : List Int) : Bool := ls.all fun x => decide (0 ≤ x) && decide (x ≤ 15)
theorem insideB_cons (x : Int) (r : List Int) : insideB (x :: r) = ((decide (0 ≤ x) && decide (x ≤ 15)) && insideB r) := by simp only [insideB, List.all_cons]
theorem insideB_at {ls : List Int} (h : insideB ls = true) (i : Nat) : 0 ≤ ls.getD i 0 ∧ ls.getD i 0 ≤ 15 := by
  rw [List.getD_eq_getElem?_getD]
  cases hc : ls[i]? with
  | none => simp
  | some c =>
    have := List.all_eq_true.1 h c (List.mem_iff_getElem?.2 ⟨i, hc⟩)
    simpa using this
theorem insideB_of {ls : List Int} (h : ∀ i, i < ls.length → 0 ≤ ls.getD i 0 ∧ ls.getD i 0 ≤ 15) : insideB ls = true := by
  refine List.all_eq_true.2 fun x hx => ?_
  obtain ⟨i, hi⟩ := List.mem_iff_getElem?.1 hx
  have := h i (List.getElem?_eq_some_iff.1 hi).1
  rw [getD_of hi] at this
  simp only [Bool.and_eq_true, decide_eq_true_eq]; exact this
theorem f129.full (φ : Fx) (A : Option Addr) (n c : Nat) (ls : List Int) (H : Hp) (hr : intsR H A n ls) (hn : n ≤ 1048576) :
    HCalls cx.P φ 129 [.slice A n c] H fun r H' => r = .bool (insideB ls) ∧ H' = H := by
  apply f129.of
  unfold f129.VC
  have hl := hr.1
  refine ⟨fun i H' => 0 ≤ i ∧ i ≤ n ∧ H' = H ∧ insideB ls = insideB (ls.drop i.toNat), fun i _ => (n - i).toNat, ⟨by omega, by omega, rfl, by simp⟩, ?_⟩
  rintro i _ H1 ⟨h0, h1, rfl, hd⟩
  refine ⟨fun hi => ?_, fun hi => ?_⟩
  · simp only [decide_eq_true_eq] at hi
    obtain ⟨x, b, o, hx, rfl, cx1, _⟩ := hr.at h0 hi
    rw [drop_at hx, insideB_cons] at hd
    refine ⟨b, o, rfl, ⟨h0, hi⟩, x, cx1, fun q H' => H' = H1 ∧ (q = true ↔ ¬ (0 ≤ x ∧ x ≤ 15)), ⟨fun h => ⟨rfl, ?_⟩, fun h => ⟨rfl, ?_⟩⟩, ?_⟩
    · simp only [decide_eq_true_eq] at h; simp; omega
    · simp only [decide_eq_false_iff_not] at h; simp; omega
    · rintro q _ H2 ⟨rfl, hq⟩
      refine ⟨fun h => ?_, fun h => ⟨by omega, ⟨by omega, by omega, rfl, ?_⟩, by dsimp only; omega⟩⟩
      · have := hq.1 h
        have e : insideB ls = false := by
          rw [hd]; simp only [Bool.and_eq_false_iff, decide_eq_false_iff_not]; omega
        rw [e]; exact ⟨rfl, rfl⟩
      · have : 0 ≤ x ∧ x ≤ 15 := by
          apply Classical.byContradiction; intro g; have := hq.2 g; rw [h] at this; cases this
        rw [hd, show (i + 1).toNat = i.toNat + 1 by omega]
        simp [this.1, this.2]
  · simp only [decide_eq_false_iff_not] at hi
    rw [List.drop_eq_nil_of_le (by omega)] at hd
    rw [hd]; exact ⟨rfl, rfl⟩
def codesRes (ls : List Int) : List (Int × Int) × Int :=
  if 256 < ls.length then ([], 2) else if insideB ls = false then ([], 3) else if 32768 < kraftL ls then ([], 41) else (cdL ls, 0)
theorem cdL_len (ls : List Int) : (cdL ls).length = ls.length := by simp [cdL]
theorem cdL_get {ls : List Int} {s : Nat} (hs : s < ls.length) : (cdL ls)[s]? = some (ls.getD s 0, (codeW ls s : Int)) := by
  rw [cdL, List.getElem?_map, List.getElem?_range hs]; rfl
theorem ord_mem {ls : List Int} (hin : insideB ls = true) {j : Nat} (hj : j < ls.length) : j ∈ ordL ls 15 ↔ 0 < ls.getD j 0 := by
  constructor
  · intro h
    obtain ⟨k, hk⟩ := List.mem_iff_getElem?.1 h
    obtain ⟨_, n, _, c, _⟩ := ord_at (Nat.le_refl _) hk
    omega
  · intro h
    have hb := insideB_at hin j
    have := ord_has (n := (ls.getD j 0).toNat - 1) hj (by omega) (m := 15) (by omega)
    exact List.mem_of_getElem? this
theorem code_small {ls : List Int} (hk : kraftL ls ≤ 32768) (hin : insideB ls = true) {s : Nat} (hs : s < ls.length) : codeW ls s < 32768 := by
  have hb := insideB_at hin s
  by_cases h : 0 < ls.getD s 0
  · have := codeW_bd hk hs (n := (ls.getD s 0).toNat - 1) (by omega) (by omega)
    have e : 2 ^ ((ls.getD s 0).toNat - 1 + 1) ≤ 2 ^ 15 := Nat.pow_le_pow_right (by decide) (by omega)
    have e15 : 2 ^ 15 = 32768 := by decide
    omega
  · rw [codeW, if_neg h]; decide
/-- The codes written so far: those of the first k symbols in order. -/
def cdK (ls : List Int) (k : Nat) (ps : List (Int × Int)) : Prop := ∀ j, j < ls.length → ps[j]? = some (if j ∈ (ordL ls 15).take k then (ls.getD j 0, (codeW ls j : Int)) else (0, 0))
theorem cdK_end {ls : List Int} (hin : insideB ls = true) {k : Nat} (hk : (ordL ls 15).length ≤ k) {ps : List (Int × Int)} (hl : ps.length = ls.length) (h : cdK ls k ps) : ps = cdL ls := by
  apply List.ext_getElem?
  intro j
  by_cases hj : j < ls.length
  · rw [h j hj, cdL_get hj, List.take_of_length_le hk]
    by_cases q : j ∈ ordL ls 15
    · rw [if_pos q]
    · rw [if_neg q]
      rw [ord_mem hin hj] at q
      have := insideB_at hin j
      rw [codeW, if_neg q, show ls.getD j 0 = 0 by omega]; rfl
  · rw [List.getElem?_eq_none (by omega), List.getElem?_eq_none (by rw [cdL_len]; omega)]
theorem cdK_step {ls : List Int} {k s : Nat} {ps : List (Int × Int)} (hl : ps.length = ls.length) (hs : (ordL ls 15)[k]? = some s) (h : cdK ls k ps) : cdK ls (k + 1) (ps.set s (ls.getD s 0, (codeW ls s : Int))) := by
  intro j hj
  rw [List.getElem?_set, List.take_add_one, hs]
  by_cases e : s = j
  · subst e
    rw [if_pos rfl, if_pos (by omega), if_pos (by simp)]
  · rw [if_neg e, h j hj]
    have : j ∈ (ordL ls 15).take k ++ (some s).toList ↔ j ∈ (ordL ls 15).take k := by
      simp only [Option.toList, List.mem_append, List.mem_singleton]
      exact ⟨fun h => by rcases h with h | h; exact h; exact absurd h.symm e, Or.inl⟩
    simp only [this]
theorem f84.spec (φ : Fx) (A : Option Addr) (n c : Nat) (ls : List Int) (H : Hp) (hr : intsR H A n ls) (hn : n ≤ 140737488355328) :
    HCalls cx.P φ 84 [.slice A n c] H fun r H' => ∃ A' n' c', r = .tuple #[.slice A' n' c', .int .i64 (codesRes ls).2] ∧ ownCd H' H.size A' n' c' (codesRes ls).1 ∧ Keeps H H' := by
  apply f84.of
  unfold f84.VC
  have hl := hr.1
  refine ⟨fun h => ?_, fun h => ?_⟩
  · simp only [decide_eq_true_eq] at h
    have e : codesRes ls = ([], 2) := by unfold codesRes; rw [if_pos (by omega)]
    rw [e]
    exact ⟨_, _, _, rfl, ownC_nil .., Keeps.refl _⟩
  simp only [decide_eq_false_iff_not] at h
  refine HCalls.mono (f129.full φ A n c ls H hr (by omega)) ?_
  rintro v H0 ⟨rfl, rfl⟩
  refine ⟨_, rfl, fun h2 => ?_, fun h2 => ?_⟩
  · have e : codesRes ls = ([], 3) := by unfold codesRes; rw [if_neg (by omega), if_pos (by simpa using h2)]
    rw [e]
    exact ⟨_, _, _, rfl, ownC_nil .., Keeps.refl _⟩
  have hin : insideB ls = true := by simpa using h2
  refine HCalls.mono (f146.spec φ A n c ls H0 hr (by omega)) ?_
  rintro v H2 ⟨B, m, d, rfl, own2, k2⟩
  have lm := own2.len
  rw [natI, List.length_map] at lm
  have l16 : (manyF ls).length = 16 := manyV_len ..
  refine ⟨_, _, _, manyF ls, l16, _, rfl, ?_⟩
  intro H3
  have o3 : objAt H3 H2.size (encM zeroM).toArray 208 := by rw [zeroM_enc]; exact objAt_new ..
  have k23 : Keeps H2 H3 := Keeps.push ..
  clear_value H3
  refine Eq.mpr (fitsM _ 16 l16 _) ?_
  refine ⟨objAt_canPut o3 (by simp [encM, zeroM, l16]) (encM_oneC (manyF ls)), ?_⟩
  intro H4
  have k24 : Keeps H2 H4 := k23.hput (Nat.le_refl _)
  clear_value H4
  have k04 := k2.trans k24
  refine ⟨fun h3 => ?_, fun h3 => ?_⟩
  · have e : codesRes ls = ([], 41) := by
      unfold codesRes; rw [if_neg (by omega), if_neg (by rw [hin]; decide), if_pos (by simp at h3; omega)]
    rw [e]
    exact ⟨_, _, _, rfl, ownC_nil .., k04⟩
  have hk : kraftL ls ≤ 32768 := by simpa using h3
  have e : codesRes ls = (cdL ls, 0) := by
    unfold codesRes; rw [if_neg (by omega), if_neg (by rw [hin]; decide), if_neg (by omega)]
  rw [e]
  refine ⟨by omega, ?_⟩
  have hN : Int.toNat (n : Int) = n := by omega
  simp -zeta only [hN]
  intro H5
  have own5 : ownCd H5 H4.size (some ⟨H4.size, 0, none⟩) n n (List.replicate n (0, 0)) := ownCd_new ..
  have k45 : Keeps H4 H5 := Keeps.push ..
  clear_value H5
  have lb := ordL_le ls 15
  have hlb : 15 * ls.length ≤ 3840 := by omega
  refine ⟨fun word size k H' => 0 ≤ k ∧ k ≤ m ∧ Keeps H4 H' ∧ (∃ ps, ownCd H' H4.size (some ⟨H4.size, 0, none⟩) n n ps ∧ cdK ls k.toNat ps) ∧ (k = 0 → word = 0 ∧ size = 0) ∧ (∀ s, 0 < k → (ordL ls 15)[k.toNat - 1]? = some s → word = (codeW ls s : Int) ∧ size = ls.getD s 0), fun _ _ k _ => (m - k).toNat,
    ⟨by omega, by omega, k45, ⟨_, own5, fun j hj => ?_⟩, fun _ => ⟨rfl, rfl⟩, fun s h => by omega⟩, ?_⟩
  · rw [List.getElem?_replicate, if_pos (by omega)]; simp
  rintro word size k _ H6 ⟨k0, k1, k6, ⟨ps, own6, hps⟩, hz, hpv⟩
  have lps := own6.len
  refine ⟨fun hi => ?_, fun hi => ?_⟩
  · simp only [decide_eq_true_eq] at hi
    obtain ⟨x, b, o, hx, rfl, cx1, _⟩ := ((own2.keeps k24).row).at k0 hi
    rw [natI, List.getElem?_map] at hx
    obtain ⟨s, hs, rfl⟩ : ∃ s, (ordL ls 15)[k.toNat]? = some s ∧ (s : Int) = x := by
      cases hq : (ordL ls 15)[k.toNat]? with
      | none => rw [hq] at hx; simp at hx
      | some s => rw [hq] at hx; simp at hx; exact ⟨s, rfl, hx⟩
    obtain ⟨hsl, nn, hnn, hlen, _, _⟩ := ord_at (Nat.le_refl _) hs
    have csm := code_small hk hin hsl
    refine ⟨b, o, rfl, ⟨k0, hi⟩, (s : Int), k6.cel cx1, fun w H' => H' = H6 ∧ size ≤ ls.getD s 0 ∧ w * 2 ^ (ls.getD s 0 - size).toNat = (codeW ls s : Int), ⟨fun hp => ⟨rfl, ?_⟩, fun hp => ⟨rfl, ?_⟩⟩, ?_⟩
    · simp only [decide_eq_true_eq] at hp
      have hlt : k.toNat - 1 < (ordL ls 15).length := by omega
      obtain ⟨t, ht⟩ : ∃ t, (ordL ls 15)[k.toNat - 1]? = some t := ⟨_, List.getElem?_eq_getElem hlt⟩
      obtain ⟨e1, e2⟩ := hpv _ hp ht
      have hs' : (ordL ls 15)[k.toNat - 1 + 1]? = some s := by rw [show k.toNat - 1 + 1 = k.toNat by omega]; exact hs
      obtain ⟨n1, n2⟩ := ord_next ht hs'
      obtain ⟨htl, _, _, hl2, _, _⟩ := ord_at (Nat.le_refl _) ht
      have := code_small hk hin htl
      rw [e1, e2]
      refine ⟨n1, ?_⟩
      have htz := (insideB_at hin t).1
      rw [wrap_u32, ← n2, show (ls.getD s 0 - ls.getD t 0).toNat = (ls.getD s 0).toNat - (ls.getD t 0).toNat by omega]
      rw [show ((codeW ls t : Nat) + 1 : Int) % 4294967296 = ((codeW ls t + 1 : Nat) : Int) by omega]
      push_cast; rfl
    · simp only [decide_eq_false_iff_not] at hp
      have hk0 : k = 0 := by omega
      subst hk0
      obtain ⟨e1, e2⟩ := hz rfl
      rw [e1, e2, ord_first hs]
      exact ⟨by omega, by simp⟩
    rintro w _ H7 ⟨rfl, hle, hw⟩
    obtain ⟨y, b2, o2, hy, rfl, cy1, ry⟩ := hr.at (i := (s : Int)) (by omega) (by omega)
    have gy := getD_of hy
    rw [Int.toNat_natCast] at gy
    have cy := (k04.trans k6).cel cy1
    rw [gy] at hle hw hlen
    have ew : IntKind.wrap .u32 (w * 2 ^ (min (y - size).toNat 32)) = (codeW ls s : Int) := by
      have hsz : 0 ≤ size := by
        by_cases hk0 : k = 0
        · rw [(hz hk0).2]; omega
        · have hlt : k.toNat - 1 < (ordL ls 15).length := by omega
          obtain ⟨t, ht⟩ : ∃ t, (ordL ls 15)[k.toNat - 1]? = some t := ⟨_, List.getElem?_eq_getElem hlt⟩
          rw [(hpv _ (by omega) ht).2]
          exact (insideB_at hin _).1
      have hb := insideB_at hin s
      rw [gy] at hb
      rw [show min (y - size).toNat 32 = (y - size).toNat by omega, hw, wrap_u32]; omega
    obtain ⟨r1, r2⟩ := own6.set (i := s) (by omega) (y, (codeW ls s : Int))
    have hb := insideB_at hin s
    rw [gy] at hb
    have hsz : 0 ≤ size := by
      by_cases hk0 : k = 0
      · rw [(hz hk0).2]; omega
      · have hlt : k.toNat - 1 < (ordL ls 15).length := by omega
        obtain ⟨t, ht⟩ : ∃ t, (ordL ls 15)[k.toNat - 1]? = some t := ⟨_, List.getElem?_eq_getElem hlt⟩
        rw [(hpv _ (by omega) ht).2]
        exact (insideB_at hin _).1
    refine ⟨b2, o2, rfl, ⟨by omega, by omega⟩, y, cy, by omega, by omega, b2, o2, rfl, ⟨by omega, by omega⟩, y, cy, _, _, rfl, ⟨by omega, by omega⟩, ?_⟩
    rw [ew]
    refine ⟨r1, by omega, ⟨by omega, by omega, k6.hput (Nat.le_refl _), ⟨_, r2, ?_⟩, fun h => by omega, fun t _ ht => ?_⟩, by dsimp only; omega⟩
    · rw [show (k + 1).toNat = k.toNat + 1 by omega, ← gy]
      exact cdK_step (by omega) hs hps
    · rw [show (k + 1).toNat - 1 = k.toNat by omega, hs] at ht
      cases ht
      exact ⟨rfl, gy.symm⟩
  · simp only [decide_eq_false_iff_not] at hi
    have := cdK_end hin (by omega) (by omega) hps
    subst this
    exact ⟨_, _, _, rfl, ownC.base_le own6 k04.size, k04.trans k6⟩
end Go.Proofs.Ytkkjjjgcfnhabaa.Eng
namespace Go.Proofs.Ytkkjjjgcfnhabaa.Eng
open Go Go.Proofs
def hdrG : Nat → List Int → List Int
  | 0, _ => []
  | _ + 1, [] => []
  | f + 1, x :: r =>
    (if r.dropWhile (fun y => decide (y = x)) ≠ [] ∨ x ≠ 0 then numB (1 + (r.takeWhile (fun y => decide (y = x))).length : Nat) ++ [x] else []) ++ hdrG f (r.dropWhile (fun y => decide (y = x)))
def hdrL (ls : List Int) : List Int := hdrG ls.length ls ++ [0]
theorem run_of {ls : List Int} {i k : Nat} {x : Int} (hx : ls[i]? = some x) (hik : i ≤ k) (h1 : (ls.drop i).takeWhile (fun y => decide (y = x)) = (ls.drop i).take (k - i)) (h2 : (ls.drop i).dropWhile (fun y => decide (y = x)) = (ls.drop i).drop (k - i)) (hk : k ≤ ls.length) :
    ∃ r, ls.drop i = x :: r ∧ (r.takeWhile (fun y => decide (y = x))).length + 1 = k - i ∧ r.dropWhile (fun y => decide (y = x)) = ls.drop k ∧ i < k := by
  have hd := drop_at hx
  refine ⟨_, hd, ?_⟩
  rw [hd, List.takeWhile_cons_of_pos (by simp)] at h1
  rw [hd, List.dropWhile_cons_of_pos (by simp)] at h2
  have hl := congrArg List.length h1
  have hi := (List.getElem?_eq_some_iff.1 hx).1
  simp only [List.length_cons, List.length_take, List.length_drop] at hl
  refine ⟨by omega, ?_, by omega⟩
  rw [h2, ← hd, List.drop_drop]; congr 1; omega
theorem numB_len2 {v : Nat} (h : v ≤ 256) : (numB (v : Int)).length ≤ 2 := by
  unfold numB
  rw [if_neg (by omega)]
  exact putL_len 1 _ (by have : (128 : Int) ^ (1 + 1) = 16384 := by decide
                         omega)
theorem f130.spec (φ : Fx) (A : Option Addr) (n c : Nat) (ls : List Int) (H : Hp) (hr : intsR H A n ls) (hn : n ≤ 256) (hin : insideB ls = true) :
    HCalls cx.P φ 130 [.slice A n c] H fun r H' => ∃ A' n' c', r = .slice A' n' c' ∧ n' ≤ 769 ∧ ownB H' H.size A' n' c' (hdrL ls) ∧ Keeps H H' := by
  apply f130.of
  unfold f130.VC
  have hl := hr.1
  refine ⟨fun bA bn bc i H' => 0 ≤ i ∧ i ≤ n ∧ Keeps H H' ∧ bn ≤ 3 * i.toNat ∧ ∃ b f, ownB H' H.size bA bn bc b ∧ (ls.drop i.toNat).length ≤ f ∧ b ++ hdrG f (ls.drop i.toNat) = hdrG ls.length ls, fun _ _ _ i _ => (n - i).toNat,
    ⟨by omega, by omega, Keeps.refl _, by omega, [], ls.length, ownB_nil .., by simp, by simp⟩, ?_⟩
  rintro bA bn bc i _ H1 ⟨h0, h1, k1, hbn, bs, f, own, hf, hg⟩
  have s1 := k1.size
  refine ⟨fun hi => ?_, fun hi => ?_⟩
  · simp only [decide_eq_true_eq] at hi
    obtain ⟨x, b, o, hx, rfl, cx1, _⟩ := hr.at h0 hi
    have gx := getD_of hx
    have hb := insideB_at hin i.toNat
    rw [gx] at hb
    have c1 := k1.cel cx1
    refine ⟨fun k H' => i ≤ k ∧ k ≤ n ∧ H' = H1 ∧ (ls.drop i.toNat).takeWhile (fun y => decide (y = x)) = (ls.drop i.toNat).take (k.toNat - i.toNat) ++ ((ls.drop i.toNat).drop (k.toNat - i.toNat)).takeWhile (fun y => decide (y = x)) ∧ (ls.drop i.toNat).dropWhile (fun y => decide (y = x)) = ((ls.drop i.toNat).drop (k.toNat - i.toNat)).dropWhile (fun y => decide (y = x)), fun k _ => (n - k).toNat,
      ⟨by omega, by omega, rfl, by simp, by simp⟩, ?_⟩
    rintro k _ H2 ⟨q0, q1, rfl, hT⟩
    refine ⟨fun q H' => H' = H2 ∧ (q = true → k < n ∧ ∃ y, (ls.drop i.toNat)[k.toNat - i.toNat]? = some y ∧ decide (y = x) = true) ∧ (q = false → (ls.drop i.toNat).drop (k.toNat - i.toNat) = [] ∨ ∃ y, (ls.drop i.toNat)[k.toNat - i.toNat]? = some y ∧ decide (y = x) = false), ⟨fun hk => ?_, fun hk => ?_⟩, ?_⟩
    · simp only [decide_eq_true_eq] at hk
      obtain ⟨y, b2, o2, hy, e, cy, _⟩ := hr.at (i := k) (by omega) hk
      cases e
      have hy' : (ls.drop i.toNat)[k.toNat - i.toNat]? = some y := by rw [List.getElem?_drop, show i.toNat + (k.toNat - i.toNat) = k.toNat by omega]; exact hy
      exact ⟨b, o, rfl, ⟨by omega, hk⟩, y, k1.cel cy, b, o, rfl, ⟨h0, hi⟩, x, c1, rfl, fun h => ⟨hk, y, hy', h⟩, fun h => Or.inr ⟨y, hy', h⟩⟩
    · simp only [decide_eq_false_iff_not] at hk
      exact ⟨rfl, (fun h => nomatch h), fun _ => Or.inl (List.drop_eq_nil_of_le (by simp; omega))⟩
    rintro q _ H3 ⟨rfl, ht, hf'⟩
    refine ⟨fun h => ?_, fun h => ?_⟩
    · obtain ⟨hk, y, hy, hle⟩ := ht h
      refine ⟨by omega, ⟨by omega, by omega, rfl, ?_⟩, by dsimp only; omega⟩
      rw [show (k + 1).toNat - i.toNat = (k.toNat - i.toNat) + 1 by omega]
      exact takeW_step hy hle hT
    obtain ⟨e1, e2⟩ := takeW_stop (hf' h) hT
    obtain ⟨r, hd, hrun, hrest, hik⟩ := run_of hx (k := k.toNat) (by omega) e1 e2 (by omega)
    have hfp : ∃ f', f = f' + 1 := ⟨f - 1, by rw [hd] at hf; simp at hf; omega⟩
    obtain ⟨f', rfl⟩ := hfp
    rw [hd, hdrG, hrest] at hg
    have hld : (ls.drop k.toNat).length ≤ f' := by
      rw [hd] at hf
      have := congrArg List.length hd
      simp at this hf ⊢; omega
    have hcond : (ls.drop k.toNat ≠ [] ∨ x ≠ 0) ↔ (k < n ∨ x ≠ 0) := by
      have : ls.drop k.toNat ≠ [] ↔ k < n := by
        rw [ne_eq, List.drop_eq_nil_iff]; omega
      rw [this]
    refine ⟨fun q H' => H' = H3 ∧ (q = true ↔ (k < n ∨ x ≠ 0)), ⟨fun hk => ⟨rfl, ?_⟩, fun hk => ⟨b, o, rfl, ⟨h0, hi⟩, x, c1, rfl, ?_⟩⟩, ?_⟩
    · simp only [decide_eq_true_eq] at hk; simp [hk]
    · simp only [decide_eq_false_iff_not] at hk; simp [hk]
    rintro q _ H4 ⟨rfl, hq⟩
    have hrun' : ((k - i : Int)) = ((1 + (r.takeWhile (fun y => decide (y = x))).length : Nat) : Int) := by omega
    have hr256 : 1 + (r.takeWhile (fun y => decide (y = x))).length ≤ 256 := by omega
    refine ⟨fun A' n' c' H' => Keeps H H' ∧ n' ≤ 3 * k.toNat ∧ ∃ b, ownB H' H.size A' n' c' b ∧ b ++ hdrG f' (ls.drop k.toNat) = hdrG ls.length ls, ⟨fun h => ?_, fun h => ?_⟩, fun A' n' c' _ H9 h9 => ?_⟩
    · have hc := hq.1 h
      rw [if_pos (hcond.2 hc)] at hg
      refine ⟨by omega, ?_⟩
      rw [hrun']
      generalize 1 + (r.takeWhile (fun y => decide (y = x))).length = run at *
      refine HCalls.mono (f161.spec φ run H4 (by omega)) ?_
      rintro v H5 ⟨B, m, d, rfl, w5, k45⟩
      have lm := w5.len
      have lb2 := numB_len2 hr256
      have own5 := own.keeps k45
      refine ⟨_, _, _, rfl, ?_⟩
      refine app_bytes own5 w5.row (by omega) (by have := k45.size; omega) ?_
      intro A6 c6 H6 w6 f6 e6 _
      have k6 := f6.keeps (k1.trans k45) fun b hb => (ownC.lt own5.own hb).1
      refine ⟨_, _, _, rfl, b, o, rfl, ⟨h0, hi⟩, x, k6.cel cx1, ?_⟩
      rw [wrap_u8, show x % 256 = x by omega]
      intro H7
      refine app_byte w6 k6.size (by omega) (y := x) (by omega) ?_
      intro A8 c8 H8 w8 f8 e8
      refine ⟨_, _, _, rfl, f8.keeps k6 fun b hb => (ownC.lt w6.own hb).1, by omega, _, w8, ?_⟩
      rw [← hg]; simp
    · have hc : ¬ (k < n ∨ x ≠ 0) := fun g => by have := hq.2 g; rw [h] at this; cases this
      rw [if_neg (fun g => hc (hcond.1 g)), List.nil_append] at hg
      exact ⟨k1, by omega, bs, own, hg⟩
    · obtain ⟨k9, hn9, b9, own9, hg9⟩ := h9
      exact ⟨⟨by omega, by omega, k9, hn9, b9, f', own9, hld, hg9⟩, by dsimp only; omega⟩
  · simp only [decide_eq_false_iff_not] at hi
    rw [List.drop_eq_nil_of_le (by omega)] at hg
    have e : ∀ f, hdrG f [] = [] := by intro f; cases f <;> rfl
    rw [e, List.append_nil] at hg
    intro H2
    refine app_byte own s1 (by omega) (y := 0) (by omega) ?_
    intro A' c' H3 w f3 e3
    refine ⟨_, _, _, rfl, _, _, _, rfl, by omega, ?_, f3.keeps k1 fun b hb => (ownC.lt own.own hb).1⟩
    rw [hdrL, ← hg]; exact w
end Go.Proofs.Ytkkjjjgcfnhabaa.Eng
namespace Go.Proofs.Ytkkjjjgcfnhabaa.Eng
open Go Go.Proofs
def byteAt (bs : List Int) (q : Nat) : Int :=
  bs.getD (8 * q) 0 + bs.getD (8 * q + 1) 0 * 2 + bs.getD (8 * q + 2) 0 * 4 + bs.getD (8 * q + 3) 0 * 8 + bs.getD (8 * q + 4) 0 * 16 + bs.getD (8 * q + 5) 0 * 32 + bs.getD (8 * q + 6) 0 * 64 + bs.getD (8 * q + 7) 0 * 128
def packL (bs : List Int) : List Int := (List.range ((bs.length + 7) / 8)).map (byteAt bs)
def packZ (bs : List Int) : List Int := (List.range (bs.length / 8 + 1)).map (byteAt bs)
def bitsR (bs : List Int) : Prop := ∀ x ∈ bs, x = 0 ∨ x = 1
theorem bits_at {bs : List Int} (h : bitsR bs) (i : Nat) : (bs.getD i 0 = 0 ∨ bs.getD i 0 = 1) ∧ (bs.length ≤ i → bs.getD i 0 = 0) := by
  rw [List.getD_eq_getElem?_getD]
  cases hc : bs[i]? with
  | none => exact ⟨Or.inl rfl, fun _ => rfl⟩
  | some x =>
    refine ⟨h x (List.mem_of_getElem? hc), fun hl => ?_⟩
    have := (List.getElem?_eq_some_iff.1 hc).1; omega
theorem getD_app (bs : List Int) (b : Int) (i : Nat) : (bs ++ [b]).getD i 0 = if i = bs.length then b else bs.getD i 0 := by
  simp only [List.getD_eq_getElem?_getD, List.getElem?_append]
  by_cases h : i < bs.length
  · rw [if_pos h, if_neg (by omega)]
  · rw [if_neg h]
    by_cases e : i = bs.length
    · rw [if_pos e, e, Nat.sub_self]; rfl
    · rw [if_neg e, List.getElem?_eq_none (by simp; omega), List.getElem?_eq_none (by omega)]
theorem pow2r {r : Nat} (h : r < 8) : (r = 0 ∧ (2 : Int) ^ r = 1) ∨ (r = 1 ∧ (2 : Int) ^ r = 2) ∨ (r = 2 ∧ (2 : Int) ^ r = 4) ∨ (r = 3 ∧ (2 : Int) ^ r = 8) ∨ (r = 4 ∧ (2 : Int) ^ r = 16) ∨ (r = 5 ∧ (2 : Int) ^ r = 32) ∨ (r = 6 ∧ (2 : Int) ^ r = 64) ∨ (r = 7 ∧ (2 : Int) ^ r = 128) := by
  match r, h with
  | 0, _ => decide
  | 1, _ => decide
  | 2, _ => decide
  | 3, _ => decide
  | 4, _ => decide
  | 5, _ => decide
  | 6, _ => decide
  | 7, _ => decide
theorem byteAt_bd {bs : List Int} (h : bitsR bs) (q : Nat) : 0 ≤ byteAt bs q ∧ byteAt bs q < 256 := by
  have h0 := (bits_at h (8 * q)).1
  have h1 := (bits_at h (8 * q + 1)).1
  have h2 := (bits_at h (8 * q + 2)).1
  have h3 := (bits_at h (8 * q + 3)).1
  have h4 := (bits_at h (8 * q + 4)).1
  have h5 := (bits_at h (8 * q + 5)).1
  have h6 := (bits_at h (8 * q + 6)).1
  have h7 := (bits_at h (8 * q + 7)).1
  unfold byteAt; omega
theorem byteAt_lt {bs : List Int} (h : bitsR bs) : byteAt bs (bs.length / 8) < 2 ^ (bs.length % 8) := by
  have h0 := bits_at h (8 * (bs.length / 8))
  have h1 := bits_at h (8 * (bs.length / 8) + 1)
  have h2 := bits_at h (8 * (bs.length / 8) + 2)
  have h3 := bits_at h (8 * (bs.length / 8) + 3)
  have h4 := bits_at h (8 * (bs.length / 8) + 4)
  have h5 := bits_at h (8 * (bs.length / 8) + 5)
  have h6 := bits_at h (8 * (bs.length / 8) + 6)
  have h7 := bits_at h (8 * (bs.length / 8) + 7)
  have hm : bs.length = 8 * (bs.length / 8) + bs.length % 8 := (Nat.div_add_mod _ 8).symm
  have hp := pow2r (r := bs.length % 8) (Nat.mod_lt _ (by decide))
  unfold byteAt
  generalize bs.length % 8 = r at *
  generalize bs.length / 8 = q at *
  generalize bs.getD (8 * q) 0 = x0 at *
  generalize bs.getD (8 * q + 1) 0 = x1 at *
  generalize bs.getD (8 * q + 2) 0 = x2 at *
  generalize bs.getD (8 * q + 3) 0 = x3 at *
  generalize bs.getD (8 * q + 4) 0 = x4 at *
  generalize bs.getD (8 * q + 5) 0 = x5 at *
  generalize bs.getD (8 * q + 6) 0 = x6 at *
  generalize bs.getD (8 * q + 7) 0 = x7 at *
  rcases hp with ⟨a, b⟩ | ⟨a, b⟩ | ⟨a, b⟩ | ⟨a, b⟩ | ⟨a, b⟩ | ⟨a, b⟩ | ⟨a, b⟩ | ⟨a, b⟩ <;> rw [b] <;> omega
theorem byteAt_new (bs : List Int) (b : Int) (q : Nat) : byteAt (bs ++ [b]) q = if q = bs.length / 8 then byteAt bs q - bs.getD bs.length 0 * 2 ^ (bs.length % 8) + b * 2 ^ (bs.length % 8) else byteAt bs q := by
  have hm : bs.length = 8 * (bs.length / 8) + bs.length % 8 := (Nat.div_add_mod _ 8).symm
  have hr : bs.length % 8 < 8 := Nat.mod_lt _ (by decide)
  unfold byteAt
  simp only [getD_app]
  by_cases e : q = bs.length / 8
  · rw [if_pos e]
    have hp := pow2r hr
    rcases hp with ⟨a, p⟩ | ⟨a, p⟩ | ⟨a, p⟩ | ⟨a, p⟩ | ⟨a, p⟩ | ⟨a, p⟩ | ⟨a, p⟩ | ⟨a, p⟩ <;> rw [p] <;> rw [a] at hm <;> subst e
    · rw [if_pos (by omega), if_neg (by omega), if_neg (by omega), if_neg (by omega), if_neg (by omega), if_neg (by omega), if_neg (by omega), if_neg (by omega), show bs.getD bs.length 0 = bs.getD (8 * (bs.length / 8)) 0 by congr 1]; omega
    · rw [if_neg (by omega), if_pos (by omega), if_neg (by omega), if_neg (by omega), if_neg (by omega), if_neg (by omega), if_neg (by omega), if_neg (by omega), show bs.getD bs.length 0 = bs.getD (8 * (bs.length / 8) + 1) 0 by congr 1]; omega
    · rw [if_neg (by omega), if_neg (by omega), if_pos (by omega), if_neg (by omega), if_neg (by omega), if_neg (by omega), if_neg (by omega), if_neg (by omega), show bs.getD bs.length 0 = bs.getD (8 * (bs.length / 8) + 2) 0 by congr 1]; omega
    · rw [if_neg (by omega), if_neg (by omega), if_neg (by omega), if_pos (by omega), if_neg (by omega), if_neg (by omega), if_neg (by omega), if_neg (by omega), show bs.getD bs.length 0 = bs.getD (8 * (bs.length / 8) + 3) 0 by congr 1]; omega
    · rw [if_neg (by omega), if_neg (by omega), if_neg (by omega), if_neg (by omega), if_pos (by omega), if_neg (by omega), if_neg (by omega), if_neg (by omega), show bs.getD bs.length 0 = bs.getD (8 * (bs.length / 8) + 4) 0 by congr 1]; omega
    · rw [if_neg (by omega), if_neg (by omega), if_neg (by omega), if_neg (by omega), if_neg (by omega), if_pos (by omega), if_neg (by omega), if_neg (by omega), show bs.getD bs.length 0 = bs.getD (8 * (bs.length / 8) + 5) 0 by congr 1]; omega
    · rw [if_neg (by omega), if_neg (by omega), if_neg (by omega), if_neg (by omega), if_neg (by omega), if_neg (by omega), if_pos (by omega), if_neg (by omega), show bs.getD bs.length 0 = bs.getD (8 * (bs.length / 8) + 6) 0 by congr 1]; omega
    · rw [if_neg (by omega), if_neg (by omega), if_neg (by omega), if_neg (by omega), if_neg (by omega), if_neg (by omega), if_neg (by omega), if_pos (by omega), show bs.getD bs.length 0 = bs.getD (8 * (bs.length / 8) + 7) 0 by congr 1]; omega
  · rw [if_neg e]
    rw [if_neg (by omega), if_neg (by omega), if_neg (by omega), if_neg (by omega), if_neg (by omega), if_neg (by omega), if_neg (by omega), if_neg (by omega)]
theorem packZ_len (bs : List Int) : (packZ bs).length = bs.length / 8 + 1 := by simp [packZ]
theorem packL_len (bs : List Int) : (packL bs).length = (bs.length + 7) / 8 := by simp [packL]
theorem packZ_eq (bs : List Int) (h : bitsR bs) : packZ bs = packL bs ++ (if bs.length % 8 = 0 then [0] else []) := by
  have hm : bs.length = 8 * (bs.length / 8) + bs.length % 8 := (Nat.div_add_mod _ 8).symm
  unfold packZ packL
  by_cases e : bs.length % 8 = 0
  · rw [if_pos e, show (bs.length + 7) / 8 = bs.length / 8 by omega, List.range_succ, List.map_append]
    have := byteAt_lt h
    have := (byteAt_bd h (bs.length / 8)).1
    rw [e] at *
    have : byteAt bs (bs.length / 8) = 0 := by omega
    simp [this]
  · rw [if_neg e, List.append_nil, show (bs.length + 7) / 8 = bs.length / 8 + 1 by omega]
theorem packL_new (bs : List Int) (h : bitsR bs) (b : Int) : packL (bs ++ [b]) = (packZ bs).set (bs.length / 8) (byteAt bs (bs.length / 8) + b * 2 ^ (bs.length % 8)) := by
  have h0 := (bits_at h bs.length).2 (Nat.le_refl _)
  apply List.ext_getElem?
  intro q
  rw [List.getElem?_set, packZ_len]
  have hlen : ((bs ++ [b]).length + 7) / 8 = bs.length / 8 + 1 := by simp; omega
  by_cases hq : q < bs.length / 8 + 1
  · have e1 : (packL (bs ++ [b]))[q]? = some (byteAt (bs ++ [b]) q) := by
      rw [packL, hlen, List.getElem?_map, List.getElem?_range hq]; rfl
    have e2 : (packZ bs)[q]? = some (byteAt bs q) := by rw [packZ, List.getElem?_map, List.getElem?_range hq]; rfl
    rw [e1, e2, byteAt_new, h0]
    by_cases e : bs.length / 8 = q
    · subst e; rw [if_pos rfl, if_pos rfl, if_pos hq]; simp
    · rw [if_neg (fun g => e g.symm), if_neg e]
  · rw [List.getElem?_eq_none (by rw [packL_len, hlen]; omega), if_neg (by omega), List.getElem?_eq_none (by rw [packZ_len]; omega)]
end Go.Proofs.Ytkkjjjgcfnhabaa.Eng
namespace Go.Proofs.Ytkkjjjgcfnhabaa.Eng
open Go Go.Proofs
theorem or_addB {v d : Int} {k : Nat} (h0 : 0 ≤ v) (h1 : v < 2 ^ k) (hd : 0 ≤ d) (hs : v + d * 2 ^ k ≤ 255) : bOr .u8 v (d * 2 ^ k) = v + d * 2 ^ k := by
  obtain ⟨a, rfl⟩ := Int.eq_ofNat_of_zero_le h0
  obtain ⟨b, rfl⟩ := Int.eq_ofNat_of_zero_le hd
  have e : ((b : Int) * 2 ^ k) = ((b * 2 ^ k : Nat) : Int) := by simp
  have h1' : a < 2 ^ k := by exact_mod_cast h1
  have hs' : a + b * 2 ^ k ≤ 255 := by rw [e] at hs; omega
  have e2 : bOr .u8 (a : Int) ((b : Int) * 2 ^ k) = IntKind.wrap .u8 (((BitVec.ofInt 8 (a : Int) ||| BitVec.ofInt 8 ((b : Int) * 2 ^ k)).toNat : Nat) : Int) := rfl
  have ta : (BitVec.ofInt 8 (a : Int)).toNat = a := by rw [BitVec.toNat_ofInt]; omega
  have tb : (BitVec.ofInt 8 ((b : Int) * 2 ^ k)).toNat = b * 2 ^ k := by rw [e, BitVec.toNat_ofInt]; omega
  rw [e2, BitVec.toNat_or, ta, tb, nat_or_add h1', wrap_u8, e]; omega
/-- What a change of the answer under way leaves alone: all but the two variables and the bytes from `base` on. -/
structure pF (bb ob base : Nat) (H H' : Hp) : Prop where
  size : H.size ≤ H'.size
  same : ∀ k, k < H.size → k ≠ bb → k ≠ ob → (k < base ∨ ∀ cs, ¬ objAt H k cs 5) → H'[k]? = H[k]?
theorem pF.refl (bb ob base : Nat) (H : Hp) : pF bb ob base H H := ⟨Nat.le_refl _, fun _ _ _ _ _ => rfl⟩
theorem pF.trans {bb ob base : Nat} {H H' H'' : Hp} (h : pF bb ob base H H') (k : pF bb ob base H' H'') : pF bb ob base H H'' :=
  ⟨Nat.le_trans h.size k.size, fun i hi h1 h2 h3 => by
    have e := h.same i hi h1 h2 h3
    rw [k.same i (Nat.lt_of_lt_of_le hi h.size) h1 h2 ?_, e]
    rcases h3 with h3 | h3
    · exact Or.inl h3
    · exact Or.inr fun cs ho => h3 cs (by unfold objAt at ho ⊢; rw [← e]; exact ho)⟩
theorem Keeps.pF {bb ob base : Nat} {H H' : Hp} (k : Keeps H H') : Go.Proofs.Ytkkjjjgcfnhabaa.Eng.pF bb ob base H H' := ⟨k.size, fun i hi _ _ _ => k.old i hi⟩
theorem pF.obj {bb ob base : Nat} {H H' : Hp} (h : pF bb ob base H H') {k : Nat} {cs : Array Value} {t : TypeId} (o : objAt H k cs t) (h1 : k ≠ bb) (h2 : k ≠ ob) (ht : t ≠ 5) : objAt H' k cs t := by
  have e := h.same k (objAt_lt o) h1 h2 (Or.inr fun cs' o' => by unfold objAt at o o'; rw [o] at o'; cases o'; exact ht rfl)
  unfold objAt at o ⊢; rw [e]; exact o
theorem pF.keeps {bb ob base : Nat} {G H H' : Hp} (h : pF bb ob base H H') (k : Keeps G H) (h1 : G.size ≤ bb) (h2 : G.size ≤ ob) (h3 : G.size ≤ base) : Keeps G H' :=
  ⟨Nat.le_trans k.size h.size, fun i hi => by rw [h.same i (Nat.lt_of_lt_of_le hi k.size) (by omega) (by omega) (Or.inl (by omega))]; exact k.old i hi⟩
theorem offA.pF {bb ob base : Nat} {A : Option Addr} {H H' : Hp} {n c : Nat} {xs : List Int} (h : offA A H H') (own : ownB H base A n c xs) : Go.Proofs.Ytkkjjjgcfnhabaa.Eng.pF bb ob base H H' :=
  ⟨h.1, fun i hi _ _ h3 => h.2 i hi fun e => by
    obtain ⟨cs, o⟩ := ownC.tob own.own e
    rcases h3 with h3 | h3
    · have := (ownC.lt own.own e).1; omega
    · exact h3 cs o⟩
theorem pF_put {bb ob base : Nat} {H : Hp} (b o : Nat) (vs : List Value) (h : b = bb ∨ b = ob) : pF bb ob base H (hput H b o vs) :=
  ⟨by rw [hput_size]; exact Nat.le_refl _, fun i hi h1 h2 _ => hput_other (by rcases h with h | h <;> omega)⟩
theorem cell1 {H : Hp} {b : Nat} {v : Value} {t : TypeId} (o : objAt H b #[v] t) : cel H b 0 = some v := by rw [objAt_cel o]; rfl
theorem put1 {H : Hp} {b : Nat} {v w : Value} {t : TypeId} (o : objAt H b #[v] t) (hw : w.oneCell' = true) : canPut H b 0 [w] ∧ objAt (hput H b 0 [w]) b #[w] t :=
  ⟨objAt_canPut o (by simp) (by simpa using hw), objAt_put o 0 [w] _ (by simp [spl])⟩
theorem f131.spec (φ : Fx) (bit : Int) (hbit : bit = 0 ∨ bit = 1) (bb ob base : Nat) (hne : bb ≠ ob) (pre bs : List Int) (hbs : bitsR bs) (H : Hp) (A : Option Addr) (n c : Nat) (hb : objAt H bb #[.int .i64 (bs.length : Nat)] 3) (ho : objAt H ob #[.slice A n c] 59)
    (own : ownB H base A n c (pre ++ packL bs)) (hn : n ≤ 1099511627776) (hl : bs.length ≤ 1099511627776) (hbz : base ≤ H.size) :
    HCalls cx.P φ 131 [.int .u32 bit, .pointer (some ⟨bb, 0, none⟩), .pointer (some ⟨ob, 0, none⟩)] H fun r H' => r = .tuple #[] ∧ ∃ A' n' c', objAt H' bb #[.int .i64 ((bs ++ [bit]).length : Nat)] 3 ∧ objAt H' ob #[.slice A' n' c'] 59 ∧ ownB H' base A' n' c' (pre ++ packL (bs ++ [bit])) ∧ n' ≤ n + 1 ∧ pF bb ob base H H' := by
  apply f131.of
  unfold f131.VC
  have hln := own.len
  have hA : ∀ q t (cs : Array Value) (G : Hp) A n c xs, ownB G base A n c xs → objAt G q cs t → t ≠ 5 → A ≠ some ⟨q, 0, none⟩ := fun q t cs G A n c xs ow ho ht e => by
    obtain ⟨cs2, o2⟩ := ownC.tob ow.own e
    unfold objAt at ho o2
    rw [ho] at o2; cases o2; exact ht rfl
  refine ⟨_, cell1 hb, by omega, ?_⟩
  -- the byte under way is there
  refine ⟨fun H' => ∃ A' n' c', objAt H' bb #[.int .i64 (bs.length : Nat)] 3 ∧ objAt H' ob #[.slice A' n' c'] 59 ∧ ownB H' base A' n' c' (pre ++ packZ bs) ∧ n' ≤ n + 1 ∧ pF bb ob base H H', ⟨fun h => ?_, fun h => ?_⟩, ?_⟩
  · simp only [decide_eq_true_eq] at h
    refine ⟨A, n, c, cell1 ho, ?_⟩
    intro H1
    refine app_byte own hbz (by omega) (y := 0) (by omega) ?_
    intro A' c' H2 w f e
    have o2 := ho.frame (f.2 _ (objAt_lt ho) (hA _ _ _ _ _ _ _ _ own ho (by decide)))
    have b2 := hb.frame (f.2 _ (objAt_lt hb) (hA _ _ _ _ _ _ _ _ own hb (by decide)))
    obtain ⟨p1, p2⟩ := put1 o2 (w := .slice A' (n + 1) c') rfl
    refine ⟨_, _, _, rfl, p1, _, _, _, b2.frame (hput_other hne.symm), p2, ?_, Nat.le_refl _, (offA.pF f own).trans (pF_put _ _ _ (Or.inr rfl))⟩
    rw [packZ_eq bs hbs, if_pos (by omega), ← List.append_assoc]
    exact ownB.frame w fun q hq => hput_other fun e2 => hA _ _ _ _ _ _ _ _ w o2 (by decide) (by rw [e2]; exact hq)
  · simp only [decide_eq_false_iff_not] at h
    refine ⟨A, n, c, hb, ho, ?_, by omega, pF.refl ..⟩
    rw [packZ_eq bs hbs, if_neg (by omega), List.append_nil]; exact own
  rintro _ H4 ⟨A4, n4, c4, b4, o4, own4, hn4, f4⟩
  have l4 := own4.len
  rw [List.length_append, packZ_len] at l4
  have hlz : pre.length + bs.length / 8 < n4 := by omega
  obtain ⟨q4, rfl, _, _⟩ := ownC.some_of own4.own (by omega)
  refine ⟨_, _, _, cell1 o4, _, _, _, cell1 o4, by omega, _, _, rfl, ⟨by omega, by omega⟩, ?_⟩
  have hx : (pre ++ packZ bs)[pre.length + bs.length / 8]? = some (byteAt bs (bs.length / 8)) := by
    rw [List.getElem?_append_right (by omega), Nat.add_sub_cancel_left, packZ, List.getElem?_map, List.getElem?_range (by omega)]; rfl
  obtain ⟨x, bq, oq, hx', e, cx1, _⟩ := own4.row.at (i := ((pre.length + bs.length / 8 : Nat) : Int)) (by omega) (by omega)
  cases e
  rw [Int.toNat_natCast, hx] at hx'
  cases hx'
  have ei : ((n4 : Int) - 1).toNat = pre.length + bs.length / 8 := by omega
  rw [Int.toNat_natCast] at cx1
  have bl := byteAt_lt hbs
  have bd := byteAt_bd hbs (bs.length / 8)
  have hr : bs.length % 8 < 8 := Nat.mod_lt _ (by decide)
  have hor : bOr .u8 (byteAt bs (bs.length / 8)) (IntKind.wrap .u8 (IntKind.wrap .u32 (bit * 2 ^ (min (((bs.length : Nat) : Int) % 8).toNat 32)))) = byteAt bs (bs.length / 8) + bit * 2 ^ (bs.length % 8) := by
    have e1 : min (((bs.length : Nat) : Int) % 8).toNat 32 = bs.length % 8 := by omega
    rw [e1]
    have hp := pow2r hr
    have h01 : IntKind.wrap .u8 (IntKind.wrap .u32 (bit * 2 ^ (bs.length % 8))) = bit * 2 ^ (bs.length % 8) := by
      rw [wrap_u8, wrap_u32]
      rcases hp with ⟨_, p⟩ | ⟨_, p⟩ | ⟨_, p⟩ | ⟨_, p⟩ | ⟨_, p⟩ | ⟨_, p⟩ | ⟨_, p⟩ | ⟨_, p⟩ <;> rw [p] <;> omega
    rw [h01]
    refine or_addB bd.1 bl (by omega) ?_
    rcases hp with ⟨_, p⟩ | ⟨_, p⟩ | ⟨_, p⟩ | ⟨_, p⟩ | ⟨_, p⟩ | ⟨_, p⟩ | ⟨_, p⟩ | ⟨_, p⟩ <;> rw [p] at bl ⊢ <;> omega
  have hnew : 0 ≤ byteAt bs (bs.length / 8) + bit * 2 ^ (bs.length % 8) ∧ byteAt bs (bs.length / 8) + bit * 2 ^ (bs.length % 8) < 256 := by
    have hp := pow2r hr
    rcases hp with ⟨_, p⟩ | ⟨_, p⟩ | ⟨_, p⟩ | ⟨_, p⟩ | ⟨_, p⟩ | ⟨_, p⟩ | ⟨_, p⟩ | ⟨_, p⟩ <;> rw [p] at bl ⊢ <;> omega
  obtain ⟨p1, p2⟩ := ownB_set own4 (i := pre.length + bs.length / 8) (by omega) hnew
  rw [ei]
  refine ⟨_, cx1, _, cell1 b4, by omega, by omega, _, _, rfl, ⟨by omega, by omega⟩, ?_⟩
  rw [hor]
  refine ⟨p1, ?_⟩
  intro H5
  have b5 : objAt H5 bb #[.int .i64 (bs.length : Nat)] 3 := b4.frame (hput_other fun e => hA _ _ _ _ _ _ _ _ own4 b4 (by decide) (by rw [e]))
  have o5 : objAt H5 ob #[.slice (some ⟨q4, 0, none⟩) n4 c4] 59 := o4.frame (hput_other fun e => hA _ _ _ _ _ _ _ _ own4 o4 (by decide) (by rw [e]))
  have f45 : pF bb ob base H4 H5 := offA.pF (offA.put (offA.refl _ _) _ _) own4
  have p2 : ownB H5 base (some ⟨q4, 0, none⟩) n4 c4 ((pre ++ packZ bs).set (pre.length + bs.length / 8) (byteAt bs (bs.length / 8) + bit * 2 ^ (bs.length % 8))) := p2
  clear_value H5
  obtain ⟨r1, r2⟩ := put1 b5 (w := .int .i64 ((bs.length : Nat) + 1)) rfl
  refine ⟨_, cell1 b5, by omega, r1, rfl, _, _, _, ?_, o5.frame (hput_other (fun e => hne e)), ?_, hn4, (f4.trans f45).trans (pF_put _ _ _ (Or.inl rfl))⟩
  · rw [List.length_append, show ((bs.length + [bit].length : Nat) : Int) = (bs.length : Int) + 1 by simp]; exact r2
  · rw [packL_new bs hbs]
    rw [List.set_append_right _ _ (by omega), Nat.add_sub_cancel_left] at p2
    exact ownB.frame p2 fun q hq => hput_other fun e2 => hA _ _ _ _ _ _ _ _ p2 b5 (by decide) (by rw [e2]; exact hq)
end Go.Proofs.Ytkkjjjgcfnhabaa.Eng
namespace Go.Proofs.Ytkkjjjgcfnhabaa.Eng
open Go Go.Proofs
def bitsC (p : Int × Int) : List Int := (List.range p.1.toNat).map fun j => (p.2 / 2 ^ (p.1.toNat - 1 - j)) % 2
def bitsT (cds : List (Int × Int)) : List Int → List Int
  | [] => []
  | c :: r => bitsC (cds.getD c.toNat (0, 0)) ++ bitsT cds r
def countT (t : List Int) : List Int := (List.range 256).map fun v => ((t.filter fun x => decide (x = ((v : Nat) : Int))).length : Nat)
def lensT (t : List Int) : List Int := (lenRes (countT t) 15).1
def hufL (t : List Int) : List Int := hdrL (lensT t) ++ packL (bitsT (cdL (lensT t)) t)
theorem bitsC_len (p : Int × Int) : (bitsC p).length = p.1.toNat := by simp [bitsC]
theorem bitsC_r (p : Int × Int) : bitsR (bitsC p) := fun x hx => by
  obtain ⟨j, _, rfl⟩ := List.mem_map.1 hx
  omega
theorem bitsT_r (cds : List (Int × Int)) : ∀ t, bitsR (bitsT cds t)
  | [] => fun x hx => by simp [bitsT] at hx
  | c :: r => fun x hx => by
    rw [bitsT] at hx
    rcases List.mem_append.1 hx with h | h
    · exact bitsC_r _ x h
    · exact bitsT_r cds r x h
theorem bitsT_app (cds : List (Int × Int)) : ∀ a b, bitsT cds (a ++ b) = bitsT cds a ++ bitsT cds b
  | [], b => rfl
  | x :: a, b => by rw [List.cons_append, bitsT, bitsT, bitsT_app cds a b, List.append_assoc]
theorem bitsT_len {cds : List (Int × Int)} (h : ∀ p ∈ cds, p.1 ≤ 15) : ∀ t, (bitsT cds t).length ≤ 15 * t.length
  | [] => by simp [bitsT]
  | c :: r => by
    have := bitsT_len h r
    rw [bitsT, List.length_append, bitsC_len, List.length_cons]
    have : (cds.getD c.toNat (0, 0)).1 ≤ 15 := by
      rw [List.getD_eq_getElem?_getD]
      cases hc : cds[c.toNat]? with
      | none => decide
      | some p => exact h p (List.mem_of_getElem? hc)
    omega
theorem countT_len (t : List Int) : (countT t).length = 256 := by simp [countT]
theorem countT_get (t : List Int) {v : Nat} (hv : v < 256) : (countT t)[v]? = some (((t.filter fun x => decide (x = ((v : Nat) : Int))).length : Nat) : Int) := by
  rw [countT, List.getElem?_map, List.getElem?_range hv]; rfl
theorem countT_app (t : List Int) {c : Int} (h0 : 0 ≤ c) (h1 : c < 256) : countT (t ++ [c]) = (countT t).set c.toNat ((countT t).getD c.toNat 0 + 1) := by
  apply List.ext_getElem?
  intro j
  rw [List.getElem?_set, countT_len]
  by_cases hj : j < 256
  · rw [countT_get _ hj, List.getD_eq_getElem?_getD, countT_get t (v := c.toNat) (by omega), List.filter_append, List.length_append]
    by_cases e : c.toNat = j
    · subst e
      rw [if_pos rfl, if_pos hj]
      have : List.filter (fun x => decide (x = ((c.toNat : Nat) : Int))) [c] = [c] := by rw [List.filter_cons_of_pos (by simp; omega)]; rfl
      rw [this]; simp
    · rw [if_neg e, countT_get t hj]
      have : List.filter (fun x => decide (x = ((j : Nat) : Int))) [c] = [] := by rw [List.filter_cons_of_neg (by simp; omega)]; rfl
      rw [this]; simp
  · rw [List.getElem?_eq_none (by rw [countT_len]; omega), if_neg (by omega), List.getElem?_eq_none (by rw [countT_len]; omega)]
theorem countT_bd (t : List Int) : ∀ x ∈ countT t, 0 ≤ x ∧ x ≤ t.length := fun x hx => by
  obtain ⟨v, _, rfl⟩ := List.mem_map.1 hx
  have := List.length_filter_le (fun x => decide (x = ((v : Nat) : Int))) t
  omega
theorem countT_ok {t : List Int} (h : t.length ≤ 65536) : okCounts (countT t) = true := by
  refine List.all_eq_true.2 fun x hx => ?_
  have := countT_bd t x hx
  simp only [Bool.and_eq_true, decide_eq_true_eq]; omega
theorem countT_nil : countT [] = List.replicate 256 0 := by
  apply List.ext_getElem?
  intro j
  by_cases hj : j < 256
  · rw [countT_get _ hj, List.getElem?_replicate, if_pos hj]; rfl
  · rw [List.getElem?_eq_none (by rw [countT_len]; omega), List.getElem?_eq_none (by simp; omega)]
/-- What is known of a text's lengths. -/
theorem lensT_pm {t : List Int} (h : t.length ≤ 65536) : (lenRes (countT t) 15).2 = 0 ∧ PM (countT t) 15 (lensT t) := by
  have hok := countT_ok h
  have hl := countT_len t
  refine len_pm (by omega) hok (by omega) (by omega) ?_
  have := (things_bd hok (by omega)).2.2.2
  have e : 2 ^ (15 : Int).toNat = 32768 := by decide
  omega
theorem lensT_len {t : List Int} (h : t.length ≤ 65536) : (lensT t).length = 256 := by rw [(lensT_pm h).2.len, countT_len]
theorem lensT_in {t : List Int} (h : t.length ≤ 65536) : insideB (lensT t) = true := insideB_of fun i hi => by
  have pm := (lensT_pm h).2
  have := pm.rng i (by rw [← pm.len]; exact hi)
  omega
theorem lensT_kr {t : List Int} (h : t.length ≤ 65536) : kraftL (lensT t) ≤ 32768 := by
  have := (lensT_pm h).2.kraft
  split at this <;> omega
theorem lensT_codes {t : List Int} (h : t.length ≤ 65536) : codesRes (lensT t) = (cdL (lensT t), 0) := by
  have := lensT_kr h
  unfold codesRes; rw [if_neg (by rw [lensT_len h]; omega), if_neg (by rw [lensT_in h]; decide), if_neg (by omega)]
theorem and1 {y : Int} (h : 0 ≤ y) (h2 : y < 4294967296) : bAnd .u32 y 1 = y % 2 := by
  obtain ⟨a, rfl⟩ := Int.eq_ofNat_of_zero_le h
  have e2 : bAnd .u32 (a : Int) 1 = IntKind.wrap .u32 (((BitVec.ofInt 32 (a : Int) &&& BitVec.ofInt 32 1).toNat : Nat) : Int) := rfl
  have ta : (BitVec.ofInt 32 (a : Int)).toNat = a := by rw [BitVec.toNat_ofInt]; omega
  have tb : (BitVec.ofInt 32 1).toNat = 1 := by decide
  rw [e2, BitVec.toNat_and, ta, tb, Nat.and_one_is_mod, wrap_u32]; omega
theorem ownCd_pF {bb ob base base2 : Nat} {H H' : Hp} (f : pF bb ob base H H') {A : Option Addr} {n c : Nat} {ps : List (Int × Int)} (o : ownCd H base2 A n c ps) (h1 : A ≠ some ⟨bb, 0, none⟩) (h2 : A ≠ some ⟨ob, 0, none⟩) : ownCd H' base2 A n c ps :=
  ownC.frame o fun b hb => by
    obtain ⟨cs, oc⟩ := ownC.tob o hb
    refine f.same b (objAt_lt oc) (fun e => h1 (by rw [hb, e])) (fun e => h2 (by rw [hb, e])) (Or.inr fun cs' o' => ?_)
    unfold objAt at oc o'; rw [oc] at o'; cases o'
theorem cdL_1 {ls : List Int} (h : insideB ls = true) : ∀ p ∈ cdL ls, p.1 ≤ 15 := fun p hp => by
  obtain ⟨s, _, rfl⟩ := List.mem_map.1 hp
  exact (insideB_at h s).2
theorem f67.spec (φ : Fx) (A : Option Addr) (n c : Nat) (t : List Int) (H : Hp) (hr : bytesR H A n t) (hn : n ≤ 65536) :
    HCalls cx.P φ 67 [.slice A n c] H fun r H' => ∃ A' n' c', r = .tuple #[.slice A' n' c', .int .i64 0] ∧ ownB H' H.size A' n' c' (hufL t) ∧ n' ≤ 1000000 ∧ Keeps H H' := by
  apply f67.of
  unfold f67.VC
  have hl := hr.1
  refine ⟨fun h => by simp at h; omega, fun _ => ?_⟩
  refine ⟨by omega, ?_⟩
  have hN : Int.toNat (256 : Int) = 256 := rfl
  simp -zeta only [hN]
  intro H1
  have own1 : ownI H1 H.size 2 (some ⟨H.size, 0, none⟩) 256 256 (List.replicate 256 0) := ownI_new ..
  have k1 : Keeps H H1 := Keeps.push ..
  clear_value H1
  refine ⟨fun x H' => 0 ≤ x ∧ x ≤ n ∧ Keeps H H' ∧ ownI H' H.size 2 (some ⟨H.size, 0, none⟩) 256 256 (countT (t.take x.toNat)), fun x _ => (n - x).toNat, ⟨by omega, by omega, k1, by rw [show (0 : Int).toNat = 0 from rfl, List.take_zero, countT_nil]; exact own1⟩, ?_⟩
  rintro x _ H2 ⟨x0, x1, k2, own2⟩
  refine ⟨fun hx => ?_, fun hx => ?_⟩
  · simp only [decide_eq_true_eq] at hx
    obtain ⟨y, b, o, hy, rfl, cy, y0, y1⟩ := hr.at x0 hx
    obtain ⟨z, hz, cz, rz⟩ := own2.at (i := y.toNat) (by omega)
    have gz := getD_of hz
    have zb := countT_bd _ z (List.mem_of_getElem? hz)
    simp only [List.length_take] at zb
    obtain ⟨p1, p2⟩ := own2.set (i := y.toNat) (by omega) (y := z + 1) ⟨by omega, by omega⟩
    refine ⟨b, o, rfl, ⟨x0, hx⟩, y, k2.cel cy, _, _, rfl, ⟨y0, by omega⟩, z, cz, by omega, _, _, rfl, ⟨y0, by omega⟩, p1, by omega, ⟨by omega, by omega, k2.hput (Nat.le_refl _), ?_⟩, by dsimp only; omega⟩
    rw [show (x + 1).toNat = x.toNat + 1 by omega, List.take_add_one, hy]
    have e9 := countT_app (t.take x.toNat) y0 y1
    rw [gz] at e9
    show ownI _ _ _ _ _ _ (countT (t.take x.toNat ++ [y]))
    rw [e9]; exact p2
  simp only [decide_eq_false_iff_not] at hx
  rw [List.take_of_length_le (by omega)] at own2
  have ht : t.length ≤ 65536 := by omega
  refine HCalls.mono (f56.spec φ _ 256 256 (countT t) 15 H2 own2.row (by omega)) ?_
  rintro v H4 ⟨A4, n4, c4, rfl, own4, k24⟩
  rw [(lensT_pm ht).1]
  have own4 : ownI H4 H2.size 3 A4 n4 c4 (lensT t) := own4
  have l4 := own4.len
  rw [lensT_len ht] at l4
  refine ⟨_, _, _, _, rfl, ?_⟩
  refine HCalls.mono (f84.spec φ A4 n4 c4 (lensT t) H4 own4.row (by omega)) ?_
  rintro v H5 ⟨A5, n5, c5, rfl, own5, k45⟩
  rw [lensT_codes ht] at own5 ⊢
  have own5 : ownCd H5 H4.size A5 n5 c5 (cdL (lensT t)) := own5
  have l5 := own5.len
  rw [cdL_len, lensT_len ht] at l5
  refine ⟨_, _, _, _, rfl, ?_⟩
  refine HCalls.mono (f130.spec φ A4 n4 c4 (lensT t) H5 (own4.keeps k45).row (by omega) (lensT_in ht)) ?_
  rintro v H6 ⟨A6, n6, c6, rfl, hn6, own6, k56⟩
  have k06 := ((k2.trans k24).trans k45).trans k56
  have s05 := ((k2.trans k24).trans k45).size
  have s06 := k06.size
  have l6 := own6.len
  refine ⟨_, _, _, rfl, ?_⟩
  intro H7
  have o7 : objAt H7 H6.size #[.slice none 0 0] 59 := objAt_new ..
  have k67 : Keeps H6 H7 := Keeps.push ..
  clear_value H7
  obtain ⟨p1, p2⟩ := put1 o7 (w := .slice A6 n6 c6) rfl
  refine ⟨p1, ?_⟩
  intro H8
  have o8 : objAt H8 H6.size #[.slice A6 n6 c6] 59 := p2
  have k68 : Keeps H6 H8 := k67.hput (Nat.le_refl _)
  have s68 : H6.size < H8.size := by have := objAt_lt p2; exact this
  clear_value H8
  intro H9
  have b9 : objAt H9 H8.size #[.int .i64 0] 3 := objAt_new ..
  have k89 : Keeps H8 H9 := Keeps.push ..
  clear_value H9
  obtain ⟨q1, q2⟩ := put1 b9 (w := .int .i64 0) rfl
  refine ⟨q1, ?_⟩
  intro H10
  have b10 : objAt H10 H8.size #[.int .i64 0] 3 := q2
  have k810 : Keeps H8 H10 := k89.hput (Nat.le_refl _)
  have s810 : H8.size < H10.size := objAt_lt q2
  clear_value H10
  have o10 := k810.obj o8
  have k610 := k68.trans k810
  have own10 := (own6.keeps k610).base_le s05
  have cd10 := (own5.keeps k56).keeps k610
  have h15 := cdL_1 (lensT_in ht)
  have hA5 : ∀ q, A5 = some ⟨q, 0, none⟩ → q < H6.size := fun q hq => by have := (ownC.lt own5 hq).2; have := k56.size; omega
  refine ⟨fun x H' => 0 ≤ x ∧ x ≤ n ∧ pF H8.size H6.size H.size H10 H' ∧ ∃ A' n' c', objAt H' H8.size #[.int .i64 ((bitsT (cdL (lensT t)) (t.take x.toNat)).length : Nat)] 3 ∧ objAt H' H6.size #[.slice A' n' c'] 59 ∧ ownB H' H.size A' n' c' (hdrL (lensT t) ++ packL (bitsT (cdL (lensT t)) (t.take x.toNat))), fun x _ => (n - x).toNat,
    ⟨by omega, by omega, pF.refl .., A6, n6, c6, b10, o10, by simpa [bitsT, packL] using own10⟩, ?_⟩
  clear x0 x1 hx x
  rintro x _ H11 ⟨x0, x1, f11, A11, n11, c11, b11, o11, own11⟩
  have s11 := f11.size
  refine ⟨fun hx => ?_, fun hx => ?_⟩
  · simp only [decide_eq_true_eq] at hx
    obtain ⟨y, b, o, hy, rfl, cy, y0, y1⟩ := hr.at x0 hx
    have k011 : Keeps H H11 := f11.keeps (k06.trans k610) (by omega) s06 (Nat.le_refl _)
    have cd11 := ownCd_pF f11 cd10 (fun e => by have := hA5 _ e; omega) (fun e => by have := hA5 _ e; omega)
    obtain ⟨p, b5, o5, hp, rfl, c5a, c5b⟩ := cd11.row.at (i := y) y0 (by omega)
    have hpl := h15 p (List.mem_of_getElem? hp)
    have hp2 := hp
    rw [cdL_get (by rw [lensT_len ht]; omega)] at hp2
    have hpb := code_small (lensT_kr ht) (lensT_in ht) (s := y.toNat) (by rw [lensT_len ht]; omega)
    have hp0 := (insideB_at (lensT_in ht) y.toNat).1
    simp only [Option.some.injEq] at hp2
    refine ⟨b, o, rfl, ⟨x0, hx⟩, y, k011.cel cy, b5, o5, rfl, ⟨y0, by omega⟩, p.1, c5a, p.2, c5b, ?_⟩
    intro H12
    have o12 : objAt H12 H11.size #[.int .i64 0, .int .u32 0] 130 := objAt_new ..
    have k12 : Keeps H11 H12 := Keeps.push ..
    clear_value H12
    refine ⟨objAt_canPut o12 (by simp) (encC_one p), ?_⟩
    intro H13
    have o13 : objAt H13 H11.size #[.int .i64 p.1, .int .u32 p.2] 130 := objAt_put o12 0 [.int .i64 p.1, .int .u32 p.2] _ (by simp [spl])
    have k13 : Keeps H11 H13 := k12.hput (Nat.le_refl _)
    clear_value H13
    have s13 := k13.size
    have e1 : p.1 = (lensT t).getD y.toNat 0 := by rw [← hp2]
    have e2 : p.2 = (codeW (lensT t) y.toNat : Int) := by rw [← hp2]
    refine ⟨p.1, by rw [objAt_cel o13]; rfl, by omega, ?_⟩
    have hgp : (cdL (lensT t)).getD y.toNat (0, 0) = p := by rw [List.getD_eq_getElem?_getD, hp]; rfl
    have hbl := bitsT_len h15 (t.take x.toNat)
    have hpll := bitsC_len p
    simp only [List.length_take] at hbl
    refine ⟨fun i H' => -1 ≤ i ∧ i < p.1 ∧ pF H8.size H6.size H.size H13 H' ∧ ∃ A' n' c', objAt H' H8.size #[.int .i64 ((bitsT (cdL (lensT t)) (t.take x.toNat) ++ (bitsC p).take (p.1 - 1 - i).toNat).length : Nat)] 3 ∧ objAt H' H6.size #[.slice A' n' c'] 59 ∧ ownB H' H.size A' n' c' (hdrL (lensT t) ++ packL (bitsT (cdL (lensT t)) (t.take x.toNat) ++ (bitsC p).take (p.1 - 1 - i).toNat)), fun i _ => (i + 1).toNat,
      ⟨by omega, by omega, pF.refl .., A11, n11, c11, by rw [show (p.1 - 1 - (p.1 - 1)).toNat = 0 by omega, List.take_zero, List.append_nil]; exact k13.obj b11, k13.obj o11, by rw [show (p.1 - 1 - (p.1 - 1)).toNat = 0 by omega, List.take_zero, List.append_nil]; exact own11.keeps k13⟩, ?_⟩
    rintro i _ H14 ⟨i0, i1, f14, A14, n14, c14, b14, o14, own14⟩
    refine ⟨fun hi => ?_, fun hi => ?_⟩
    · simp only [decide_eq_true_eq] at hi
      have ov := f14.obj o13 (by omega) (by omega) (by decide)
      have hpw : (2 : Int) ^ (min i.toNat 32) = 2 ^ i.toNat := by rw [show min i.toNat 32 = i.toNat by omega]
      have hq : 0 ≤ p.2 / 2 ^ i.toNat ∧ p.2 / 2 ^ i.toNat < 4294967296 := by
        have h2 : (0 : Int) < 2 ^ i.toNat := Int.pow_pos (by decide)
        refine ⟨Int.ediv_nonneg (by omega) (by omega), ?_⟩
        have := Int.ediv_le_self (a := p.2) (2 ^ i.toNat) (by omega)
        omega
      have hbit : (bitsC p)[(p.1 - 1 - i).toNat]? = some ((p.2 / 2 ^ i.toNat) % 2) := by
        rw [bitsC, List.getElem?_map, List.getElem?_range (by omega)]
        simp only [Option.map_some]
        rw [show p.1.toNat - 1 - (p.1 - 1 - i).toNat = i.toNat by omega]
      have l14 := own14.len
      rw [List.length_append, packL_len, List.length_append, List.length_take] at l14
      have hll : (bitsT (cdL (lensT t)) (t.take x.toNat) ++ (bitsC p).take (p.1 - 1 - i).toNat).length ≤ 1099511627776 := by
        rw [List.length_append, List.length_take]; omega
      have hbr : bitsR (bitsT (cdL (lensT t)) (t.take x.toNat) ++ (bitsC p).take (p.1 - 1 - i).toNat) := fun z hz => by
        rcases List.mem_append.1 hz with h | h
        · exact bitsT_r _ _ z h
        · exact bitsC_r p z (List.mem_of_mem_take h)
      refine ⟨p.2, by rw [objAt_cel ov]; rfl, hi, ?_⟩
      rw [hpw, and1 hq.1 hq.2]
      refine HCalls.mono (f131.spec φ _ (by omega) H8.size H6.size H.size (by omega) (hdrL (lensT t)) _ hbr H14 A14 n14 c14 b14 o14 own14 (by omega) hll (by have := f14.size; omega)) ?_
      rintro v H15 ⟨rfl, A15, n15, c15, b15, o15, own15, _, f15⟩
      have etk : bitsT (cdL (lensT t)) (t.take x.toNat) ++ (bitsC p).take (p.1 - 1 - i).toNat ++ [(p.2 / 2 ^ i.toNat) % 2] = bitsT (cdL (lensT t)) (t.take x.toNat) ++ (bitsC p).take (p.1 - 1 - (i - 1)).toNat := by
        rw [show (p.1 - 1 - (i - 1)).toNat = (p.1 - 1 - i).toNat + 1 by omega, List.take_add_one, hbit, List.append_assoc]; rfl
      rw [etk] at b15 own15
      exact ⟨rfl, by omega, ⟨by omega, by omega, f14.trans f15, A15, n15, c15, b15, o15, own15⟩, by dsimp only; omega⟩
    · simp only [decide_eq_false_iff_not] at hi
      have etk : bitsT (cdL (lensT t)) (t.take x.toNat) ++ (bitsC p).take (p.1 - 1 - i).toNat = bitsT (cdL (lensT t)) (t.take (x + 1).toNat) := by
        rw [show (x + 1).toNat = x.toNat + 1 by omega, List.take_add_one, hy, bitsT_app, show (bitsC p).take (p.1 - 1 - i).toNat = bitsC p from List.take_of_length_le (by omega)]
        show _ = _ ++ (bitsC ((cdL (lensT t)).getD y.toNat (0, 0)) ++ [])
        rw [hgp, List.append_nil]
      rw [etk] at b14 own14
      exact ⟨by omega, ⟨by omega, by omega, (f11.trans k13.pF).trans f14, A14, n14, c14, b14, o14, own14⟩, by dsimp only; omega⟩
  · simp only [decide_eq_false_iff_not] at hx
    rw [List.take_of_length_le (by omega)] at own11
    have l11 := own11.len
    have hbl := bitsT_len h15 t
    rw [List.length_append, packL_len] at l11
    exact ⟨_, _, _, cell1 o11, _, _, _, rfl, own11, by omega, f11.keeps (k06.trans k610) (by omega) s06 (Nat.le_refl _)⟩
end Go.Proofs.Ytkkjjjgcfnhabaa.Eng
namespace Go.Proofs.Ytkkjjjgcfnhabaa.Eng
open Go Go.Proofs
theorem f173.spec (φ : Fx) (A : Option Addr) (n c : Nat) (ls : List Int) (H : Hp) (hr : intsR H A n ls) (hn : n ≤ 1048576) (hin : insideB ls = true) :
    HCalls cx.P φ 173 [.slice A n c] H fun r H' => r = .int .i64 (kraftL ls : Nat) ∧ H' = H := by
  apply f173.of
  unfold f173.VC
  have hl := hr.1
  refine ⟨fun sum i H' => 0 ≤ i ∧ i ≤ n ∧ H' = H ∧ sum = (sumN (fun i => kT (ls.getD i 0)) i.toNat : Nat), fun _ i _ => (n - i).toNat, ⟨by omega, by omega, rfl, rfl⟩, ?_⟩
  rintro sum i _ H1 ⟨h0, h1, rfl, rfl⟩
  refine ⟨fun hi => ?_, fun hi => ?_⟩
  · simp only [decide_eq_true_eq] at hi
    obtain ⟨x, b, o, hx, rfl, cx1, _⟩ := hr.at h0 hi
    have hg := getD_of hx
    have hb := insideB_at hin i.toNat
    rw [hg] at hb
    have sb := sumN_bd (f := fun i => kT (ls.getD i 0)) (M := 32768) (n := i.toNat) fun j => kT_le _
    have e : sumN (fun i => kT (ls.getD i 0)) (i + 1).toNat = sumN (fun i => kT (ls.getD i 0)) i.toNat + kT x := by
      rw [show (i + 1).toNat = i.toNat + 1 by omega, sumN, hg]
    have kl := kT_le x
    refine ⟨b, o, rfl, ⟨h0, hi⟩, x, cx1, fun v H' => H' = H1 ∧ v = (sumN (fun i => kT (ls.getD i 0)) (i + 1).toNat : Nat), ⟨fun h => ?_, fun h => ⟨rfl, ?_⟩⟩, fun v _ H3 h3 => ⟨by omega, ⟨by omega, by omega, h3.1, h3.2⟩, by dsimp only; omega⟩⟩
    · simp only [decide_eq_true_eq] at h
      have ep : (1 : Int) * 2 ^ (min (15 - x).toNat 64) = (kT x : Nat) := by
        rw [kT, if_pos ⟨h, hb.2⟩, show min (15 - x).toNat 64 = 15 - x.toNat by omega, Int.one_mul]
        push_cast; rfl
      refine ⟨b, o, rfl, ⟨h0, hi⟩, x, cx1, by omega, by omega, ?_⟩
      rw [ep]
      exact ⟨by omega, by omega, rfl, by rw [e]; omega⟩
    · simp only [decide_eq_false_iff_not] at h
      have : kT x = 0 := by rw [kT, if_neg (fun g => h g.1)]
      rw [e, this]; rfl
  · simp only [decide_eq_false_iff_not] at hi
    rw [show i.toNat = ls.length by omega]
    exact ⟨rfl, rfl⟩
/-- The codes written so far, length by length. -/
def cdN (ls : List Int) (n x : Nat) (ps : List (Int × Int)) : Prop := ∀ j, j < ls.length → ps[j]? = some (if 0 < ls.getD j 0 ∧ (ls.getD j 0 < n ∨ (ls.getD j 0 = n ∧ j < x)) then (ls.getD j 0, (codeW ls j : Int)) else (0, 0))
theorem cdN_set {ls : List Int} {n x : Nat} {ps : List (Int × Int)} (hl : ps.length = ls.length) (hx : x < ls.length) (h : ls.getD x 0 = ((n + 1 : Nat) : Int)) (hp : cdN ls (n + 1) x ps) : cdN ls (n + 1) (x + 1) (ps.set x (((n + 1 : Nat) : Int), (codeW ls x : Int))) := by
  intro j hj
  rw [List.getElem?_set]
  by_cases e : x = j
  · subst e
    rw [if_pos rfl, if_pos (by omega), if_pos ⟨by omega, Or.inr ⟨h, by omega⟩⟩, h]
  · rw [if_neg e, hp j hj]
    by_cases q : 0 < ls.getD j 0 ∧ (ls.getD j 0 < ((n + 1 : Nat) : Int) ∨ (ls.getD j 0 = ((n + 1 : Nat) : Int) ∧ j < x))
    · rw [if_pos q, if_pos ⟨q.1, by omega⟩]
    · rw [if_neg q, if_neg (fun g => q ⟨g.1, by omega⟩)]
theorem cdN_skip {ls : List Int} {n x : Nat} {ps : List (Int × Int)} (h : ls.getD x 0 ≠ (n : Int)) (hp : cdN ls n x ps) : cdN ls n (x + 1) ps := by
  intro j hj
  rw [hp j hj]
  by_cases q : 0 < ls.getD j 0 ∧ (ls.getD j 0 < (n : Int) ∨ (ls.getD j 0 = (n : Int) ∧ j < x))
  · rw [if_pos q, if_pos ⟨q.1, by omega⟩]
  · rw [if_neg q, if_neg]
    rintro ⟨a, b⟩
    refine q ⟨a, ?_⟩
    rcases b with b | ⟨b, c⟩
    · exact Or.inl b
    · have : j ≠ x := fun e => h (e ▸ b)
      exact Or.inr ⟨b, by omega⟩
theorem cdN_next {ls : List Int} {n : Nat} {ps : List (Int × Int)} (hp : cdN ls n ls.length ps) : cdN ls (n + 1) 0 ps := by
  intro j hj
  rw [hp j hj]
  by_cases q : 0 < ls.getD j 0 ∧ (ls.getD j 0 < (n : Int) ∨ (ls.getD j 0 = (n : Int) ∧ j < ls.length))
  · rw [if_pos q, if_pos ⟨q.1, by omega⟩]
  · rw [if_neg q, if_neg (fun g => q ⟨g.1, by omega⟩)]
theorem cdN_end {ls : List Int} (hin : insideB ls = true) {ps : List (Int × Int)} (hl : ps.length = ls.length) (h : cdN ls 16 0 ps) : ps = cdL ls := by
  apply List.ext_getElem?
  intro j
  by_cases hj : j < ls.length
  · rw [h j hj, cdL_get hj]
    have := insideB_at hin j
    by_cases q : 0 < ls.getD j 0
    · rw [if_pos ⟨q, by omega⟩]
    · rw [if_neg (fun g => q g.1), codeW, if_neg q, show ls.getD j 0 = 0 by omega]; rfl
  · rw [List.getElem?_eq_none (by omega), List.getElem?_eq_none (by rw [cdL_len]; omega)]
theorem f132.spec (φ : Fx) (A : Option Addr) (n c : Nat) (ls : List Int) (H : Hp) (hr : intsR H A n ls) (hn : n ≤ 256) (hin : insideB ls = true) (hk : kraftL ls ≤ 32768) :
    HCalls cx.P φ 132 [.slice A n c] H fun r H' => ∃ A' n' c', r = .tuple #[.slice A' n' c', .int .i64 0] ∧ ownCd H' H.size A' n' c' (cdL ls) ∧ Keeps H H' := by
  apply f132.of
  unfold f132.VC
  have hl := hr.1
  refine ⟨fun h => by simp at h; omega, fun _ => ?_⟩
  refine ⟨fun i H' => 0 ≤ i ∧ i ≤ n ∧ H' = H, fun i _ => (n - i).toNat, ⟨by omega, by omega, rfl⟩, ?_⟩
  rintro i _ H1 ⟨h0, h1, rfl⟩
  refine ⟨fun hi => ?_, fun hi => ?_⟩
  · simp only [decide_eq_true_eq] at hi
    obtain ⟨x, b, o, hx, rfl, cx1, _⟩ := hr.at h0 hi
    have hb := insideB_at hin i.toNat
    rw [getD_of hx] at hb
    refine ⟨fun q H' => H' = H1 ∧ q = false, ⟨b, o, rfl, ⟨h0, hi⟩, x, cx1, fun h => ?_, fun h => ⟨b, o, rfl, ⟨h0, hi⟩, x, cx1, rfl, ?_⟩⟩, ?_⟩
    · simp only [decide_eq_true_eq] at h; omega
    · simp; omega
    · rintro q _ H2 ⟨rfl, rfl⟩
      exact ⟨fun h => (nomatch h), fun _ => ⟨by omega, ⟨by omega, by omega, rfl⟩, by dsimp only; omega⟩⟩
  clear hi h0 h1 i
  refine HCalls.mono (f173.spec φ A n c ls H1 hr (by omega) hin) ?_
  rintro v H3 ⟨rfl, rfl⟩
  refine ⟨_, rfl, fun h => by simp at h; omega, fun _ => ⟨by omega, ?_⟩⟩
  have hN : Int.toNat (n : Int) = n := by omega
  simp -zeta only [hN]
  intro H4
  have own4 : ownCd H4 H3.size (some ⟨H3.size, 0, none⟩) n n (List.replicate n (0, 0)) := ownCd_new ..
  have k4 : Keeps H3 H4 := Keeps.push ..
  clear_value H4
  refine ⟨fun word m H' => 1 ≤ m ∧ m ≤ 16 ∧ Keeps H3 H' ∧ word = (finW ls (m.toNat - 1) : Nat) ∧ ∃ ps, ownCd H' H3.size (some ⟨H3.size, 0, none⟩) n n ps ∧ cdN ls m.toNat 0 ps, fun _ m _ => (16 - m).toNat,
    ⟨by omega, by omega, k4, rfl, _, own4, fun j hj => ?_⟩, ?_⟩
  · rw [List.getElem?_replicate, if_pos (by omega), if_neg (by
      have := insideB_at hin j
      rw [show (1 : Int).toNat = 1 from rfl]; omega)]
  rintro word m _ H5 ⟨m0, m1, k5, rfl, ps, own5, hps⟩
  refine ⟨fun hm => ?_, fun hm => ?_⟩
  · simp only [decide_eq_true_eq] at hm
    obtain ⟨q, hq⟩ : ∃ q : Nat, m = ((q + 1 : Nat) : Int) := ⟨m.toNat - 1, by omega⟩
    subst hq
    have hq15 : q + 1 ≤ 15 := by omega
    simp only [Int.toNat_natCast, Nat.add_sub_cancel] at hps ⊢
    have b1 := fin_le hk (m := q) (by omega)
    have b2 := fin_le hk (m := q + 1) hq15
    have e1 : 2 ^ q ≤ 2 ^ 14 := Nat.pow_le_pow_right (by decide) (by omega)
    have e2 : 2 ^ (q + 1) ≤ 2 ^ 15 := Nat.pow_le_pow_right (by decide) hq15
    have e14 : 2 ^ 14 = 16384 := by decide
    have e15 : 2 ^ 15 = 32768 := by decide
    have hfin : finW ls (q + 1) = 2 * finW ls q + manyL ls (q + 1) := rfl
    refine ⟨fun word i H' => 0 ≤ i ∧ i ≤ n ∧ Keeps H3 H' ∧ word = ((2 * finW ls q + cntE ls (q + 1) i.toNat : Nat) : Int) ∧ ∃ ps, ownCd H' H3.size (some ⟨H3.size, 0, none⟩) n n ps ∧ cdN ls (q + 1) i.toNat ps, fun _ i _ => (n - i).toNat,
      ⟨by omega, by omega, k5, ?_, ps, own5, hps⟩, ?_⟩
    · rw [wrap_u32, show cntE ls (q + 1) (0 : Int).toNat = 0 from rfl]; omega
    rintro word i _ H6 ⟨i0, i1, k6, rfl, ps6, own6, hps6⟩
    have l6 := own6.len
    have cm := cntE_mono ls (q + 1) (x := i.toNat) (y := ls.length) (by omega)
    have hml : manyL ls (q + 1) = cntE ls (q + 1) ls.length := rfl
    refine ⟨fun hi => ?_, fun hi => ?_⟩
    · simp only [decide_eq_true_eq] at hi
      obtain ⟨x, b, o, hx, rfl, cx1, _⟩ := hr.at i0 hi
      have gx := getD_of hx
      have ei : (i + 1).toNat = i.toNat + 1 := by omega
      refine ⟨b, o, rfl, ⟨i0, hi⟩, x, k6.cel cx1, fun w H' => Keeps H3 H' ∧ w = ((2 * finW ls q + cntE ls (q + 1) (i + 1).toNat : Nat) : Int) ∧ ∃ ps, ownCd H' H3.size (some ⟨H3.size, 0, none⟩) n n ps ∧ cdN ls (q + 1) (i + 1).toNat ps, ⟨fun h => ?_, fun h => ?_⟩, fun w _ H8 h8 => ⟨by omega, ⟨by omega, by omega, h8⟩, by dsimp only; omega⟩⟩
      · simp only [decide_eq_true_eq] at h
        have hxq : ls.getD i.toNat 0 = ((q + 1 : Nat) : Int) := by rw [gx]; exact h
        have cl := cntE_lt ls (q + 1) (x := i.toNat) (y := ls.length) (by omega) hxq
        obtain ⟨p1, p2⟩ := own6.set (i := i.toNat) (by omega) (((q + 1 : Nat) : Int), ((2 * finW ls q + cntE ls (q + 1) i.toNat : Nat) : Int))
        refine ⟨_, _, rfl, ⟨i0, hi⟩, p1, k6.hput (Nat.le_refl _), ?_, _, p2, ?_⟩
        · rw [wrap_u32, ei, cntE_succ, if_pos hxq]; omega
        · rw [ei, ← codeW_of hxq]
          exact cdN_set (by omega) (by omega) hxq hps6
      · simp only [decide_eq_false_iff_not] at h
        have hxq : ls.getD i.toNat 0 ≠ ((q + 1 : Nat) : Int) := by rw [gx]; exact h
        refine ⟨k6, ?_, ps6, own6, ?_⟩
        · rw [ei, cntE_succ, if_neg hxq]; rfl
        · rw [ei]; exact cdN_skip hxq hps6
    · simp only [decide_eq_false_iff_not] at hi
      have ei : i.toNat = ls.length := by omega
      rw [ei] at hps6
      refine ⟨by omega, ⟨by omega, by omega, k6, ?_, ps6, own6, ?_⟩, by omega⟩
      · rw [show (((q + 1 : Nat) : Int) + 1).toNat - 1 = q + 1 by omega, hfin, ei]; rfl
      · rw [show (((q + 1 : Nat) : Int) + 1).toNat = q + 1 + 1 by omega]; exact cdN_next hps6
  · simp only [decide_eq_false_iff_not] at hm
    rw [show m.toNat = 16 by omega] at hps
    have := cdN_end hin (by have := own5.len; omega) hps
    subst this
    exact ⟨_, _, _, rfl, own5, k5⟩
end Go.Proofs.Ytkkjjjgcfnhabaa.Eng
namespace Go.Proofs.Ytkkjjjgcfnhabaa.Eng
open Go Go.Proofs
theorem f133.spec (φ : Fx) (A : Option Addr) (n c : Nat) (ls : List Int) (H : Hp) (hr : intsR H A n ls) (hn : n ≤ 256) (hin : insideB ls = true) :
    HCalls cx.P φ 133 [.slice A n c] H fun r H' => ∃ A' n' c', r = .slice A' n' c' ∧ n' ≤ 769 ∧ ownB H' H.size A' n' c' (hdrL ls) ∧ Keeps H H' := by
  apply f133.of
  unfold f133.VC
  have hl := hr.1
  have eG : ∀ f, hdrG f [] = [] := by intro f; cases f <;> rfl
  refine ⟨fun bA bn bc H' => Keeps H H' ∧ bn ≤ 768 ∧ ownB H' H.size bA bn bc (hdrG ls.length ls), ?_, ?_⟩
  rotate_left
  · rintro bA bn bc _ H9 ⟨k9, hb9, own9⟩
    intro H10
    refine app_byte own9 k9.size (by omega) (y := 0) (by omega) ?_
    intro A' c' H3 w f3 e3
    exact ⟨_, _, _, rfl, _, _, _, rfl, by omega, w, f3.keeps k9 fun b hb => (ownC.lt own9.own hb).1⟩
  refine ⟨fun bA bn bc i H' => 0 ≤ i ∧ i ≤ n ∧ Keeps H H' ∧ bn ≤ 3 * i.toNat ∧ ∃ b f, ownB H' H.size bA bn bc b ∧ (ls.drop i.toNat).length ≤ f ∧ b ++ hdrG f (ls.drop i.toNat) = hdrG ls.length ls, fun _ _ _ i _ => (n - i).toNat,
    ⟨by omega, by omega, Keeps.refl _, by omega, [], ls.length, ownB_nil .., by simp, by simp⟩, ?_⟩
  rintro bA bn bc i _ H1 ⟨h0, h1, k1, hbn, bs, f, own, hf, hg⟩
  have s1 := k1.size
  refine ⟨fun hi => ?_, fun hi => ?_⟩
  · simp only [decide_eq_true_eq] at hi
    obtain ⟨x, b, o, hx, rfl, cx1, _⟩ := hr.at h0 hi
    have gx := getD_of hx
    have hb := insideB_at hin i.toNat
    rw [gx] at hb
    have c1 := k1.cel cx1
    refine ⟨fun k H' => i ≤ k ∧ k ≤ n ∧ H' = H1 ∧ (ls.drop i.toNat).takeWhile (fun y => decide (y = x)) = (ls.drop i.toNat).take (k.toNat - i.toNat) ++ ((ls.drop i.toNat).drop (k.toNat - i.toNat)).takeWhile (fun y => decide (y = x)) ∧ (ls.drop i.toNat).dropWhile (fun y => decide (y = x)) = ((ls.drop i.toNat).drop (k.toNat - i.toNat)).dropWhile (fun y => decide (y = x)), fun k _ => (n - k).toNat,
      ⟨by omega, by omega, rfl, by simp, by simp⟩, ?_⟩
    rintro k _ H2 ⟨q0, q1, rfl, hT⟩
    refine ⟨fun q H' => H' = H2 ∧ (q = true → k < n ∧ ∃ y, (ls.drop i.toNat)[k.toNat - i.toNat]? = some y ∧ decide (y = x) = true) ∧ (q = false → (ls.drop i.toNat).drop (k.toNat - i.toNat) = [] ∨ ∃ y, (ls.drop i.toNat)[k.toNat - i.toNat]? = some y ∧ decide (y = x) = false), ⟨fun hk => ?_, fun hk => ?_⟩, ?_⟩
    · simp only [decide_eq_true_eq] at hk
      obtain ⟨y, b2, o2, hy, e, cy, _⟩ := hr.at (i := k) (by omega) hk
      cases e
      have hy' : (ls.drop i.toNat)[k.toNat - i.toNat]? = some y := by rw [List.getElem?_drop, show i.toNat + (k.toNat - i.toNat) = k.toNat by omega]; exact hy
      exact ⟨b, o, rfl, ⟨by omega, hk⟩, y, k1.cel cy, b, o, rfl, ⟨h0, hi⟩, x, c1, rfl, fun h => ⟨hk, y, hy', h⟩, fun h => Or.inr ⟨y, hy', h⟩⟩
    · simp only [decide_eq_false_iff_not] at hk
      exact ⟨rfl, (fun h => nomatch h), fun _ => Or.inl (List.drop_eq_nil_of_le (by simp; omega))⟩
    rintro q _ H3 ⟨rfl, ht, hf'⟩
    refine ⟨fun h => ?_, fun h => ?_⟩
    · obtain ⟨hk, y, hy, hle⟩ := ht h
      refine ⟨by omega, ⟨by omega, by omega, rfl, ?_⟩, by dsimp only; omega⟩
      rw [show (k + 1).toNat - i.toNat = (k.toNat - i.toNat) + 1 by omega]
      exact takeW_step hy hle hT
    obtain ⟨e1, e2⟩ := takeW_stop (hf' h) hT
    obtain ⟨r, hd, hrun, hrest, hik⟩ := run_of hx (k := k.toNat) (by omega) e1 e2 (by omega)
    have hfp : ∃ f', f = f' + 1 := ⟨f - 1, by rw [hd] at hf; simp at hf; omega⟩
    obtain ⟨f', rfl⟩ := hfp
    rw [hd, hdrG, hrest] at hg
    have hld : (ls.drop k.toNat).length ≤ f' := by
      rw [hd] at hf
      have := congrArg List.length hd
      simp at this hf ⊢; omega
    have hcond : (ls.drop k.toNat ≠ [] ∨ x ≠ 0) ↔ (k < n ∨ x ≠ 0) := by
      have : ls.drop k.toNat ≠ [] ↔ k < n := by
        rw [ne_eq, List.drop_eq_nil_iff]; omega
      rw [this]
    refine ⟨fun q H' => H' = H3 ∧ (q = true ↔ (k = n ∧ x = 0)), ⟨fun hk => ⟨b, o, rfl, ⟨h0, hi⟩, x, c1, rfl, ?_⟩, fun hk => ⟨rfl, ?_⟩⟩, ?_⟩
    · simp only [decide_eq_true_eq] at hk; simp [hk]
    · simp only [decide_eq_false_iff_not] at hk; simp [hk]
    rintro q _ H4 ⟨rfl, hq⟩
    have hrun' : ((k - i : Int)) = ((1 + (r.takeWhile (fun y => decide (y = x))).length : Nat) : Int) := by omega
    have hr256 : 1 + (r.takeWhile (fun y => decide (y = x))).length ≤ 256 := by omega
    refine ⟨fun h => ?_, fun h => ?_⟩
    · have hc := hq.1 h
      rw [if_neg (fun g => by have := hcond.1 g; omega), List.nil_append, List.drop_eq_nil_of_le (by omega), eG, List.append_nil] at hg
      exact ⟨k1, by omega, hg ▸ own⟩
    · have hc : k < n ∨ x ≠ 0 := by
        apply Classical.byContradiction; intro g
        have := hq.2 ⟨by omega, by omega⟩
        rw [h] at this; cases this
      rw [if_pos (hcond.2 hc)] at hg
      refine ⟨by omega, ?_⟩
      rw [hrun']
      generalize 1 + (r.takeWhile (fun y => decide (y = x))).length = run at *
      refine HCalls.mono (f174.spec φ run H4 (by omega)) ?_
      rintro v H5 ⟨B, m, d, rfl, w5, k45⟩
      have lm := w5.len
      have lb2 := numB_len2 hr256
      have own5 := own.keeps k45
      refine ⟨_, _, _, rfl, ?_⟩
      refine app_bytes own5 w5.row (by omega) (by have := k45.size; omega) ?_
      intro A6 c6 H6 w6 f6 e6 _
      have k6 := f6.keeps (k1.trans k45) fun b hb => (ownC.lt own5.own hb).1
      refine ⟨_, _, _, rfl, b, o, rfl, ⟨h0, hi⟩, x, k6.cel cx1, ?_⟩
      rw [wrap_u8, show x % 256 = x by omega]
      intro H7
      refine app_byte w6 k6.size (by omega) (y := x) (by omega) ?_
      intro A8 c8 H8 w8 f8 e8
      refine ⟨_, _, _, rfl, ⟨by omega, by omega, f8.keeps k6 fun b hb => (ownC.lt w6.own hb).1, by omega, _, f', w8, hld, ?_⟩, by dsimp only; omega⟩
      rw [← hg]; simp
  · simp only [decide_eq_false_iff_not] at hi
    rw [List.drop_eq_nil_of_le (by omega), eG, List.append_nil] at hg
    exact ⟨k1, by omega, hg ▸ own⟩
theorem f134.spec (φ : Fx) (A : Option Addr) (n c : Nat) (t : List Int) (B : Option Addr) (m d : Nat) (cds : List (Int × Int)) (H : Hp) (hr : bytesR H A n t) (hc : cdR H B m cds) (hn : n ≤ 65536) (hm : 256 ≤ m)
    (hcb : ∀ p ∈ cds, 0 ≤ p.1 ∧ p.1 ≤ 15 ∧ 0 ≤ p.2 ∧ p.2 < 4294967296) :
    HCalls cx.P φ 134 [.slice A n c, .slice B m d] H fun r H' => ∃ A' n' c', r = .slice A' n' c' ∧ n' ≤ 200000 ∧ ownB H' H.size A' n' c' (packL (bitsT cds t)) ∧ Keeps H H' := by
  apply f134.of
  unfold f134.VC
  have hl := hr.1
  have hA : ∀ q ty (cs : Array Value) (G : Hp) A n c xs, ownB G H.size A n c xs → objAt G q cs ty → ty ≠ 5 → A ≠ some ⟨q, 0, none⟩ := fun q ty cs G A n c xs ow ho ht e => by
    obtain ⟨cs2, o2⟩ := ownC.tob ow.own e
    unfold objAt at ho o2
    rw [ho] at o2; cases o2; exact ht rfl
  have h15 : ∀ p ∈ cds, p.1 ≤ 15 := fun p hp => (hcb p hp).2.1
  refine ⟨fun bA bn bc k i H' => 0 ≤ i ∧ i ≤ n ∧ Keeps H H' ∧ k = ((bitsT cds (t.take i.toNat)).length : Nat) ∧ ownB H' H.size bA bn bc (packL (bitsT cds (t.take i.toNat))), fun _ _ _ _ i _ => (n - i).toNat,
    ⟨by omega, by omega, Keeps.refl _, rfl, by have := ownB_nil H H.size; simpa [bitsT, packL] using this⟩, ?_⟩
  rintro bA bn bc k i _ H1 ⟨i0, i1, k1, rfl, own1⟩
  have s1 := k1.size
  refine ⟨fun hi => ?_, fun hi => ?_⟩
  · simp only [decide_eq_true_eq] at hi
    obtain ⟨y, b, o, hy, rfl, cy, y0, y1⟩ := hr.at i0 hi
    obtain ⟨p, b5, o5, hp, rfl, c5a, c5b⟩ := hc.at (i := y) y0 (by omega)
    have hpb := hcb p (List.mem_of_getElem? hp)
    have hgp : cds.getD y.toNat (0, 0) = p := by rw [List.getD_eq_getElem?_getD, hp]; rfl
    have hbl := bitsT_len h15 (t.take i.toNat)
    have hpll := bitsC_len p
    simp only [List.length_take] at hbl
    refine ⟨b, o, rfl, ⟨i0, hi⟩, y, k1.cel cy, b5, o5, rfl, ⟨y0, by omega⟩, p.1, k1.cel c5a, p.2, k1.cel c5b, ?_⟩
    intro H2
    have o2 : objAt H2 H1.size #[.int .i64 0, .int .u32 0] 130 := objAt_new ..
    have k12 : Keeps H1 H2 := Keeps.push ..
    clear_value H2
    refine ⟨objAt_canPut o2 (by simp) (encC_one p), ?_⟩
    intro H3
    have o3 : objAt H3 H1.size #[.int .i64 p.1, .int .u32 p.2] 130 := objAt_put o2 0 [.int .i64 p.1, .int .u32 p.2] _ (by simp [spl])
    have k13 : Keeps H1 H3 := k12.hput (Nat.le_refl _)
    clear_value H3
    refine ⟨p.1, by rw [objAt_cel o3]; rfl, by omega, ?_⟩
    refine ⟨fun bA bn bc k j H' => -1 ≤ j ∧ j < p.1 ∧ Keeps H H' ∧ objAt H' H1.size #[.int .i64 p.1, .int .u32 p.2] 130 ∧ k = ((bitsT cds (t.take i.toNat) ++ (bitsC p).take (p.1 - 1 - j).toNat).length : Nat) ∧ ownB H' H.size bA bn bc (packL (bitsT cds (t.take i.toNat) ++ (bitsC p).take (p.1 - 1 - j).toNat)), fun _ _ _ _ j _ => (j + 1).toNat,
      ⟨by omega, by omega, k1.trans k13, o3, by rw [show (p.1 - 1 - (p.1 - 1)).toNat = 0 by omega, List.take_zero, List.append_nil], by rw [show (p.1 - 1 - (p.1 - 1)).toNat = 0 by omega, List.take_zero, List.append_nil]; exact own1.keeps k13⟩, ?_⟩
    rintro bA4 bn4 bc4 k4 j _ H4 ⟨j0, j1, kk4, o4, rfl, own4⟩
    have s4 := kk4.size
    generalize hB : bitsT cds (t.take i.toNat) ++ (bitsC p).take (p.1 - 1 - j).toNat = bs at *
    have hbr : bitsR bs := fun z hz => by
      rw [← hB] at hz
      rcases List.mem_append.1 hz with h | h
      · exact bitsT_r _ _ z h
      · exact bitsC_r p z (List.mem_of_mem_take h)
    have hbsl : bs.length ≤ 2000000 := by rw [← hB, List.length_append, List.length_take]; omega
    have l4 := own4.len
    rw [packL_len] at l4
    refine ⟨fun hj => ?_, fun hj => ?_⟩
    · simp only [decide_eq_true_eq] at hj
      have hbit : (bitsC p)[(p.1 - 1 - j).toNat]? = some ((p.2 / 2 ^ j.toNat) % 2) := by
        rw [bitsC, List.getElem?_map, List.getElem?_range (by omega)]
        simp only [Option.map_some]
        rw [show p.1.toNat - 1 - (p.1 - 1 - j).toNat = j.toNat by omega]
      have etk : bs ++ [(p.2 / 2 ^ j.toNat) % 2] = bitsT cds (t.take i.toNat) ++ (bitsC p).take (p.1 - 1 - (j - 1)).toNat := by
        rw [← hB, show (p.1 - 1 - (j - 1)).toNat = (p.1 - 1 - j).toNat + 1 by omega, List.take_add_one, hbit, List.append_assoc]; rfl
      have hpw : (2 : Int) ^ (min j.toNat 32) = 2 ^ j.toNat := by rw [show min j.toNat 32 = j.toNat by omega]
      have hq0 : 0 ≤ p.2 / 2 ^ j.toNat := Int.ediv_nonneg (by omega) (Int.le_of_lt (Int.pow_pos (by decide)))
      refine ⟨by omega, fun A' n' c' H' => Keeps H H' ∧ objAt H' H1.size #[.int .i64 p.1, .int .u32 p.2] 130 ∧ ownB H' H.size A' n' c' (packZ bs), ⟨fun h => ?_, fun h => ?_⟩, ?_⟩
      · simp only [decide_eq_true_eq] at h
        intro H5
        refine app_byte own4 s4 (by omega) (y := 0) (by omega) ?_
        intro A' c' H6 w f e
        refine ⟨_, _, _, rfl, f.keeps kk4 fun b hb => (ownC.lt own4.own hb).1, o4.frame (f.2 _ (objAt_lt o4) (hA _ _ _ _ _ _ _ _ own4 o4 (by decide))), ?_⟩
        rw [packZ_eq bs hbr, if_pos (by omega)]; exact w
      · simp only [decide_eq_false_iff_not] at h
        refine ⟨kk4, o4, ?_⟩
        rw [packZ_eq bs hbr, if_neg (by omega), List.append_nil]; exact own4
      rintro A7 n7 c7 _ H7 ⟨k7, o7, own7⟩
      have l7 := own7.len
      rw [packZ_len] at l7
      refine ⟨p.2, by rw [objAt_cel o7]; rfl, hj, ?_⟩
      rw [hpw]
      have h0 := (bits_at hbr bs.length).2 (Nat.le_refl _)
      have hr8 : bs.length % 8 < 8 := Nat.mod_lt _ (by decide)
      refine ⟨by omega, fun H' => Keeps H H' ∧ objAt H' H1.size #[.int .i64 p.1, .int .u32 p.2] 130 ∧ ownB H' H.size A7 n7 c7 (packL (bs ++ [(p.2 / 2 ^ j.toNat) % 2])), ⟨fun h => ?_, fun h => ?_⟩, ?_⟩
      · simp only [decide_eq_true_eq] at h
        obtain ⟨q7, rfl, _, _⟩ := ownC.some_of own7.own (by omega)
        have e8 : (((bs.length : Nat) : Int) / 8).toNat = bs.length / 8 := by omega
        have hx : (packZ bs)[bs.length / 8]? = some (byteAt bs (bs.length / 8)) := by
          rw [packZ, List.getElem?_map, List.getElem?_range (by omega)]; rfl
        obtain ⟨x, bq, oq, hx', e, cx1, _⟩ := own7.row.at (i := ((bs.length / 8 : Nat) : Int)) (by omega) (by omega)
        cases e
        rw [Int.toNat_natCast, hx] at hx'
        cases hx'
        rw [Int.toNat_natCast] at cx1
        have bl := byteAt_lt hbr
        have bd := byteAt_bd hbr (bs.length / 8)
        have hp := pow2r hr8
        have hadd : IntKind.wrap .u8 (byteAt bs (bs.length / 8) + IntKind.wrap .u8 ((1 : Int) * 2 ^ (min (((bs.length : Nat) : Int) % 8).toNat 8))) = byteAt bs (bs.length / 8) + 1 * 2 ^ (bs.length % 8) := by
          rw [show min (((bs.length : Nat) : Int) % 8).toNat 8 = bs.length % 8 by omega, wrap_u8, wrap_u8]
          rcases hp with ⟨_, p⟩ | ⟨_, p⟩ | ⟨_, p⟩ | ⟨_, p⟩ | ⟨_, p⟩ | ⟨_, p⟩ | ⟨_, p⟩ | ⟨_, p⟩ <;> rw [p] at bl ⊢ <;> omega
        have hnew : 0 ≤ byteAt bs (bs.length / 8) + 1 * 2 ^ (bs.length % 8) ∧ byteAt bs (bs.length / 8) + 1 * 2 ^ (bs.length % 8) < 256 := by
          rcases hp with ⟨_, p⟩ | ⟨_, p⟩ | ⟨_, p⟩ | ⟨_, p⟩ | ⟨_, p⟩ | ⟨_, p⟩ | ⟨_, p⟩ | ⟨_, p⟩ <;> rw [p] at bl ⊢ <;> omega
        obtain ⟨p1, p2⟩ := ownB_set own7 (i := bs.length / 8) (by omega) hnew
        rw [e8]
        refine ⟨by omega, by omega, _, _, rfl, ⟨by omega, by omega⟩, _, cx1, by omega, by omega, _, _, rfl, ⟨by omega, by omega⟩, ?_⟩
        rw [hadd]
        refine ⟨p1, k7.hput (ownC.lt own7.own rfl).1, o7.frame (hput_other fun e => hA _ _ _ _ _ _ _ _ own7 o7 (by decide) (by rw [e])), ?_⟩
        rw [packL_new bs hbr, h]; exact p2
      · simp only [decide_eq_false_iff_not] at h
        refine ⟨k7, o7, ?_⟩
        rw [packL_new bs hbr, show (p.2 / 2 ^ j.toNat) % 2 = 0 by omega, Int.zero_mul, Int.add_zero]
        have : (packZ bs).set (bs.length / 8) (byteAt bs (bs.length / 8)) = packZ bs := by
          apply List.ext_getElem?
          intro q
          rw [List.getElem?_set]
          by_cases e : bs.length / 8 = q
          · subst e
            rw [if_pos rfl, if_pos (by rw [packZ_len]; omega), packZ, List.getElem?_map, List.getElem?_range (by omega)]; rfl
          · rw [if_neg e]
        rw [this]; exact own7
      · rintro _ H9 ⟨k9, o9, own9⟩
        rw [etk] at own9
        refine ⟨by omega, by omega, ⟨by omega, by omega, k9, o9, ?_, own9⟩, by dsimp only; omega⟩
        rw [← etk, List.length_append]; rfl
    · simp only [decide_eq_false_iff_not] at hj
      have etk : bs = bitsT cds (t.take (i + 1).toNat) := by
        rw [← hB, show (i + 1).toNat = i.toNat + 1 by omega, List.take_add_one, hy, bitsT_app, show (bitsC p).take (p.1 - 1 - j).toNat = bitsC p from List.take_of_length_le (by omega)]
        show _ = _ ++ (bitsC (cds.getD y.toNat (0, 0)) ++ [])
        rw [hgp, List.append_nil]
      rw [etk] at own4 ⊢
      exact ⟨by omega, ⟨by omega, by omega, kk4, rfl, own4⟩, by dsimp only; omega⟩
  · simp only [decide_eq_false_iff_not] at hi
    rw [List.take_of_length_le (by omega)] at own1
    have l1 := own1.len
    have hbl := bitsT_len h15 t
    rw [packL_len] at l1
    exact ⟨_, _, _, rfl, by omega, own1, k1⟩
end Go.Proofs.Ytkkjjjgcfnhabaa.Eng
namespace Go.Proofs.Ytkkjjjgcfnhabaa.Eng
open Go Go.Proofs
theorem ownB_at {H : Hp} {base b n c : Nat} {xs : List Int} (h : ownB H base (some ⟨b, 0, none⟩) n c xs) {i : Nat} (hi : i < n) : ∃ x, xs[i]? = some x ∧ cel H b (0 + i * 1) = some (.int .u8 x) ∧ 0 ≤ x ∧ x < 256 := by
  obtain ⟨x, b', o', h1, h2, h3⟩ := h.row.at (i := (i : Int)) (by omega) (by omega)
  cases h2
  exact ⟨x, h1, h3⟩
theorem ownB_pre {H : Hp} {base n m c : Nat} {A : Option Addr} {xs ys : List Int} (h : ownB H base A m c (xs ++ ys)) (hx : xs.length = n) : ownB H base A n c xs := by
  have hl := h.len
  simp at hl
  obtain ⟨⟨_, hmc, ho⟩, hr⟩ := h
  refine ⟨⟨by simp [hx], by omega, ?_⟩, fun x q => hr x (List.mem_append_left _ q)⟩
  rcases ho with ho | ⟨b, cs, h1, h2, h3, h4, h5⟩
  · exact Or.inl ho
  · refine Or.inr ⟨b, cs, h1, h2, h3, h4, ?_⟩
    have := congrArg (List.take n) h5
    have e3 : (xs.map (Value.int .u8)).take n = xs.map (Value.int .u8) := List.take_of_length_le (by simp [hx])
    rw [List.take_take, List.map_append, List.take_append_of_le_length (by simp [hx]), e3, show min n (m * 1) = n by omega] at this
    rw [Nat.mul_one]; exact this
theorem f66.spec (φ : Fx) (A : Option Addr) (n c : Nat) (xs : List Int) (H : Hp) (hr : bytesR H A n xs) (hn : n ≤ 140737488355264) :
    HCalls cx.P φ 66 [.slice A n c] H fun r H' => ∃ b, r = .slice (some ⟨b, 0, none⟩) (n + 64) (n + 64) ∧ b = H.size ∧ ownB H' H.size (some ⟨b, 0, none⟩) (n + 64) (n + 64) (xs ++ List.replicate 64 165) ∧ Keeps H H' := by
  apply f66.of
  unfold f66.VC
  have hl := hr.1
  have hN : Int.toNat (((n : Nat) : Int) + 64) = n + 64 := by omega
  simp -zeta only [hN]
  refine ⟨by omega, by omega, ?_⟩
  intro H1
  have o1 : objAt H1 H.size (zrow [Value.int .u8 0] (n + 64)).toArray 5 := objAt_new ..
  have k1 : Keeps H H1 := Keeps.push ..
  clear_value H1
  rw [zrow_one] at o1
  have own1 : ownB H1 H.size (some ⟨H.size, 0, none⟩) (n + 64) (n + 64) (List.replicate (n + 64) 0) := by
    refine ownB_obj ?_ (Nat.le_refl _) (by simp) (by intro x hx; have := List.eq_of_mem_replicate hx; omega)
    have : (List.replicate (n + 64) (0 : Int)).map (Value.int .u8) = (List.range (n + 64)).map fun _ => Value.int .u8 0 := by
      rw [List.map_replicate]; apply List.ext_getElem? ; intro i; by_cases h : i < n + 64 <;> simp [h]
    rw [this]; exact o1
  -- after i rounds
  have key : ∀ i : Nat, i ≤ n + 64 → ((xs ++ List.replicate 64 165).take i ++ List.replicate (n + 64 - i) (0 : Int)).length = n + 64 := by
    intro i hi; simp; omega
  refine ⟨fun i H' => 0 ≤ i ∧ i ≤ n + 64 ∧ Keeps H H' ∧ ownB H' H.size (some ⟨H.size, 0, none⟩) (n + 64) (n + 64) ((xs ++ List.replicate 64 165).take i.toNat ++ List.replicate (n + 64 - i.toNat) 0), fun i _ => (n + 64 - i).toNat, ⟨by omega, by omega, k1, by simpa using own1⟩, ?_⟩
  rintro i _ H2 ⟨h0, h1, k2, own2⟩
  refine ⟨fun hi => ?_, fun hi => ?_⟩
  · simp only [decide_eq_true_eq] at hi
    simp -zeta only [xA]
    have setE : ∀ v : Int, ((xs ++ List.replicate 64 165).take i.toNat ++ List.replicate (n + 64 - i.toNat) (0 : Int)).set i.toNat v = (xs ++ List.replicate 64 165).take i.toNat ++ v :: List.replicate (n + 64 - (i.toNat + 1)) 0 := by
      intro v
      rw [List.set_append_right _ _ (by simp; omega)]
      have : i.toNat - ((xs ++ List.replicate 64 165).take i.toNat).length = 0 := by simp; omega
      rw [this, show n + 64 - i.toNat = (n + 64 - (i.toNat + 1)) + 1 by omega, List.replicate_succ]
      rfl
    obtain ⟨p1, p2⟩ := ownB_set own2 (i := i.toNat) (by omega) (y := 165) (by omega)
    refine ⟨⟨h0, by omega⟩, p1, ?_⟩
    intro H3
    have k3 : Keeps H H3 := k2.hput (Nat.le_refl _)
    have p2 : ownB H3 H.size (some ⟨H.size, 0, none⟩) (n + 64) (n + 64) (((xs ++ List.replicate 64 165).take i.toNat ++ List.replicate (n + 64 - i.toNat) (0 : Int)).set i.toNat 165) := p2
    clear_value H3
    have nextE : ∀ (v : Int) (G : Hp), (xs ++ List.replicate 64 165)[i.toNat]? = some v → ownB G H.size (some ⟨H.size, 0, none⟩) (n + 64) (n + 64) (((xs ++ List.replicate 64 165).take i.toNat ++ List.replicate (n + 64 - i.toNat) (0 : Int)).set i.toNat v) →
        ownB G H.size (some ⟨H.size, 0, none⟩) (n + 64) (n + 64) ((xs ++ List.replicate 64 165).take (i + 1).toNat ++ List.replicate (n + 64 - (i + 1).toNat) 0) := by
      intro v G hv hw
      have e : (i + 1).toNat = i.toNat + 1 := by omega
      rw [setE] at hw
      rw [e, List.take_add_one, hv]
      simpa using hw
    refine ⟨fun H' => Keeps H H' ∧ ownB H' H.size (some ⟨H.size, 0, none⟩) (n + 64) (n + 64) ((xs ++ List.replicate 64 165).take (i + 1).toNat ++ List.replicate (n + 64 - (i + 1).toNat) 0), ⟨fun hj => ?_, fun hj => ?_⟩, fun _ H5 h5 => ⟨by omega, ⟨by omega, by omega, h5.1, h5.2⟩, by omega⟩⟩
    · simp only [decide_eq_true_eq] at hj
      obtain ⟨x, b, o, hx, rfl, cx, hu⟩ := hr.at h0 hj
      simp -zeta only [xA, xI (k3.cel cx)]
      obtain ⟨r1, r2⟩ := ownB_set p2 (i := i.toNat) (by omega) (y := x) ⟨hu.1, hu.2⟩
      rw [List.set_set] at r2
      exact ⟨⟨h0, hj⟩, ⟨h0, by omega⟩, r1, k3.hput (Nat.le_refl _), nextE x _ (by rw [List.getElem?_append_left (by omega)]; exact hx) r2⟩
    · simp only [decide_eq_false_iff_not] at hj
      exact ⟨k3, nextE 165 _ (by rw [List.getElem?_append_right (by omega), List.getElem?_replicate, if_pos (by omega)]) p2⟩
  · simp only [decide_eq_false_iff_not] at hi
    have : i.toNat = n + 64 := by omega
    rw [this, List.take_of_length_le (by simp; omega), Nat.sub_self] at own2
    exact ⟨H.size, rfl, rfl, by simpa using own2, k2⟩
theorem f70.spec (φ : Fx) (A : Option Addr) (n c : Nat) (B : Option Addr) (m d : Nat) (xs : List Int) (H : Hp) (ha : bytesR H A n xs) (hb : bytesR H B m xs) (hn : n ≤ 140737488355328) :
    HCalls cx.P φ 70 [.slice A n c, .slice B m d] H fun r H' => r = .bool true ∧ H' = H := by
  apply f70.of
  unfold f70.VC
  have la := ha.1
  have lb := hb.1
  refine ⟨fun h => ?_, fun h => ?_⟩
  · simp at h; omega
  clear h
  refine ⟨fun i H' => 0 ≤ i ∧ i ≤ n ∧ H' = H, fun i _ => (n - i).toNat, ⟨by omega, by omega, rfl⟩, ?_⟩
  rintro i _ H1 ⟨h0, h1, rfl⟩
  refine ⟨fun hi => ?_, fun hi => ⟨rfl, rfl⟩⟩
  simp only [decide_eq_true_eq] at hi
  obtain ⟨x, b, o, hx, rfl, cx1, _⟩ := ha.at h0 hi
  obtain ⟨y, b2, o2, hy, rfl, cy1, _⟩ := hb.at h0 (by omega)
  rw [hx] at hy; cases hy
  refine ⟨_, _, rfl, ⟨h0, hi⟩, x, cx1, _, _, rfl, ⟨h0, by omega⟩, x, cy1, fun h => ?_, fun h => ⟨by omega, ⟨by omega, by omega, rfl⟩, by dsimp only; omega⟩⟩
  simp at h
theorem f71.spec (φ : Fx) {base b n c : Nat} {xs : List Int} {H : Hp} (own : ownB H base (some ⟨b, 0, none⟩) n c xs) (hn : n ≤ 140737488355328) :
    HCalls cx.P φ 71 [.slice (some ⟨b, 0, none⟩) n c] H fun r H' => r = .slice (some ⟨b, 0, none⟩) n c ∧ ownB H' base (some ⟨b, 0, none⟩) n c xs.reverse ∧ offA (some ⟨b, 0, none⟩) H H' := by
  apply f71.of
  unfold f71.VC
  have hl := own.len
  refine ⟨by omega, ?_⟩
  refine ⟨fun i k H' => 0 ≤ i ∧ i + k = n - 1 ∧ 2 * i ≤ n + 1 ∧ offA (some ⟨b, 0, none⟩) H H' ∧ ownB H' base (some ⟨b, 0, none⟩) n c (revL xs i.toNat), fun i _ _ => (n - i).toNat,
    ⟨by omega, by omega, by omega, offA.refl .., by rw [show (0 : Int).toNat = 0 from rfl, revL_0]; exact own⟩, ?_⟩
  rintro i k _ H1 ⟨i0, hik, h2, f, ow⟩
  refine ⟨fun hi => ?_, fun hi => ?_⟩
  · simp only [decide_eq_true_eq] at hi
    have ek : k.toNat = xs.length - 1 - i.toNat := by omega
    obtain ⟨x, hx, cx1, rx⟩ := ownB_at ow (i := i.toNat) (by omega)
    obtain ⟨y, hy, cy1, ry⟩ := ownB_at ow (i := k.toNat) (by omega)
    rw [revL_get (by omega), if_neg (by omega)] at hx hy
    cases hx; cases hy
    obtain ⟨p1, p2⟩ := ownB_set ow (i := i.toNat) (by omega) ry
    obtain ⟨q1, q2⟩ := ownB_set p2 (i := k.toNat) (by omega) rx
    refine ⟨_, _, rfl, ⟨i0, by omega⟩, _, cx1, _, _, rfl, ⟨by omega, by omega⟩, _, cy1, _, _, rfl, ⟨i0, by omega⟩, p1, _, _, rfl, ⟨by omega, by omega⟩, q1, by omega, by omega, ⟨by omega, by omega, by omega, (f.put _ _).put _ _, ?_⟩, by dsimp only; omega⟩
    have e5 := revL_step (xs := xs) (i := i.toNat) (by omega)
    rw [← ek] at e5
    rw [show (i + 1).toNat = i.toNat + 1 by omega, ← e5]
    exact q2
  · simp only [decide_eq_false_iff_not] at hi
    rw [revL_end (by omega)] at ow
    exact ⟨rfl, ow, f⟩
theorem f68.spec (φ : Fx) (A : Option Addr) (n c base : Nat) (xs : List Int) (H : Hp) (own : ownB H base A n c xs) (hbase : base ≤ H.size) (hn : n ≤ 1099511627776) :
    HCalls cx.P φ 68 [.slice A n c, .int .u8 7] H fun r H' => r = .int .i64 ((n : Int) + 64) ∧ offA A H H' := by
  apply f68.of
  unfold f68.VC
  refine ⟨fun i H' => 0 ≤ i ∧ i ≤ n ∧ offA A H H' ∧ ∃ ys, ownB H' base A n c ys, fun i _ => (n - i).toNat, ⟨by omega, by omega, offA.refl .., _, own⟩, ?_⟩
  rintro i _ H1 ⟨i0, i1, f1, ys, a1⟩
  refine ⟨fun hi => ?_, fun hi => ?_⟩
  · simp only [decide_eq_true_eq] at hi
    obtain ⟨b, rfl, _, _⟩ := ownC.some_of a1.own (by omega)
    obtain ⟨p1, p2⟩ := ownB_set a1 (i := i.toNat) (by omega) (y := 7) (by omega)
    exact ⟨_, _, rfl, ⟨i0, hi⟩, p1, by omega, ⟨by omega, by omega, f1.put _ _, _, p2⟩, by dsimp only; omega⟩
  refine ⟨fun aA an ac i H' => 0 ≤ i ∧ i ≤ 64 ∧ (an : Int) = n + i ∧ offA A H H' ∧ (aA = A ∨ ∃ q, H.size ≤ q ∧ aA = some ⟨q, 0, none⟩) ∧ ∃ ys, ownB H' base aA an ac ys, fun _ _ _ i _ => (64 - i).toNat, ⟨by omega, by omega, by omega, f1, Or.inl rfl, ys, a1⟩, ?_⟩
  rintro aA an ac i2 _ H3 ⟨j0, j1, han, f3, hA, zs, a3⟩
  have s3 := f3.1
  refine ⟨fun hi => ?_, fun hi => ?_⟩
  · simp only [decide_eq_true_eq] at hi
    intro H7
    refine app_byte a3 (by omega) (by omega) (y := 8) (by omega) ?_
    intro A' c' H8 w f e
    refine ⟨_, _, _, rfl, by omega, ⟨by omega, by omega, by omega, f3.step hA f, ?_, _, w⟩, by dsimp only; omega⟩
    rcases e with e | ⟨q, hq, e⟩
    · rw [e]; exact hA
    · exact Or.inr ⟨q, by omega, e⟩
  · simp only [decide_eq_false_iff_not] at hi
    refine ⟨?_, f3⟩
    rw [show (an : Int) = n + 64 by omega]
def hufRes (t : List Int) : List Int × Int := if 65536 < t.length then ([], 2) else (hufL t, 0)
theorem f67.full (φ : Fx) (A : Option Addr) (n c : Nat) (t : List Int) (H : Hp) (hr : bytesR H A n t) :
    HCalls cx.P φ 67 [.slice A n c] H fun r H' => ∃ A' n' c', r = .tuple #[.slice A' n' c', .int .i64 (hufRes t).2] ∧ ownB H' H.size A' n' c' (hufRes t).1 ∧ n' ≤ 1000000 ∧ Keeps H H' := by
  have hl := hr.1
  by_cases h : 65536 < t.length
  · have e : hufRes t = ([], 2) := by unfold hufRes; rw [if_pos h]
    rw [e]
    apply f67.of
    unfold f67.VC
    refine ⟨fun _ => ⟨_, _, _, rfl, ownB_nil .., by omega, Keeps.refl _⟩, fun q => by simp at q; omega⟩
  · have e : hufRes t = (hufL t, 0) := by unfold hufRes; rw [if_neg h]
    rw [e]
    exact f67.spec φ A n c t H hr (by omega)
theorem f69.spec (φ : Fx) (A : Option Addr) (n c : Nat) (t : List Int) (H : Hp) (hr : bytesR H A n t) (hn : n ≤ 65536) :
    HCalls cx.P φ 69 [.slice A n c] H fun r H' => ∃ A' n' c', r = .tuple #[.slice A' n' c', .int .i64 0] ∧ ownB H' H.size A' n' c' (hufL t) ∧ n' ≤ 1000000 ∧ Keeps H H' := by
  apply f69.of
  unfold f69.VC
  have hl := hr.1
  refine ⟨fun h => by simp at h; omega, fun _ => ?_⟩
  refine ⟨by omega, ?_⟩
  have hN : Int.toNat (256 : Int) = 256 := rfl
  simp -zeta only [hN]
  intro H1
  have own1 : ownI H1 H.size 2 (some ⟨H.size, 0, none⟩) 256 256 (List.replicate 256 0) := ownI_new ..
  have k1 : Keeps H H1 := Keeps.push ..
  clear_value H1
  refine ⟨fun x H' => 0 ≤ x ∧ x ≤ n ∧ Keeps H H' ∧ ownI H' H.size 2 (some ⟨H.size, 0, none⟩) 256 256 (countT (t.take x.toNat)), fun x _ => (n - x).toNat, ⟨by omega, by omega, k1, by rw [show (0 : Int).toNat = 0 from rfl, List.take_zero, countT_nil]; exact own1⟩, ?_⟩
  rintro x _ H2 ⟨x0, x1, k2, own2⟩
  refine ⟨fun hx => ?_, fun hx => ?_⟩
  · simp only [decide_eq_true_eq] at hx
    obtain ⟨y, b, o, hy, rfl, cy, y0, y1⟩ := hr.at x0 hx
    obtain ⟨z, hz, cz, rz⟩ := own2.at (i := y.toNat) (by omega)
    have gz := getD_of hz
    have zb := countT_bd _ z (List.mem_of_getElem? hz)
    simp only [List.length_take] at zb
    obtain ⟨p1, p2⟩ := own2.set (i := y.toNat) (by omega) (y := z + 1) ⟨by omega, by omega⟩
    refine ⟨b, o, rfl, ⟨x0, hx⟩, y, k2.cel cy, _, _, rfl, ⟨y0, by omega⟩, z, cz, by omega, _, _, rfl, ⟨y0, by omega⟩, p1, by omega, ⟨by omega, by omega, k2.hput (Nat.le_refl _), ?_⟩, by dsimp only; omega⟩
    rw [show (x + 1).toNat = x.toNat + 1 by omega, List.take_add_one, hy]
    have e9 := countT_app (t.take x.toNat) y0 y1
    rw [gz] at e9
    show ownI _ _ _ _ _ _ (countT (t.take x.toNat ++ [y]))
    rw [e9]; exact p2
  simp only [decide_eq_false_iff_not] at hx
  rw [List.take_of_length_le (by omega)] at own2
  have ht : t.length ≤ 65536 := by omega
  refine HCalls.mono (f57.spec φ _ 256 256 (countT t) 15 H2 own2.row (by omega)) ?_
  rintro v H4 ⟨A4, n4, c4, rfl, own4, k24⟩
  have own4 : ownI H4 H2.size 3 A4 n4 c4 (lensT t) := own4
  have l4 := own4.len
  rw [lensT_len ht] at l4
  refine ⟨_, _, _, _, rfl, ?_⟩
  refine HCalls.mono (f132.spec φ A4 n4 c4 (lensT t) H4 own4.row (by omega) (lensT_in ht) (lensT_kr ht)) ?_
  rintro v H5 ⟨A5, n5, c5, rfl, own5, k45⟩
  have l5 := own5.len
  rw [cdL_len, lensT_len ht] at l5
  refine ⟨_, _, _, _, rfl, ?_⟩
  refine HCalls.mono (f133.spec φ A4 n4 c4 (lensT t) H5 (own4.keeps k45).row (by omega) (lensT_in ht)) ?_
  rintro v H6 ⟨A6, n6, c6, rfl, hn6, own6, k56⟩
  have k06 := ((k2.trans k24).trans k45).trans k56
  have s05 := ((k2.trans k24).trans k45).size
  refine ⟨_, _, _, rfl, ?_⟩
  refine HCalls.mono (f134.spec φ A n c t A5 n5 c5 (cdL (lensT t)) H6 (hr.keeps isU8.mono k06) (own5.keeps k56).row hn (by omega) fun p hp => ?_) ?_
  · obtain ⟨s, hs, rfl⟩ := List.mem_map.1 hp
    have hs' : s < (lensT t).length := by simpa using hs
    have := insideB_at (lensT_in ht) s
    have := code_small (lensT_kr ht) (lensT_in ht) hs'
    exact ⟨by dsimp only; omega, by dsimp only; omega, by dsimp only; omega, by dsimp only; omega⟩
  rintro v H7 ⟨A7, n7, c7, rfl, hn7, own7, k67⟩
  refine ⟨_, _, _, rfl, ?_⟩
  have own6' := (own6.keeps k67).base_le s05
  refine app_bytes own6' own7.row (by omega) (by have := (k06.trans k67).size; omega) ?_
  intro A8 c8 H8 w f e _
  exact ⟨_, _, _, rfl, _, _, _, rfl, w, by omega, f.keeps (k06.trans k67) fun b hb => (ownC.lt own6'.own hb).1⟩
theorem f69.full (φ : Fx) (A : Option Addr) (n c : Nat) (t : List Int) (H : Hp) (hr : bytesR H A n t) :
    HCalls cx.P φ 69 [.slice A n c] H fun r H' => ∃ A' n' c', r = .tuple #[.slice A' n' c', .int .i64 (hufRes t).2] ∧ ownB H' H.size A' n' c' (hufRes t).1 ∧ n' ≤ 1000000 ∧ Keeps H H' := by
  have hl := hr.1
  by_cases h : 65536 < t.length
  · have e : hufRes t = ([], 2) := by unfold hufRes; rw [if_pos h]
    rw [e]
    apply f69.of
    unfold f69.VC
    refine ⟨fun _ => ⟨_, _, _, rfl, ownB_nil .., by omega, Keeps.refl _⟩, fun q => by simp at q; omega⟩
  · have e : hufRes t = (hufL t, 0) := by unfold hufRes; rw [if_neg h]
    rw [e]
    exact f69.spec φ A n c t H hr (by omega)
end Go.Proofs.Ytkkjjjgcfnhabaa.Eng
namespace Go.Proofs.Ytkkjjjgcfnhabaa.Eng
open Go Go.Proofs
theorem f9.spec (φ : Fx) (A : Option Addr) (n c : Nat) (t : List Int) (H : Hp) (hr : bytesR H A n t) (hn : n ≤ 140737488355264) :
    HCalls cx.P φ 9 [.slice A n c] H fun r H' => r = .bool true ∧ Keeps H H' := by
  apply f9.of
  unfold f9.VC
  have hl := hr.1
  have hN : Int.toNat (n : Int) = n := by omega
  simp -zeta only [hN]
  refine HCalls.mono (f66.spec φ A n c t H hr hn) ?_
  rintro v H1 ⟨_, rfl, rfl, full1, k1⟩
  have s1 := k1.size
  have f1 := ownB_pre full1 (n := n) hl
  refine ⟨_, _, _, rfl, ⟨by omega, by omega⟩, ?_⟩
  refine HCalls.mono (f67.full φ _ n (n + 64) t H1 f1.row) ?_
  rintro v H2 ⟨A2, n2, c2, rfl, a2, ha2, k12⟩
  have s2 := k12.size
  refine ⟨_, _, _, _, rfl, ⟨by omega, by omega⟩, ?_⟩
  refine HCalls.mono (f67.full φ _ n (n + 64) t H2 (f1.keeps k12).row) ?_
  rintro v H3 ⟨A3, n3, c3, rfl, b3, hb3, k23⟩
  have s3 := k23.size
  refine ⟨_, _, _, _, rfl, ?_⟩
  have full3 := (full1.keeps k12).keeps k23
  have a3 := a2.keeps k23
  have k03 := (k1.trans k12).trans k23
  have la := a3.len
  have lb := b3.len
  have ablk : ∀ q, A2 = some ⟨q, 0, none⟩ → H1.size ≤ q ∧ q < H2.size := fun q hq => ownC.lt a2.own hq
  refine HCalls.mono (f68.spec φ A2 n2 c2 H1.size _ H3 a3 (by omega) (by omega)) ?_
  rintro v H4 ⟨rfl, fA⟩
  refine ⟨_, rfl, ?_⟩
  have k04 : Keeps H H4 := fA.keeps k03 fun q hq => by have := ablk q hq; omega
  have flt := (ownC.lt full1.own rfl).2
  have full4 : ownB H4 H.size (some ⟨H.size, 0, none⟩) (n + 64) (n + 64) (t ++ List.replicate 64 165) := full3.frame fun q hq => by
    injection hq with hq; injection hq with hq
    refine fA.2 q (by omega) fun e => ?_
    have := ablk q e; omega
  have b4 : ownB H4 H2.size A3 n3 c3 (hufRes t).1 := offA.later fA (fun q hq => (ablk q hq).2) b3
  refine HCalls.mono (f69.full φ A n c t H4 (hr.keeps isU8.mono k04)) ?_
  rintro v H5 ⟨A5, n5, c5, rfl, w5, hw5, k45⟩
  have l5 := w5.len
  refine ⟨_, _, _, _, rfl, ?_⟩
  refine ⟨fun q H' => q = false ∧ Keeps H5 H', ⟨fun h => by simp at h, fun _ => ⟨fun h => by simp at h, fun _ => ?_⟩⟩, ?_⟩
  · refine HCalls.mono (f70.spec φ A3 n3 c3 A5 n5 c5 _ H5 (b4.keeps k45).row w5.row (by omega)) ?_
    rintro v H6 ⟨rfl, rfl⟩
    refine ⟨_, rfl, fun h => by simp at h, fun _ => ⟨by omega, fun h => ?_, fun _ => ?_⟩⟩
    · exfalso; simp at h; omega
    · refine HCalls.mono (f66.spec φ A n c t H6 (hr.keeps isU8.mono (k04.trans k45)) hn) ?_
      rintro v H7 ⟨_, rfl, rfl, full7, k7⟩
      refine ⟨_, _, _, rfl, ?_⟩
      refine HCalls.mono (f70.spec φ _ (n + 64) (n + 64) _ (n + 64) (n + 64) _ H7 ((full4.keeps k45).keeps k7).row full7.row (by omega)) ?_
      rintro v H8 ⟨rfl, rfl⟩
      exact ⟨_, rfl, rfl, k7⟩
  rintro q _ H9 ⟨rfl, k59⟩
  refine ⟨fun h => (nomatch h), fun _ => ?_⟩
  have k49 := k45.trans k59
  have k09 := k04.trans k49
  have f9 := ownB_pre (full4.keeps k49) (n := n) hl
  have s9 := k09.size
  refine ⟨⟨by omega, by omega⟩, ?_⟩
  refine HCalls.mono (f71.spec φ f9 (by omega)) ?_
  rintro v H10 ⟨rfl, f10, fo⟩
  refine ⟨_, _, _, rfl, ?_⟩
  have k010 : Keeps H H10 := fo.keeps k09 fun b hb => by cases hb; exact Nat.le_refl _
  refine HCalls.mono (f67.full φ _ n (n + 64) t.reverse H10 f10.row) ?_
  rintro v H11 ⟨A11, n11, c11, rfl, w11, hw11, k11⟩
  have k011 := k010.trans k11
  refine ⟨_, _, _, _, rfl, ?_⟩
  refine HCalls.mono (f66.spec φ A n c t H11 (hr.keeps isU8.mono k011) hn) ?_
  rintro v H12 ⟨_, rfl, rfl, full12, k12'⟩
  have o12 := ownB_pre full12 (n := n) hl
  refine ⟨_, _, _, rfl, ⟨by omega, by omega⟩, ?_⟩
  refine HCalls.mono (f71.spec φ o12 (by omega)) ?_
  rintro v H13 ⟨rfl, o13, fo13⟩
  have s11 := k011.size
  have k013 : Keeps H H13 := fo13.keeps (k011.trans k12') fun b hb => by cases hb; omega
  have w13 : ownB H13 H10.size A11 n11 c11 (hufRes t.reverse).1 := (w11.keeps k12').frame fun q hq => by
    have := (ownC.lt w11.own hq)
    refine fo13.2 q (by have := k12'.size; omega) fun e => ?_
    injection e with e; injection e with e; omega
  refine ⟨_, _, _, rfl, ?_⟩
  refine HCalls.mono (f69.full φ _ n (n + 64) t.reverse H13 o13.row) ?_
  rintro v H14 ⟨A14, n14, c14, rfl, w14, hw14, k14⟩
  refine ⟨_, _, _, _, rfl, ?_⟩
  refine ⟨fun q H' => q = true ∧ H' = H14, ?_, ?_⟩
  · refine HCalls.mono (f70.spec φ A11 n11 c11 A14 n14 c14 _ H14 (w13.keeps k14).row w14.row (by omega)) ?_
    rintro v H15 ⟨rfl, rfl⟩
    exact ⟨_, rfl, fun _ => ⟨by simp, rfl⟩, fun h => (nomatch h)⟩
  · rintro q _ H16 ⟨rfl, rfl⟩
    exact ⟨rfl, k013.trans k14⟩
end Go.Proofs.Ytkkjjjgcfnhabaa.Eng
namespace Go.Proofs.Ytkkjjjgcfnhabaa.Eng
open Go Go.Proofs
theorem arg_text {H : Hp} {v : Value} (h : Argv Try.prog H 59 v) : ∃ A n c xs, v = .slice A n c ∧ n ≤ c ∧ c ≤ 140737488351232 ∧ bytesR H A n xs := by
  obtain ⟨A, n, c, xs, e, r⟩ := ok_bytes h.ok
  rw [arg_scalar h (by rw [Try.underlying59]; rfl)] at e
  simp at e; exact ⟨A, n, c, xs, e, r⟩
end Go.Proofs.Ytkkjjjgcfnhabaa.Eng
namespace Go.Proofs.Ytkkjjjgcfnhabaa.huffEncodes
open Go Go.Proofs.Ytkkjjjgcfnhabaa.Eng
theorem walk (φ : Fx) (H : Hp) (v0 : Value) (h0 : Argv Try.prog H 59 v0) :
    HCalls Try.prog φ 9 [v0] H fun v H' => v = .bool true ∧ Keeps H H' := by
  obtain ⟨A, n, c, xs, rfl, hnc, hc, hr⟩ := arg_text h0
  exact f9.spec φ A n c xs H hr (by omega)
end Go.Proofs.Ytkkjjjgcfnhabaa.huffEncodes
