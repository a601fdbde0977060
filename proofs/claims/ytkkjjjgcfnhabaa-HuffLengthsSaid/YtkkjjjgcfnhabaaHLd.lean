/- Part HLd of the proof of the claim in this folder: a way to walk code, and the contracts of the functions that the law reaches. Conditions: none. -/
import Derived.Test.YtkkjjjgcfnhabaaHLc
set_option linter.unusedVariables false
set_option linter.unusedSimpArgs false
set_option maxRecDepth 10000
namespace Go.Proofs.Ytkkjjjgcfnhabaa.Eng
open Go Go.Proofs
/-- A number behind a buffer, with all that is then known. -/
theorem num_put (φ : Fx) {A : Option Addr} {n c base : Nat} (v : Int) {xs : List Int} {H : Hp} (own : ownB H base A n c xs) (hbase : base ≤ H.size) (hv : v ≤ 9223372036854775807) (hn : n ≤ 140737488350000) {K : Value → Hp → Prop}
    (hK : ∀ A' n' c' H', ownB H' base A' n' c' (xs ++ numB v) → n' ≤ n + 9 → bF base H H' → (∀ (base2 : Nat) (A2 : Option Addr) (n2 c2 : Nat) (ys : List Int), (∀ q, A = some ⟨q, 0, none⟩ → q < base2) → ownB H base2 A2 n2 c2 ys → ownB H' base2 A2 n2 c2 ys) →
      K (.slice A' n' c') H') : HCalls cx.P φ 166 [.slice A n c, .int .i64 v] H K := by
  refine HCalls.mono (f166.spec φ A n c base v xs H own hbase hv hn) ?_
  rintro r H' ⟨A', n', c', rfl, w, f, _⟩
  refine hK A' n' c' H' w ?_ (f.bF own) fun base2 A2 n2 c2 ys hq o => f.later hq o
  have h1 := w.len
  have h2 := own.len
  have := numB_len v hv
  simp only [List.length_append] at h1; omega
theorem f117.spec (φ : Fx) (parts : Int) (A : Option Addr) (n c : Nat) (xs : List PI) (H : Hp) (hr : rowR isPI 5 H A n xs) (hn : n ≤ 140737488351232) (hp : 0 ≤ parts ∧ parts ≤ 65535) (ok : encOK xs) (hB : (bodyL parts xs).length ≤ 1099511627776) :
    HCalls cx.P φ 117 [.agg #[.int .i64 parts, .slice A n c]] H fun r H' => ∃ A' m c', r = .slice A' m c' ∧ ownB H' H.size A' m c' (bodyL parts xs) ∧ Keeps H H' := by
  apply f117.of
  unfold f117.VC
  intro H1
  have o1 : objAt H1 H.size #[.int .i64 parts, .slice A n c] 24 := objAt_new ..
  have k1 : Keeps H H1 := Keeps.push ..
  have z1 : H1.size = H.size + 1 := by simp [H1]
  clear_value H1
  have e0 : cel H1 H.size 0 = some (.int .i64 parts) := by rw [objAt_cel o1]; rfl
  have hxn := hr.1
  simp -zeta only [xI e0]
  refine num_put φ parts (ownB_nil H1 H1.size) (Nat.le_refl _) (by omega) (by omega) ?_
  intro A2 n2 c2 H2 w2 b2 f2 _
  have o2 := f2.obj o1 (by decide)
  have e1 : cel H2 H.size (0 + 1) = some (.slice A n c) := by rw [objAt_cel o2]; rfl
  refine ⟨_, _, _, rfl, ?_⟩
  simp -zeta only [xL e1]
  refine num_put φ (n : Int) w2 f2.size (by omega) (by omega) ?_
  intro A3 n3 c3 H3 w3 b3 f23 _
  refine ⟨_, _, _, rfl, ?_⟩
  have f3 := f2.trans f23
  refine ⟨fun bA bn bc last i H' => 0 ≤ i ∧ i ≤ n ∧ -1 ≤ last ∧ last ≤ 65535 ∧ bF H1.size H1 H' ∧ ∃ ys, ownB H' H1.size bA bn bc ys ∧ ys ++ infosL last (xs.drop i.toNat) = bodyL parts xs, fun _ _ _ _ i _ => (n - i).toNat,
    ⟨by omega, by omega, by omega, by omega, f3, _, w3, by simp [bodyL, hxn]⟩, ?_⟩
  rintro bA bn bc last i _ H4 ⟨h0, h1, hl0, hl1, f4, ys, own4, hys⟩
  have k4 : Keeps H H4 := f4.keeps k1 (by omega)
  have o4 := f4.obj o1 (by decide)
  have e1 : cel H4 H.size (0 + 1) = some (.slice A n c) := by rw [objAt_cel o4]; rfl
  simp -zeta only [xL e1]
  refine ⟨fun hi => ?_, fun hi => ?_⟩
  · simp only [decide_eq_true_eq] at hi
    obtain ⟨x, b, o, hx, rfl, BA, Bn, Bc, DA, Dn, Dc, c0, c1, c2, c3, c4, rb, rd, bn2, dn⟩ := hr.at h0 hi
    have c0 := k4.cel c0
    have c1 := k4.cel c1
    have c2 := k4.cel c2
    have c3 := k4.cel c3
    have c4 := k4.cel c4
    rw [drop_at hx, infosL] at hys
    have hxm : x ∈ xs := List.mem_iff_getElem?.2 ⟨_, hx⟩
    have hpx := ok.part x hxm
    have hfx := ok.filt x hxm
    have hbx := ok.blk x hxm
    have lb := rb.1
    have ld := rd.1
    rw [ld] at hfx
    have hlen := congrArg List.length hys
    simp only [List.length_append] at hlen
    have ly := own4.len
    simp -zeta only [xA, xI c0, xL c1, xB c2, xI c3, xL c4]
    refine ⟨⟨h0, hi⟩, ?_⟩
    intro H5
    refine ⟨canPut_new _ _ _ _ _ (by simp) (by simp [Value.oneCell']), ?_⟩
    intro H6
    have hH6 : H6 = H4.push (.cells #[.int .i64 x.part, .slice BA Bn Bc, .bool x.all, .int .i64 x.hs, .slice DA Dn Dc] 146 (0, 0)) := hput_new _ _ _ _ _ (by simp)
    have o6 : objAt H6 H4.size #[.int .i64 x.part, .slice BA Bn Bc, .bool x.all, .int .i64 x.hs, .slice DA Dn Dc] 146 := by rw [hH6]; exact objAt_new ..
    have k46 : Keeps H4 H6 := by rw [hH6]; exact Keeps.push ..
    clear hH6
    clear_value H6 H5
    have p0 : cel H6 H4.size 0 = some (.int .i64 x.part) := by rw [objAt_cel o6]; rfl
    simp -zeta only [xI p0]
    refine ⟨by omega, by omega, ?_⟩
    have s4 := f4.size
    have s46 := k46.size
    refine num_put φ (x.part - last - 1) (own4.keeps k46) (by omega) (by omega) (by omega) ?_
    intro A7 n7 c7 H7 w7 b7 f67 _
    refine ⟨_, _, _, rfl, ?_⟩
    have o7 := f67.obj o6 (by decide)
    have p0 : cel H7 H4.size 0 = some (.int .i64 x.part) := by rw [objAt_cel o7]; rfl
    have d2 : cel H7 H4.size (0 + 2) = some (.bool x.all) := by rw [objAt_cel o7]; rfl
    have d3 : cel H7 H4.size (0 + 2 + 1) = some (.int .i64 x.hs) := by rw [objAt_cel o7]; rfl
    have d4 : cel H7 H4.size (0 + 2 + 2) = some (.slice DA Dn Dc) := by rw [objAt_cel o7]; rfl
    simp -zeta only [xI p0, xB d2, xI d3, xL d4]
    have k7 : Keeps H H7 := ((f4.trans k46.bF).trans f67).keeps k1 (by omega)
    refine HCalls.mono (f167.spec φ x.all x.hs DA Dn Dc x.data H7 (rd.keeps isU8.mono k7) hfx) ?_
    rintro v H8 ⟨A8, n8, c8, rfl, own8, k78⟩
    refine ⟨_, _, _, _, rfl, ?_⟩
    have l8 := own8.len
    have s67 := f67.size
    have s78 := k78.size
    refine num_put φ (n8 : Int) (w7.keeps k78) (by omega) (by omega) (by omega) ?_
    intro A9 n9 c9 H9 w9 b9 f89 later9
    refine ⟨_, _, _, rfl, ?_⟩
    have own8' := later9 H7.size A8 n8 c8 _ (fun q hq => (w7.own.lt hq).2) own8
    have s89 := f89.size
    refine app_bytes w9 own8'.row (by omega) (by omega) ?_
    intro A10 c10 H10 w10 g10 _ _
    refine ⟨_, _, _, rfl, ?_⟩
    have f710 : bF H1.size H7 H10 := (k78.bF.trans f89).trans (g10.bF w9)
    have o10 := f710.obj o7 (by decide)
    have q1 : cel H10 H4.size (0 + 1) = some (.slice BA Bn Bc) := by rw [objAt_cel o10]; rfl
    simp -zeta only [xL q1]
    have s10 := f710.size
    refine num_put φ (Bn : Int) w10 (by omega) (by omega) (by omega) ?_
    intro A11 n11 c11 H11 w11 b11 f1011 _
    refine ⟨_, _, _, rfl, ?_⟩
    have f711 := f710.trans f1011
    have o11 := f711.obj o7 (by decide)
    generalize hpre : ((ys ++ numB (x.part - last - 1)) ++ numB (n8 : Int) ++ filtL x.all x.hs x.data) ++ numB (Bn : Int) = pre at w11
    have hpre2 : (pre ++ blksL ⟨#[]⟩ x.bs) ++ infosL x.part (xs.drop (i.toNat + 1)) = bodyL parts xs := by
      rw [← hpre, ← hys, lb, l8]; simp [List.append_assoc]
    have hlen2 := congrArg List.length hpre2
    simp only [List.length_append] at hlen2
    have f411 : bF H1.size H4 H11 := (k46.bF.trans f67).trans f711
    refine ⟨fun bA2 bn2 bc2 key k H' => 0 ≤ k ∧ k ≤ Bn ∧ key.size ≤ 64 ∧ bF H1.size H11 H' ∧ ∃ zs, ownB H' H1.size bA2 bn2 bc2 zs ∧ zs ++ blksL key (x.bs.drop k.toNat) = pre ++ blksL ⟨#[]⟩ x.bs, fun _ _ _ _ k _ => (Bn - k).toNat,
      ⟨by omega, by omega, Nat.zero_le _, bF.refl .., pre, w11, by simp⟩, ?_⟩
    rintro bA2 bn2' bc2 key k _ H12 ⟨hk0, hk1, hkey, f12, zs, own12, hzs⟩
    have f412 := f411.trans f12
    have k12 : Keeps H H12 := (f4.trans f412).keeps k1 (by omega)
    have hlen3 := congrArg List.length hzs
    simp only [List.length_append] at hlen3
    have o12 := f12.obj o11 (by decide)
    have q1 : cel H12 H4.size (0 + 1) = some (.slice BA Bn Bc) := by rw [objAt_cel o12]; rfl
    have lz := own12.len
    have s12 := (f4.trans f412).size
    simp -zeta only [xL q1]
    refine ⟨fun hk => ?_, fun hk => ?_⟩
    · simp only [decide_eq_true_eq] at hk
      obtain ⟨y, b2', o2', hy2, rfl, s0, s1, s2, s3, s4'⟩ := (rb.keeps isBlk.mono k12).at hk0 hk
      have hyr := right_bd (hbx y (List.mem_iff_getElem?.2 ⟨_, hy2⟩))
      rw [drop_at hy2, blksL] at hzs
      have hcm := com_bd key y.cut
      simp -zeta only [xA, xI s0, xI s1, xI s2, xS s3]
      refine ⟨⟨hk0, hk⟩, ?_⟩
      intro G13
      refine ⟨canPut_new _ _ _ _ _ (by simp) (by simp [Value.oneCell']), ?_⟩
      intro G14
      have hG : G14 = H12.push (.cells #[.int .i64 y.st, .int .i64 y.raw, .int .i64 y.cnt, .string y.cut] 150 (0, 0)) := hput_new _ _ _ _ _ (by simp)
      have o14 : objAt G14 H12.size #[.int .i64 y.st, .int .i64 y.raw, .int .i64 y.cnt, .string y.cut] 150 := by rw [hG]; exact objAt_new ..
      have k1214 : Keeps H12 G14 := by rw [hG]; exact Keeps.push ..
      clear hG
      clear_value G14 G13
      have rd : ∀ {G : Hp}, bF H1.size G14 G → cel G H12.size 0 = some (.int .i64 y.st) ∧ cel G H12.size (0 + 1) = some (.int .i64 y.raw) ∧ cel G H12.size (0 + 2) = some (.int .i64 y.cnt) ∧ cel G H12.size (0 + 3) = some (.string y.cut) := by
        intro G f
        have o := f.obj o14 (by decide)
        exact ⟨by rw [objAt_cel o]; rfl, by rw [objAt_cel o]; rfl, by rw [objAt_cel o]; rfl, by rw [objAt_cel o]; rfl⟩
      have r14 := rd (bF.refl ..)
      simp -zeta only [xS r14.2.2.2]
      refine HCalls.mono (f168.spec φ key y.cut (by omega) G14) ?_
      rintro v H15 ⟨rfl, rfl⟩
      refine ⟨_, rfl, ?_⟩
      simp -zeta only [xI r14.1]
      have s1214 := k1214.size
      refine num_put φ y.st (own12.keeps k1214) (by omega) (by omega) (by omega) ?_
      intro A14 m14 c14 H16 w16 b16 g16 _
      have r16 := rd g16
      have t16 := g16.size
      refine ⟨_, _, _, rfl, ?_⟩
      simp -zeta only [xI r16.2.1]
      refine num_put φ y.raw w16 (by omega) (by omega) (by omega) ?_
      intro A15 m15 c15 H17 w17 b17 g17 _
      have g17 := g16.trans g17
      have r17 := rd g17
      have t17 := g17.size
      refine ⟨_, _, _, rfl, ?_⟩
      simp -zeta only [xI r17.2.2.1]
      refine num_put φ y.cnt w17 (by omega) (by omega) (by omega) ?_
      intro A16 m16 c16 H18 w18 b18 g18 _
      have g18 := g17.trans g18
      have t18 := g18.size
      refine ⟨_, _, _, rfl, ?_⟩
      refine num_put φ (com key y.cut) w18 (by omega) (by omega) (by omega) ?_
      intro A17 m17 c17 H19 w19 b19 g19 _
      have g19 := g18.trans g19
      have r19 := rd g19
      have t19 := g19.size
      refine ⟨_, _, _, rfl, ?_⟩
      simp -zeta only [xS r19.2.2.2]
      refine ⟨by omega, ?_⟩
      refine num_put φ (y.cut.size - com key y.cut) w19 (by omega) (by omega) (by omega) ?_
      intro A18 m18 c18 H20 w20 b20 g20 _
      have g20 := g19.trans g20
      have r20 := rd g20
      have t20 := g20.size
      refine ⟨_, _, _, rfl, ?_⟩
      simp -zeta only [xS r20.2.2.2]
      refine ⟨⟨by omega, by omega⟩, ?_⟩
      have hes : (y.cut.extract (com key y.cut).toNat y.cut.size).size ≤ 64 := by rw [ByteArray.size_extract]; omega
      refine app_str w20 (by omega) (by omega) ?_
      intro A19 c19 H21 w21 g21 _ _
      have g21 := g20.trans (g21.bF w20)
      have r21 := rd g21
      refine ⟨_, _, _, rfl, ?_⟩
      simp -zeta only [xS r21.2.2.2]
      refine ⟨by omega, ⟨by omega, by omega, by omega, f12.trans (k1214.bF.trans g21), _, w21, ?_⟩, by omega⟩
      rw [show (k + 1).toNat = k.toNat + 1 by omega, ← hzs]
      simp [List.append_assoc]
    · simp only [decide_eq_false_iff_not] at hk
      rw [List.drop_eq_nil_of_le (by omega), blksL, List.append_nil] at hzs
      refine ⟨by omega, ⟨by omega, by omega, by omega, by omega, f4.trans f412, zs, own12, ?_⟩, by omega⟩
      rw [show (i + 1).toNat = i.toNat + 1 by omega, hzs]; exact hpre2
  · simp only [decide_eq_false_iff_not] at hi
    rw [List.drop_eq_nil_of_le (by omega), infosL, List.append_nil] at hys
    exact ⟨_, _, _, rfl, by rw [← hys]; exact own4.base_le k1.size, k4⟩
end Go.Proofs.Ytkkjjjgcfnhabaa.Eng
namespace Go.Proofs.Ytkkjjjgcfnhabaa.Eng
open Go Go.Proofs
/-- A part of a row of bytes. -/
theorem bytesR_part {H : Hp} {A : Option Addr} {n : Nat} {xs : List Int} (h : bytesR H A n xs) {i j c : Nat} (hij : i ≤ j) (hj : j ≤ n) (hc : n ≤ c) :
    bytesR H (slA A i c 1) (j - i) ((xs.drop i).take (j - i)) := by
  have hl := h.1
  refine ⟨by simp; omega, fun k x hx => ?_⟩
  rw [List.getElem?_take] at hx
  split at hx
  · rename_i hk
    rw [List.getElem?_drop] at hx
    obtain ⟨b, o, rfl, he⟩ := h.2 (i + k) x hx
    refine ⟨b, o + i, ?_, ?_⟩
    · rw [slA, if_neg (by omega), Option.map_some, add_off, Nat.mul_one]
    · have : o + (i + k) * 1 = o + i + k * 1 := by omega
      rw [this] at he; exact he
  · cases hx
end Go.Proofs.Ytkkjjjgcfnhabaa.Eng
namespace Go.Proofs.Ytkkjjjgcfnhabaa.Eng
open Go Go.Proofs
theorem blksOk_right : ∀ (bs : List Blk) (p : ByteArray), blksOk p bs = true → ∀ b ∈ bs, b.right = true
  | b :: r, p, h, y, hy => by
    simp only [blksOk, Bool.and_eq_true] at h
    rcases List.mem_cons.1 hy with e | e
    · subst e; exact h.1.1
    · exact blksOk_right r b.cut h.2 y e
theorem encOK_of {parts : Int} (hp : parts ≤ 65535) : ∀ (xs : List PI) (last : Int), -1 ≤ last → infosOk parts last xs = true → encOK xs
  | [], _, _, _ => ⟨by simp, by simp, by simp⟩
  | p :: r, last, hl, h => by
    simp only [infosOk, Bool.and_eq_true, decide_eq_true_eq] at h
    obtain ⟨⟨⟨⟨⟨h1, h2⟩, h3⟩, h4⟩, h5⟩, h6⟩ := h
    have ih := encOK_of hp r p.part (by omega) h6
    refine ⟨fun x hx => ?_, fun x hx => ?_, fun x hx => ?_⟩ <;> rcases List.mem_cons.1 hx with e | e
    · subst e; omega
    · exact ih.part x e
    · subst e; exact h4
    · exact ih.filt x e
    · subst e; exact blksOk_right _ _ h5
    · exact ih.blk x e
theorem infosOk_len {parts : Int} : ∀ (xs : List PI) (last : Int), last < parts → infosOk parts last xs = true → (xs.length : Int) ≤ parts - last - 1
  | [], last, hl, _ => by simp; omega
  | p :: r, last, hl, h => by
    simp only [infosOk, Bool.and_eq_true, decide_eq_true_eq] at h
    have := infosOk_len r p.part h.1.1.1.1.2 h.2
    have := h.1.1.1.1.1
    simp only [List.length_cons]; omega
theorem filtL_len {all : Bool} {hs : Int} {data : List Int} (h : filtRight all hs data.length = true) : (filtL all hs data).length ≤ 4106 := by
  have hd : data.length ≤ 4096 := by simp only [filtRight] at h; grind
  have := numB_len (data.length : Int) (by omega)
  simp only [filtL]
  split
  · simp
  · split
    · simp
    · simp only [List.length_append, List.length_cons, List.length_nil]; omega
theorem blksL_len : ∀ (bs : List Blk) (key : ByteArray), (∀ b ∈ bs, b.right = true) → (blksL key bs).length ≤ 109 * bs.length
  | [], _, _ => by simp [blksL]
  | b :: r, key, h => by
    have ih := blksL_len r b.cut fun y hy => h y (List.mem_cons_of_mem _ hy)
    have hb := right_bd (h b List.mem_cons_self)
    have hc := com_bd key b.cut
    have n1 := numB_len b.st (by omega)
    have n2 := numB_len b.raw (by omega)
    have n3 := numB_len b.cnt (by omega)
    have n4 := numB_len (com key b.cut) (by omega)
    have n5 := numB_len (b.cut.size - com key b.cut) (by omega)
    have hes : (b.cut.extract (com key b.cut).toNat b.cut.size).size ≤ 64 := by rw [ByteArray.size_extract]; omega
    simp only [blksL, List.length_append, strB_len, List.length_cons]; omega
theorem infosL_len : ∀ (xs : List PI) (last : Int), -1 ≤ last → encOK xs → sumB xs ≤ 262144 → ((infosL last xs).length : Int) ≤ 4200 * xs.length + 109 * sumB xs
  | [], _, _, _, _ => by simp [infosL, sumB]
  | p :: r, last, hl, ok, hs => by
    have hr := sumB_nonneg r
    simp only [sumB] at hs
    have hp := ok.part p List.mem_cons_self
    have ih := infosL_len r p.part (by omega) ⟨fun x hx => ok.part x (List.mem_cons_of_mem _ hx), fun x hx => ok.filt x (List.mem_cons_of_mem _ hx), fun x hx => ok.blk x (List.mem_cons_of_mem _ hx)⟩ (by omega)
    have hf := filtL_len (ok.filt p List.mem_cons_self)
    have hb := blksL_len p.bs ⟨#[]⟩ (ok.blk p List.mem_cons_self)
    have n1 := numB_len (p.part - last - 1) (by omega)
    have n2 := numB_len ((filtL p.all p.hs p.data).length : Int) (by omega)
    have n3 := numB_len (p.bs.length : Int) (by omega)
    simp only [infosL, List.length_append, List.length_cons, sumB]; omega
theorem bodyL_len {parts : Int} {xs : List PI} (h : footRight parts xs = true) : encOK xs ∧ (bodyL parts xs).length ≤ 1099511627776 ∧ xs.length ≤ 65535 ∧ sumB xs ≤ 262144 := by
  simp only [footRight, Bool.and_eq_true, decide_eq_true_eq] at h
  obtain ⟨⟨⟨h1, h2⟩, h3⟩, h4⟩ := h
  have ok := encOK_of h2 xs (-1) (by omega) h3
  have hl := infosOk_len xs (-1) (by omega) h3
  have hi := infosL_len xs (-1) (by omega) ok h4
  have n1 := numB_len parts (by omega)
  have n2 := numB_len (xs.length : Int) (by omega)
  have hr := sumB_nonneg xs
  refine ⟨ok, ?_, by omega, h4⟩
  simp only [bodyL, List.length_append]; omega
end Go.Proofs.Ytkkjjjgcfnhabaa.Eng
namespace Go.Proofs.Ytkkjjjgcfnhabaa.Eng
open Go Go.Proofs
/-- The pages of a body. -/
def pagesL (xs : List Int) : List Int := if h : xs.length = 0 then [] else sealL (xs.take 4096) ++ pagesL (xs.drop 4096)
termination_by xs.length
decreasing_by simp; omega
theorem pagesL_nil : pagesL [] = [] := by rw [pagesL]; simp
theorem pagesL_cons {xs : List Int} (h : xs.length ≠ 0) : pagesL xs = sealL (xs.take 4096) ++ pagesL (xs.drop 4096) := by
  rw [pagesL, dif_neg h]
theorem sealL_len (xs : List Int) : (sealL xs).length = xs.length + 4 := by simp [sealL, four]
theorem pagesL_len (xs : List Int) : (pagesL xs).length ≤ 5 * xs.length := by
  induction xs using pagesL.induct with
  | case1 xs h => rw [pagesL]; simp [h]
  | case2 xs h ih =>
    rw [pagesL_cons h]
    simp only [List.length_append, sealL_len, List.length_take, List.length_drop] at ih ⊢
    omega
/-- A right footer's bytes. -/
def encL (parts : Int) (xs : List PI) : List Int := pagesL (bodyL parts xs) ++ sealL ([119, 110, 119, 49] ++ fixL (sumS xs) 8 ++ fixL (pagesL (bodyL parts xs)).length 8)
end Go.Proofs.Ytkkjjjgcfnhabaa.Eng
namespace Go.Proofs.Ytkkjjjgcfnhabaa.Eng
open Go Go.Proofs
def encRes (parts : Int) (xs : List PI) : List Int × Int :=
  if footRight parts xs then (if 16777216 < (bodyL parts xs).length ∨ 268435456 < sumS xs then ([], 62) else (encL parts xs, 0)) else ([], 80)
theorem encOK.st {xs : List PI} (h : encOK xs) : ∀ x ∈ xs, ∀ b ∈ x.bs, 1 ≤ b.st ∧ b.st ≤ 65536 := fun x hx b hb => by
  have := right_bd (h.blk x hx b hb); omega
theorem wrap_u64 (v : Int) : IntKind.wrap .u64 v = v % 18446744073709551616 := by
  simp only [IntKind.wrap, IntKind.bits, IntKind.signed]; simp
theorem f48.spec (φ : Fx) (parts : Int) (A : Option Addr) (n c : Nat) (xs : List PI) (H : Hp) (hr : rowR isPI 5 H A n xs) (hn : n ≤ 140737488351232) :
    HCalls cx.P φ 48 [.agg #[.int .i64 parts, .slice A n c]] H fun r H' => ∃ A' m c', r = .tuple #[.slice A' m c', .int .i64 (encRes parts xs).2] ∧ ownB H' H.size A' m c' (encRes parts xs).1 ∧ Keeps H H' := by
  apply f48.of
  unfold f48.VC
  intro H1
  have e0 : cel H1 H.size 0 = some (.int .i64 parts) := cel_new ..
  have e1 : cel H1 H.size (0 + 1) = some (.slice A n c) := cel_new ..
  have k1 : Keeps H H1 := Keeps.push ..
  clear_value H1
  simp -zeta only [xI e0, xL e1]
  refine HCalls.mono (f16.spec φ parts A n c xs H1 (hr.keeps isPI.mono k1)) ?_
  rintro v H2 ⟨rfl, k12⟩
  have k2 := k1.trans k12
  have e0 := k12.cel e0
  have e1 := k12.cel e1
  cases hf : footRight parts xs with
  | false =>
    refine ⟨_, rfl, fun _ => ⟨none, 0, 0, ?_, ?_, k2⟩, fun h => by simp at h⟩
    · simp [encRes, hf]
    · simp only [encRes, hf]; exact ownB_nil ..
  | true =>
  obtain ⟨ok, hB, hxl, hsum⟩ := bodyL_len hf
  have hp : 0 ≤ parts ∧ parts ≤ 65535 := by
    simp only [footRight, Bool.and_eq_true, decide_eq_true_eq] at hf; omega
  have hst := sumS_bd xs ok.st
  refine ⟨_, rfl, fun h => by simp at h, fun _ => ?_⟩
  simp -zeta only [xI e0, xL e1]
  refine HCalls.mono (f117.spec φ parts A n c xs H2 (hr.keeps isPI.mono k2) hn hp ok hB) ?_
  rintro v H3 ⟨A3, n3, c3, rfl, own3, k23⟩
  have k3 := k2.trans k23
  have l3 := own3.len
  refine ⟨_, _, _, rfl, ?_⟩
  simp -zeta only [xI (k23.cel e0), xL (k23.cel e1)]
  refine HCalls.mono (f118.spec φ parts A n c xs H3 (hr.keeps isPI.mono k3) hn ok.st hsum) ?_
  rintro v H4 ⟨rfl, k34⟩
  have k4 := k3.trans k34
  refine ⟨_, rfl, ?_⟩
  refine join1 (decide (16777216 < n3) || decide (268435456 < sumS xs)) H4 ?_ ?_
  · grind
  intro _
  refine ⟨fun h => ?_, fun h => ?_⟩
  · simp only [Bool.or_eq_true, decide_eq_true_eq] at h
    have e : encRes parts xs = ([], 62) := by rw [encRes, if_pos hf, if_pos (by omega)]
    exact ⟨none, 0, 0, by rw [e], by rw [e]; exact ownB_nil .., k4⟩
  simp only [Bool.or_eq_false_iff, decide_eq_false_iff_not] at h
  have e : encRes parts xs = (encL parts xs, 0) := by rw [encRes, if_pos hf, if_neg (by omega)]
  have own4 := own3.keeps k34
  have row4 := own4.row
  rw [e]
  refine ⟨fun oA on oc at_ H' => Keeps H4 H' ∧ 0 ≤ at_ ∧ at_ % 4096 = 0 ∧ ∃ ys, ownB H' H4.size oA on oc ys ∧ ys ++ pagesL ((bodyL parts xs).drop at_.toNat) = pagesL (bodyL parts xs), fun _ _ _ at_ _ => (n3 - at_).toNat,
    ⟨Keeps.refl _, by omega, by omega, [], ownB_nil .., by simp⟩, ?_⟩
  rintro oA on oc at_ _ H6 ⟨k46, ha0, ham, ys, own6, hys⟩
  have hpl := pagesL_len (bodyL parts xs)
  have hlen := congrArg List.length hys
  simp only [List.length_append] at hlen
  have l6 := own6.len
  refine ⟨fun hi => ?_, fun hi => ?_⟩
  · simp only [decide_eq_true_eq] at hi
    refine ⟨by omega, ?_⟩
    refine join1 (min (n3 : Int) (at_ + 4096)) H6 ?_ ?_
    · refine ⟨fun q => ⟨?_, rfl⟩, fun q => ⟨?_, rfl⟩⟩ <;> simp only [decide_eq_true_eq, decide_eq_false_iff_not] at q <;> omega
    intro _
    have hc3 := own3.own.2.1
    refine ⟨⟨by omega, by omega, by omega⟩, ?_⟩
    have part := bytesR_part (row4.keeps isU8.mono k46) (i := at_.toNat) (j := (min (n3 : Int) (at_ + 4096)).toNat) (c := c3) (by omega) (by omega) hc3
    have hne : ((bodyL parts xs).drop at_.toNat).length ≠ 0 := by simp; omega
    have htk : ((bodyL parts xs).drop at_.toNat).take ((min (n3 : Int) (at_ + 4096)).toNat - at_.toNat) = ((bodyL parts xs).drop at_.toNat).take 4096 := by
      by_cases q : (n3 : Int) ≤ at_ + 4096
      · rw [List.take_of_length_le (by simp; omega), List.take_of_length_le (by simp; omega)]
      · congr 1; omega
    rw [htk] at part
    rw [pagesL_cons hne] at hys
    refine HCalls.mono (f119.spec φ _ _ _ _ H6 part (by omega)) ?_
    rintro v H8 ⟨A2, n2, c2, rfl, own8, k68⟩
    have l8 := own8.len
    rw [sealL_len] at l8
    simp only [List.length_take, List.length_drop] at l8
    refine ⟨_, _, _, rfl, ?_⟩
    have s46 := k46.size
    have s68 := k68.size
    refine app_bytes (own6.keeps k68) own8.row (by omega) (by omega) ?_
    intro A3' c3' H9 w9 f9 _ _
    refine ⟨_, _, _, rfl, by omega, ⟨f9.keeps (k46.trans k68) fun b hb => (own6.own.lt hb).1, by omega, by omega, _, w9, ?_⟩, by dsimp only; omega⟩
    rw [← hys, List.drop_drop, show (at_ + 4096).toNat = at_.toNat + 4096 by omega, List.append_assoc]
  · simp only [decide_eq_false_iff_not] at hi
    rw [List.drop_eq_nil_of_le (by omega), pagesL_nil, List.append_nil] at hys
    have es : strB ⟨#[119, 110, 119, 49]⟩ = [119, 110, 119, 49] := rfl
    have ez : (⟨#[119, 110, 119, 49]⟩ : ByteArray).size = 4 := rfl
    have w1 : IntKind.wrap .u64 (sumS xs) = sumS xs := by rw [wrap_u64]; omega
    have w2 : IntKind.wrap .u64 ((on : Nat) : Int) = on := by rw [wrap_u64]; omega
    have s46 := k46.size
    refine app_str (ownB_nil H6 H6.size) (by rw [ez]; omega) (Nat.le_refl _) ?_
    intro A4 c4 H10 own10 f10 _ _
    rw [ez, es] at own10
    refine ⟨_, _, _, rfl, ?_⟩
    have k610 := offA_none f10
    rw [w1, w2]
    refine HCalls.mono (f120.spec φ (sumS xs) 8 H10 (by omega) (by omega)) ?_
    rintro v H11 ⟨A5, n5, c5, rfl, own11, k11⟩
    refine ⟨_, _, _, rfl, ?_⟩
    refine HCalls.mono (f120.spec φ (on : Int) 8 H11 (by omega) (by omega)) ?_
    rintro v H12 ⟨A6, n6, c6, rfl, own12, k1112⟩
    refine ⟨_, _, _, rfl, ?_⟩
    have ef : ∀ v : Int, fixB v 8 = fixL v 8 := fun v => by rw [fixB, if_neg (by omega)]; rfl
    rw [ef] at own11 own12
    have l5 := own11.len
    have l6' := own12.len
    simp only [fixL, List.length_map, List.length_range] at l5 l6'
    have s610 := k610.size
    have s11 := k11.size
    have s12 := k1112.size
    have k1012 := k11.trans k1112
    refine app_bytes (own10.keeps k1012) (own11.keeps k1112).row (by omega) (by omega) ?_
    intro A7 c7 H13 own13 f13 _ _
    refine ⟨_, _, _, rfl, ?_⟩
    have own12' : ownB H13 H11.size A6 n6 c6 (fixL (on : Int) 8) := f13.later (fun q hq => by have := (own10.own.lt hq).2; omega) own12
    have s13 := f13.1
    refine app_bytes own13 own12'.row (by omega) (by omega) ?_
    intro A8 c8 H14 own14 f14 _ _
    refine ⟨_, _, _, rfl, ?_⟩
    have k6_14 : Keeps H6 H14 := f14.keeps (f13.keeps (k610.trans k1012) fun b hb => (own10.own.lt hb).1) fun b hb => (own13.own.lt hb).1
    refine HCalls.mono (f119.spec φ _ _ _ _ H14 own14.row (by omega)) ?_
    rintro v H15 ⟨A9, n9, c9, rfl, own15, k1415⟩
    refine ⟨_, _, _, rfl, ?_⟩
    have l9 := own15.len
    rw [sealL_len] at l9
    simp only [List.length_append, List.length_cons, List.length_nil, fixL, List.length_map, List.length_range] at l9
    have k615 := k6_14.trans k1415
    have s615 := k615.size
    refine app_bytes (own6.keeps k615) own15.row (by omega) (by omega) ?_
    intro A10 c10 H16 own16 f16 _ _
    refine ⟨_, _, _, rfl, _, _, _, rfl, ?_, k4.trans (f16.keeps (k46.trans k615) fun b hb => (own6.own.lt hb).1)⟩
    have own17 := own16.base_le k4.size
    have eq : ys ++ sealL ([] ++ [119, 110, 119, 49] ++ fixL (sumS xs) 8 ++ fixL (on : Int) 8) = encL parts xs := by
      rw [← l6, hys]; rfl
    rw [eq] at own17
    exact own17
end Go.Proofs.Ytkkjjjgcfnhabaa.Eng
namespace Go.Proofs.Ytkkjjjgcfnhabaa.Eng
open Go Go.Proofs
/-- Bytes behind a full slice: a new object, whatever the old one is. -/
theorem app_full {H : Hp} {A : Option Addr} {n : Nat} {xs : List Int} (hx : bytesR H A n xs) {B : Option Addr} {m d : Nat} {ys : List Int} (hs : bytesR H B m ys) (hm : 0 < m)
    (hn : n + m ≤ 140737488355328) {K : Value → Hp → Prop}
    (hK : ∀ A' c' H', ownB H' H.size A' (n + m) c' (xs ++ ys) → Keeps H H' → K (.slice A' (n + m) c') H') :
    appW cx 59 59 (.slice A n n) (.slice B m d) H K := by
  have h1 := rowR.rd encU (fun _ => rfl) encU_rd hx
  have h2 := rowR.rd encU (fun _ => rfl) encU_rd hs
  rw [map_encU] at h1 h2
  have l1 := hx.1
  have l2 := hs.1
  show ifB true (∃ k zs, srcC H 1 (.slice B m d) k zs ∧ _ ∧ _)
  refine ⟨m, ys.map (Value.int .u8), ⟨rfl, h2⟩, fun h => by omega, fun _ => ⟨by show (n + m) * 1 ≤ _; omega, xs.map (Value.int .u8), h1, fun cap hc _ => ?_⟩⟩
  refine hK _ _ _ ⟨⟨by simp [l1, l2], hc, Or.inr ⟨H.size, _, Nat.le_refl _, rfl, objAt_new .., ?_, ?_⟩⟩, ?_⟩ (Keeps.push ..)
  · simp [zrow_length, l1, l2]; omega
  · simp only [List.toList_toArray, Nat.mul_one]
    rw [List.take_append_of_le_length (by simp [l1, l2]), List.take_of_length_le (by simp [l1, l2]), List.map_append]
  · intro x hx'
    rcases List.mem_append.1 hx' with q | q
    · exact bytesR.rng hx x q
    · exact bytesR.rng hs x q
end Go.Proofs.Ytkkjjjgcfnhabaa.Eng
namespace Go.Proofs.Ytkkjjjgcfnhabaa.Eng
open Go Go.Proofs
theorem bytesR_take {H : Hp} {A : Option Addr} {n : Nat} {xs : List Int} (h : bytesR H A n xs) {m : Nat} (hm : m ≤ n) : bytesR H A m (xs.take m) :=
  ⟨by have := h.1; simp; omega, fun i x hx => by
    rw [List.getElem?_take] at hx
    split at hx
    · exact h.2 i x hx
    · cases hx⟩
theorem fixB8 (v : Int) : fixB v 8 = fixL v 8 := by rw [fixB, if_neg (by omega)]; rfl
theorem bytesR_rd {H : Hp} {A : Option Addr} {n : Nat} {xs : List Int} (h : bytesR H A n xs) : rdC H A (n * 1) (xs.map (Value.int .u8)) := by
  have := rowR.rd encU (fun _ => rfl) encU_rd h
  rwa [map_encU] at this
theorem u8_one (xs : List Int) : ∀ v ∈ xs.map (Value.int .u8), v.oneCell' = true := by
  intro v hv
  obtain ⟨x, _, rfl⟩ := List.mem_map.1 hv
  rfl
/-- Bytes that are laid over the head of a buffer. -/
theorem bytesR_put {H : Hp} {b : Nat} {cs : Array Value} (o : objAt H b cs 5) {xs : List Int} {m : Nat} (hm : xs.length = m) (hl : m ≤ cs.size) (hx : ∀ x ∈ xs, 0 ≤ x ∧ x < 256) : bytesR (hput H b 0 (xs.map (Value.int .u8))) (some ⟨b, 0, none⟩) m xs := by
  have o2 := objAt_hput o 0 (xs.map (Value.int .u8))
  refine ⟨hm, fun i x hi => ⟨b, 0, rfl, ?_, hx x (List.mem_iff_getElem?.2 ⟨i, hi⟩)⟩⟩
  have hil := (List.getElem?_eq_some_iff.1 hi).1
  rw [objAt_cel o2, getElem?_spl _ _ _ (by simp; omega), if_pos (by simp; omega)]
  simp [hi]
theorem f47.spec (φ : Fx) (parts : Int) (A : Option Addr) (n c : Nat) (xs : List PI) (H : Hp) (hr : rowR isPI 5 H A n xs) (hn : n ≤ 140737488351232) :
    HCalls cx.P φ 47 [.agg #[.int .i64 parts, .slice A n c]] H fun r H' => ∃ A' m c', r = .tuple #[.slice A' m c', .int .i64 (encRes parts xs).2] ∧ ownB H' H.size A' m c' (encRes parts xs).1 ∧ Keeps H H' := by
  apply f47.of
  unfold f47.VC
  intro H1
  have e0 : cel H1 H.size 0 = some (.int .i64 parts) := cel_new ..
  have e1 : cel H1 H.size (0 + 1) = some (.slice A n c) := cel_new ..
  have k1 : Keeps H H1 := Keeps.push ..
  clear_value H1
  simp -zeta only [xI e0, xL e1]
  refine HCalls.mono (f17.spec φ parts A n c xs H1 (hr.keeps isPI.mono k1)) ?_
  rintro v H2 ⟨rfl, k12⟩
  have k2 := k1.trans k12
  have e0 := k12.cel e0
  have e1 := k12.cel e1
  cases hf : footRight parts xs with
  | false =>
    refine ⟨_, rfl, fun _ => ⟨none, 0, 0, ?_, ?_, k2⟩, fun h => by simp at h⟩
    · simp [encRes, hf]
    · simp only [encRes, hf]; exact ownB_nil ..
  | true =>
  obtain ⟨ok, hB, hxl, hsum⟩ := bodyL_len hf
  have hp : 0 ≤ parts ∧ parts ≤ 65535 := by
    simp only [footRight, Bool.and_eq_true, decide_eq_true_eq] at hf; omega
  have hst := sumS_bd xs ok.st
  refine ⟨_, rfl, fun h => by simp at h, fun _ => ?_⟩
  simp -zeta only [xI e0, xL e1]
  refine HCalls.mono (f113.spec φ parts A n c xs H2 (hr.keeps isPI.mono k2) hn hp ok hB) ?_
  rintro v H3 ⟨A3, n3, c3, rfl, own3, k23⟩
  have k3 := k2.trans k23
  have l3 := own3.len
  refine ⟨_, _, _, rfl, ?_, ?_⟩
  · intro j v hj
    match j, hj with
    | 0, hj => simp at hj; subst hj; exact k23.cel e0
    | 1, hj => simp at hj; subst hj; exact k23.cel e1
  refine HCalls.mono (f114.spec φ parts A n c xs H3 (hr.keeps isPI.mono k3) hn ok.st hsum) ?_
  rintro v H4 ⟨rfl, k34⟩
  have k4 := k3.trans k34
  refine ⟨_, rfl, ?_⟩
  refine join1 (decide (16777216 < n3) || decide (268435456 < sumS xs)) H4 ?_ ?_
  · grind
  intro _
  refine ⟨fun h => ?_, fun h => ?_⟩
  · simp only [Bool.or_eq_true, decide_eq_true_eq] at h
    have e : encRes parts xs = ([], 62) := by rw [encRes, if_pos hf, if_pos (by omega)]
    exact ⟨none, 0, 0, by rw [e], by rw [e]; exact ownB_nil .., k4⟩
  simp only [Bool.or_eq_false_iff, decide_eq_false_iff_not] at h
  have e : encRes parts xs = (encL parts xs, 0) := by rw [encRes, if_pos hf, if_neg (by omega)]
  have own4 := own3.keeps k34
  have row4 := own4.row
  rw [e]
  refine ⟨by omega, ?_⟩
  intro H6
  have o6 : objAt H6 H4.size (zrow [Value.int .u8 0] (Int.toNat (4096 : Int))).toArray 5 := objAt_new ..
  have k46 : Keeps H4 H6 := Keeps.push ..
  have s6 : H6.size = H4.size + 1 := by simp [H6]
  clear_value H6
  refine ⟨fun oA on oc lA ln lc H' => H6.size ≤ H'.size ∧ Keeps H4 H' ∧ (∃ cs, objAt H' H4.size cs 5 ∧ cs.size = 4096) ∧ ln ≤ lc ∧ ∃ zs ys, bytesR H4 lA ln zs ∧ ownB H' H6.size oA on oc ys ∧ ys ++ pagesL zs = pagesL (bodyL parts xs), fun _ _ _ _ ln _ _ => ln,
    ⟨Nat.le_refl _, k46, ⟨_, o6, by simp [zrow_length]⟩, own4.own.2.1, bodyL parts xs, [], row4, ownB_nil .., by simp⟩, ?_⟩
  rintro oA on oc lA ln lc _ H7 ⟨s67, k47, ⟨cs, o7, hcs⟩, hlc, zs, ys, rz, own7, hys⟩
  have hpl := pagesL_len (bodyL parts xs)
  have hlen := congrArg List.length hys
  simp only [List.length_append] at hlen
  have l7 := own7.len
  have lz := rz.1
  refine ⟨fun hi => ?_, fun hi => ?_⟩
  · simp only [decide_eq_true_eq] at hi
    have hk : min ln (Int.toNat 4096) = min ln 4096 := rfl
    rw [hk]
    generalize hkk : min ln 4096 = k
    have part := bytesR_take rz (m := k) (by omega)
    have lk : (zs.take k).length = k := part.1
    have pr := bytesR.rng part
    refine ⟨(zs.take k).map (Value.int .u8), bytesR_rd (part.keeps isU8.mono k47), Or.inr ⟨H4.size, 0, rfl, objAt_canPut o7 (by simp; omega) (u8_one _)⟩, ?_⟩
    intro H8
    have o8 : objAt H8 H4.size (spl cs (0 + 0) ((zs.take k).map (Value.int .u8))) 5 := objAt_hput o7 _ _
    have b8 : bytesR H8 (some ⟨H4.size, 0, none⟩) k (zs.take k) := bytesR_put o7 lk (by omega) pr
    have x8 : ∀ q, q ≠ H4.size → H8[q]? = H7[q]? := fun q hq => hput_other (fun e => hq e.symm)
    have k48 : Keeps H4 H8 := k47.hput (Nat.le_refl _)
    have s78 : H8.size = H7.size := hput_size ..
    have own8 : ownB H8 H6.size oA on oc ys := ⟨own7.own.frame fun b hb => x8 b (by have := (own7.own.lt hb).1; omega), own7.rng⟩
    clear_value H8
    refine ⟨by omega, ?_⟩
    simp -zeta only [Int.toNat_natCast]
    refine HCalls.mono (f115.spec φ _ _ _ _ H8 b8 (by omega)) ?_
    rintro v H9 ⟨A2, n2, c2, rfl, own9, k89⟩
    have l9 := own9.len
    rw [sealL_len, lk] at l9
    refine ⟨_, _, _, rfl, ?_⟩
    have hne : zs.length ≠ 0 := by omega
    have htk : zs.take 4096 = zs.take k := by
      by_cases q : ln ≤ 4096
      · rw [List.take_of_length_le (by omega), List.take_of_length_le (by omega)]
      · congr 1; omega
    have hdk : zs.drop 4096 = zs.drop k := by
      by_cases q : ln ≤ 4096
      · rw [List.drop_eq_nil_of_le (by omega), List.drop_eq_nil_of_le (by omega)]
      · congr 1; omega
    rw [pagesL_cons hne, htk, hdk] at hys
    have hlen2 := congrArg List.length hys
    simp only [List.length_append, sealL_len, lk] at hlen2
    refine app_bytes (own8.keeps k89) own9.row (by omega) (by have := k89.size; omega) ?_
    intro A3' c3' H10 w10 f10 _ _
    have rz2 := bytesR_part rz (i := k) (j := ln) (c := lc) (by omega) (by omega) hlc
    rw [List.take_of_length_le (by simp; omega)] at rz2
    have o9 := k89.obj o8
    refine ⟨_, _, _, rfl, by omega, ⟨by have := k89.size; have := f10.1; omega, f10.keeps (k48.trans k89) fun b hb => by have := (own7.own.lt hb).1; omega, ⟨spl cs (0 + 0) ((zs.take k).map (Value.int .u8)), ?_, ?_⟩, by omega, zs.drop k, ys ++ sealL (zs.take k), rz2, w10, by rw [← hys, List.append_assoc]⟩, by omega⟩
    · unfold objAt at o9 ⊢
      rw [f10.2 _ (objAt_lt (k89.obj o8)) (fun e => by have := (own7.own.lt e).1; omega)]; exact o9
    · rw [size_spl _ _ _ (by simp; omega)]; exact hcs
  · simp only [decide_eq_false_iff_not] at hi
    have hz : zs = [] := List.eq_nil_of_length_eq_zero (by omega)
    subst hz
    rw [pagesL_nil, List.append_nil] at hys
    intro H11
    have o11 : objAt H11 H7.size #[.int .u8 119, .int .u8 110, .int .u8 119, .int .u8 49] 5 := objAt_new ..
    have k11 : Keeps H7 H11 := Keeps.push ..
    have s11 : H11.size = H7.size + 1 := by simp [H11]
    clear_value H11
    refine ⟨H7.size, 0, _, _, _, rfl, o11, ?_⟩
    intro H12
    have b12 : bytesR H12 (some ⟨H7.size, 0, none⟩) 4 [119, 110, 119, 49] := by
      have hc : ∀ j, cel H12 H7.size j = (#[.int .u8 119, .int .u8 110, .int .u8 119, .int .u8 49] : Array Value)[j]? := fun j => by
        unfold objAt at o11
        simp [cel, H12, Array.getElem?_modify, o11, frzObj]
      refine ⟨rfl, fun i x hi => ⟨H7.size, 0, rfl, ?_⟩⟩
      match i, hi with
      | 0, hi => simp at hi; subst hi; exact ⟨hc 0, by omega, by omega⟩
      | 1, hi => simp at hi; subst hi; exact ⟨hc 1, by omega, by omega⟩
      | 2, hi => simp at hi; subst hi; exact ⟨hc 2, by omega, by omega⟩
      | 3, hi => simp at hi; subst hi; exact ⟨hc 3, by omega, by omega⟩
    have k712 : Keeps H7 H12 := ⟨by simp [H12]; omega, fun q hq => by
      have : H12[q]? = H11[q]? := by simp only [H12, Array.getElem?_modify]; rw [if_neg (by omega)]
      rw [this]; exact k11.old q hq⟩
    clear_value H12
    have w1 : IntKind.wrap .u64 (sumS xs) = sumS xs := by rw [wrap_u64]; omega
    have w2 : IntKind.wrap .u64 ((on : Nat) : Int) = on := by rw [wrap_u64]; omega
    rw [w1, w2]
    refine HCalls.mono (f116.spec φ (sumS xs) 8 H12 (by omega)) ?_
    rintro v H13 ⟨A4, n4, c4, rfl, own13, k1213⟩
    rw [fixB8] at own13
    have l13 := own13.len
    simp only [fixL, List.length_map, List.length_range] at l13
    refine ⟨_, _, _, rfl, ?_⟩
    refine app_full (b12.keeps isU8.mono k1213) own13.row (by omega) (by omega) ?_
    intro A5 c5 H14 own14 k1314
    refine ⟨_, _, _, rfl, ?_⟩
    refine HCalls.mono (f116.spec φ (on : Int) 8 H14 (by omega)) ?_
    rintro v H15 ⟨A6, n6, c6, rfl, own15, k1415⟩
    rw [fixB8] at own15
    have l15 := own15.len
    simp only [fixL, List.length_map, List.length_range] at l15
    refine ⟨_, _, _, rfl, ?_⟩
    have s13 := k1314.size
    have s14 := k1415.size
    refine app_bytes (own14.keeps k1415) own15.row (by omega) (by omega) ?_
    intro A7 c7 H16 own16 f16 _ _
    refine ⟨_, _, _, rfl, ?_⟩
    have l16 := own16.len
    have k715 := ((k712.trans k1213).trans k1314).trans k1415
    have k7_13 := (k712.trans k1213).size
    have k716 : Keeps H7 H16 := f16.keeps k715 fun b hb => by have := (own14.own.lt hb).1; omega
    refine HCalls.mono (f115.spec φ _ _ _ _ H16 own16.row (by omega)) ?_
    rintro v H17 ⟨A8, n8, c8, rfl, own17, k1617⟩
    have l17 := own17.len
    rw [sealL_len] at l17
    simp only [List.length_append, List.length_cons, List.length_nil, fixL, List.length_map, List.length_range] at l17
    refine ⟨_, _, _, rfl, ?_⟩
    have k717 := k716.trans k1617
    refine app_bytes (own7.keeps k717) own17.row (by omega) (by have := k717.size; omega) ?_
    intro A9 c9 H18 own18 f18 _ _
    refine ⟨_, _, _, rfl, _, _, _, rfl, ?_, k4.trans (f18.keeps (k47.trans k717) fun b hb => by have := (own7.own.lt hb).1; omega)⟩
    have s4 := k4.size
    have own19 := own18.base_le (base' := H.size) (by omega)
    have eq : ys ++ sealL ([119, 110, 119, 49] ++ fixL (sumS xs) 8 ++ fixL (on : Int) 8) = encL parts xs := by
      rw [← l7, hys]; rfl
    rw [eq] at own19
    exact own19
end Go.Proofs.Ytkkjjjgcfnhabaa.Eng
namespace Go.Proofs.Ytkkjjjgcfnhabaa.Eng
open Go Go.Proofs
/-! ### Tiles -/
structure Tl where
  kind : Int
  fr : Int
  to : Int
def encT (x : Tl) : List Value := [.int .i64 x.kind, .int .i64 x.fr, .int .i64 x.to]
def isT (H : Hp) (b o : Nat) (x : Tl) : Prop := cel H b o = some (.int .i64 x.kind) ∧ cel H b (o + 1) = some (.int .i64 x.fr) ∧ cel H b (o + 2) = some (.int .i64 x.to)
theorem isT.mono : Mono isT := fun _ _ _ _ _ k h => ⟨k.cel h.1, k.cel h.2.1, k.cel h.2.2⟩
theorem encT_one (x : Tl) : ∀ v ∈ encT x, v.oneCell' = true := by simp [encT, Value.oneCell']
theorem encT_is {H : Hp} {b o : Nat} {x : Tl} (h : ∀ r v, (encT x)[r]? = some v → cel H b (o + r) = some v) : isT H b o x := ⟨h 0 _ rfl, h 1 _ rfl, h 2 _ rfl⟩
abbrev ownT (H : Hp) (base : Nat) (A : Option Addr) (n c : Nat) (ts : List Tl) : Prop := ownC H base 90 3 A n c (ts.flatMap encT)
theorem ownT.len {H : Hp} {base : Nat} {A : Option Addr} {n c : Nat} {ts : List Tl} (h : ownT H base A n c ts) : ts.length = n := by
  have h1 := h.1
  have h2 := (flatMap_get encT 3 ts fun _ _ => rfl).1
  omega
theorem ownT.row {H : Hp} {base : Nat} {A : Option Addr} {n c : Nat} {ts : List Tl} (h : ownT H base A n c ts) : rowR isT 3 H A n ts :=
  ownC.row encT (fun _ => rfl) h (by decide) fun b o x _ hc => encT_is hc
theorem app86 {H : Hp} {base : Nat} {A : Option Addr} {n c : Nat} {ts : List Tl} (h : ownT H base A n c ts) {b d : Nat} {x : Tl} (o : objAt H b #[.int .i64 x.kind, .int .i64 x.fr, .int .i64 x.to] 90)
    (hn : n ≤ 5864062014804) (hbase : base ≤ H.size) {K : Value → Hp → Prop}
    (hK : ∀ A' c' H', ownT H' base A' (n + 1) c' (ts ++ [x]) → offA A H H' → (A' = A ∨ A' = some ⟨H.size, 0, none⟩) → K (.slice A' (n + 1) c') H') :
    appW cx 86 86 (.slice A n c) (.slice (some ⟨b, 0, none⟩) 1 d) H K := by
  have hs : rdC H (some ⟨b, 0, none⟩) (1 * 3) (encT x) := ⟨rfl, fun _ => ⟨b, 0, rfl, fun j v hv => by rw [Nat.zero_add, objAt_cel o]; simpa [encT] using hv⟩⟩
  refine app_own (i := ⟨86, .slc 90, 1, 24, [.slice none 0 0], [.slc], [(false, [.slc])], false⟩) (e := 90) (ie := ⟨90, .st [(0, 1, false), (1, 1, false), (2, 1, false)], 3, 24, [.int .i64 0, .int .i64 0, .int .i64 0], [.int .i64, .int .i64, .int .i64], [(true, [.int .i64, .int .i64, .int .i64])], false⟩) rfl rfl rfl rfl h (m := 1) (ys := encT x)
    (show srcC H 3 (.slice (some ⟨b, 0, none⟩) 1 d) 1 (encT x) from ⟨rfl, hs⟩) rfl (encT_one x) (by show (n + 1) * 24 ≤ _; omega) hbase ?_
  intro A' c' H' w f e1 _
  refine hK A' c' H' ?_ f e1
  unfold ownT
  rw [List.flatMap_append]
  simpa using w
/-- Kinds and lengths as tiles, one behind the other. -/
def tlL : Int → List (Int × Int) → List Tl
  | _, [] => []
  | a, p :: r => ⟨p.1, a, a + p.2⟩ :: tlL (a + p.2) r
def tlS : List (Int × Int) → Int
  | [] => 0
  | p :: r => p.2 + tlS r
theorem tlS_app (p q : List (Int × Int)) : tlS (p ++ q) = tlS p + tlS q := by
  induction p with
  | nil => simp [tlS]
  | cons a r ih => simp [tlS, ih]; omega
theorem tlL_app (p q : List (Int × Int)) (a : Int) : tlL a (p ++ q) = tlL a p ++ tlL (a + tlS p) q := by
  induction p generalizing a with
  | nil => simp [tlL, tlS]
  | cons x r ih => simp only [List.cons_append, tlL, ih, tlS]; rw [show a + x.2 + tlS r = a + (x.2 + tlS r) by omega]
theorem tlL_len (p : List (Int × Int)) (a : Int) : (tlL a p).length = p.length := by
  induction p generalizing a with
  | nil => rfl
  | cons x r ih => simp [tlL, ih]
theorem tlL_snoc (p : List (Int × Int)) (k n : Int) : tlL 0 (p ++ [(k, n)]) = tlL 0 p ++ [⟨k, tlS p, tlS p + n⟩] := by
  rw [tlL_app]; simp [tlL]
theorem tlS_snoc (p : List (Int × Int)) (k n : Int) : tlS (p ++ [(k, n)]) = tlS p + n := by
  rw [tlS_app]; simp [tlS]
/-! ### The closure that puts a tile -/
structure tlF (b b2 base : Nat) (H H' : Hp) : Prop where
  size : H.size ≤ H'.size
  old : ∀ k, k < base → k ≠ b → k ≠ b2 → H'[k]? = H[k]?
structure tlO (H : Hp) (b b2 base : Nat) (ps : List (Int × Int)) : Prop where
  sl : ∃ A c, objAt H b #[.slice A ps.length c] 86 ∧ ownT H base A ps.length c (tlL 0 ps)
  at_ : objAt H b2 #[.int .i64 (tlS ps)] 2
theorem tlF.refl (b b2 base : Nat) (H : Hp) : tlF b b2 base H H := ⟨Nat.le_refl _, fun _ _ _ _ => rfl⟩
theorem f121.spec (φ : Fx) (kind n : Int) (b b2 base : Nat) (ps : List (Int × Int)) (H : Hp) (h : tlO H b b2 base ps) (hb : b < base) (hb2 : b2 < base) (hne : b ≠ b2) (hbase : base ≤ H.size)
    (hl : ps.length ≤ 5864062014804) (h0 : -1152921504606846976 ≤ n ∧ n ≤ 1152921504606846976) (h1 : -1152921504606846976 ≤ tlS ps ∧ tlS ps ≤ 1152921504606846976) :
    HCalls cx.P φ 121 [.int .i64 kind, .int .i64 n, .pointer (some ⟨b, 0, none⟩), .pointer (some ⟨b2, 0, none⟩)] H fun r H' => r = .tuple #[] ∧ tlO H' b b2 base (ps ++ [(kind, n)]) ∧ tlF b b2 base H H' := by
  apply f121.of
  unfold f121.VC
  obtain ⟨⟨A, c, ob, own⟩, oa⟩ := h
  have e0 : cel H b 0 = some (.slice A ps.length c) := by rw [objAt_cel ob]; rfl
  have e1 : cel H b2 0 = some (.int .i64 (tlS ps)) := by rw [objAt_cel oa]; rfl
  simp -zeta only [xL e0, xI e1]
  refine ⟨by omega, ?_⟩
  intro H1
  have o1 : objAt H1 H.size #[.int .i64 kind, .int .i64 (tlS ps), .int .i64 (tlS ps + n)] 90 := objAt_new ..
  have k1 : Keeps H H1 := Keeps.push ..
  have s1 := k1.size
  clear_value H1
  refine app86 (x := ⟨kind, tlS ps, tlS ps + n⟩) (own.keeps k1) o1 hl (by omega) ?_
  intro A' c' H2 w2 f2 _
  have hA : ∀ q, A = some ⟨q, 0, none⟩ → base ≤ q := fun q hq => (own.lt hq).1
  have x2 : ∀ q, q < base → H2[q]? = H[q]? := fun q hq => by
    rw [f2.2 q (by omega) (fun e => by have := hA q e; omega)]; exact k1.old q (by omega)
  have ob2 : objAt H2 b #[.slice A ps.length c] 86 := by unfold objAt; rw [x2 b hb]; exact ob
  have oa2 : objAt H2 b2 #[.int .i64 (tlS ps)] 2 := by unfold objAt; rw [x2 b2 hb2]; exact oa
  have s2 := f2.1
  refine ⟨_, _, _, rfl, objAt_canPut ob2 (by simp) (by simp [Value.oneCell']), ?_⟩
  intro H3
  have x3 : ∀ q, q ≠ b → H3[q]? = H2[q]? := fun q hq => hput_other (fun e => hq e.symm)
  have s3 : H3.size = H2.size := hput_size ..
  have ob3 : objAt H3 b #[.slice A' (ps.length + 1) c'] 86 := by
    have := objAt_hput ob2 0 [Value.slice A' (ps.length + 1) c']
    simpa [spl] using this
  clear_value H3
  have oa3 : objAt H3 b2 #[.int .i64 (tlS ps)] 2 := by unfold objAt; rw [x3 b2 (fun e => hne e.symm)]; exact oa2
  have e3 : cel H3 b2 0 = some (.int .i64 (tlS ps)) := by rw [objAt_cel oa3]; rfl
  simp -zeta only [xI e3]
  refine ⟨by omega, objAt_canPut oa3 (by simp) (by simp [Value.oneCell']), ?_⟩
  intro H4
  have x4 : ∀ q, q ≠ b2 → H4[q]? = H3[q]? := fun q hq => hput_other (fun e => hq e.symm)
  have s4 : H4.size = H3.size := hput_size ..
  have oa4 : objAt H4 b2 #[.int .i64 (tlS ps + n)] 2 := by
    have := objAt_hput oa3 0 [Value.int .i64 (tlS ps + n)]
    simpa [spl] using this
  clear_value H4
  refine ⟨trivial, ⟨⟨A', c', ?_, ?_⟩, by rw [tlS_snoc]; exact oa4⟩, ⟨by omega, fun q hq h1 h2 => by rw [x4 q h2, x3 q h1, x2 q hq]⟩⟩
  · unfold objAt; rw [x4 b hne]; simpa [objAt] using ob3
  · rw [tlL_snoc, List.length_append]
    refine ownC.frame w2 fun q hq => ?_
    have := (w2.lt hq).1
    rw [x4 q (by omega), x3 q (by omega)]
theorem fit90 (a b c a2 b2 c2 : Int) : fitW cx 90 [.int .i64 a, .int .i64 b, .int .i64 c] [.int .i64 a2, .int .i64 b2, .int .i64 c2] = (((IntKind.i64 = IntKind.i64) ∧ (IntKind.i64 = IntKind.i64) ∧ (IntKind.i64 = IntKind.i64) ∧ True) ∧ ((IntKind.i64 = IntKind.i64) ∧ (IntKind.i64 = IntKind.i64) ∧ (IntKind.i64 = IntKind.i64) ∧ True)) := by kernel_rfl
theorem f52.same (φ : Fx) (A B : Option Addr) (n m c d : Nat) (xs : List Tl) (H : Hp) (hx : rowR isT 3 H A n xs) (hy : rowR isT 3 H B m xs) (hn : n ≤ 140737488351232) :
    HCalls cx.P φ 52 [.slice A n c, .slice B m d] H fun v H' => v = .bool true ∧ H' = H := by
  apply f52.of
  unfold f52.VC
  have hl : n = m := by rw [← hx.1, ← hy.1]
  subst hl
  refine ⟨fun h => by simp at h, fun _ => ?_⟩
  refine ⟨fun i H' => H' = H ∧ 0 ≤ i ∧ i ≤ n, fun i _ => (n - i).toNat, ⟨rfl, by omega, by omega⟩, ?_⟩
  rintro i _ H' ⟨rfl, h0, h1⟩
  refine ⟨fun hi => ?_, fun hi => ⟨rfl, rfl⟩⟩
  simp only [decide_eq_true_eq] at hi
  obtain ⟨x, b, o, hx1, rfl, s0, s1, s2⟩ := hx.at h0 hi
  obtain ⟨y, b2, o2, hy1, rfl, t0, t1, t2⟩ := hy.at h0 hi
  rw [hx1] at hy1; cases hy1
  simp only [xA, xI s0, xI s1, xI s2, xI t0, xI t1, xI t2, fit90]
  simp
  omega
end Go.Proofs.Ytkkjjjgcfnhabaa.Eng
namespace Go.Proofs.Ytkkjjjgcfnhabaa.Eng
open Go Go.Proofs
def blkPs (bs : List Blk) : List (Int × Int) := bs.map fun b => (0, b.st + 5)
def infPs : List PI → List (Int × Int)
  | [] => []
  | p :: r => blkPs p.bs ++ infPs r
def pagePs (left : Int) : List (Int × Int) := if h : 0 < left then (1, min left 4100) :: pagePs (left - min left 4100) else []
termination_by left.toNat
theorem pagePs_cons {left : Int} (h : 0 < left) : pagePs left = (1, min left 4100) :: pagePs (left - min left 4100) := by rw [pagePs, dif_pos h]
theorem pagePs_nil {left : Int} (h : ¬ 0 < left) : pagePs left = [] := by rw [pagePs, dif_neg h]
theorem pagePs_bd (left : Int) : ((pagePs left).length : Int) ≤ max left 0 ∧ tlS (pagePs left) = max left 0 := by
  induction left using pagePs.induct with
  | case1 left h ih =>
    rw [pagePs_cons h]
    simp only [List.length_cons, tlS] at ih ⊢
    omega
  | case2 left h => rw [pagePs_nil h]; simp [tlS]; omega
theorem blkPs_bd (bs : List Blk) : (blkPs bs).length = bs.length ∧ tlS (blkPs bs) = sumSB bs := by
  induction bs with
  | nil => simp [blkPs, tlS, sumSB]
  | cons b r ih =>
    refine ⟨by simp [blkPs], ?_⟩
    have e : tlS (blkPs (b :: r)) = b.st + 5 + tlS (blkPs r) := rfl
    rw [e, ih.2, sumSB]
theorem infPs_bd (xs : List PI) : ((infPs xs).length : Int) = sumB xs ∧ tlS (infPs xs) = sumS xs := by
  induction xs with
  | nil => simp [infPs, tlS, sumS, sumB]
  | cons p r ih =>
    have := blkPs_bd p.bs
    simp only [infPs, List.length_append, tlS_app, sumS, sumB]; omega
def nonnegP (ps : List (Int × Int)) : Prop := ∀ p ∈ ps, 0 ≤ p.2
theorem tlS_nonneg : ∀ (ps : List (Int × Int)), nonnegP ps → 0 ≤ tlS ps
  | [], _ => by simp [tlS]
  | p :: r, h => by
    have := tlS_nonneg r fun x hx => h x (List.mem_cons_of_mem _ hx)
    have := h p List.mem_cons_self
    simp only [tlS]; omega
theorem pagePs_nn (left : Int) : nonnegP (pagePs left) := by
  induction left using pagePs.induct with
  | case1 left h ih =>
    rw [pagePs_cons h]
    intro p hp
    rcases List.mem_cons.1 hp with e | e
    · subst e; dsimp only; omega
    · exact ih p e
  | case2 left h => rw [pagePs_nil h]; intro p hp; simp at hp
theorem infPs_nn (xs : List PI) (h : ∀ x ∈ xs, ∀ b ∈ x.bs, 1 ≤ b.st ∧ b.st ≤ 65536) : nonnegP (infPs xs) := by
  induction xs with
  | nil => intro p hp; simp [infPs] at hp
  | cons x r ih =>
    intro p hp
    simp only [infPs, List.mem_append] at hp
    rcases hp with hp | hp
    · obtain ⟨b, hb, rfl⟩ := List.mem_map.1 hp
      have := h x List.mem_cons_self b hb
      dsimp only; omega
    · exact ih (fun y hy => h y (List.mem_cons_of_mem _ hy)) p hp
/-- The pairs of a right footer's tiles, its bytes being so many. -/
def tilPs (xs : List PI) (m : Int) : List (Int × Int) := infPs xs ++ pagePs (m - 24) ++ [(2, 24)]
def tilesL (parts : Int) (xs : List PI) : List Tl := if (encRes parts xs).2 = 0 then tlL 0 (tilPs xs (encRes parts xs).1.length) else []
theorem encRes_ok {parts : Int} {xs : List PI} (h : (encRes parts xs).2 = 0) : encOK xs ∧ sumB xs ≤ 262144 ∧ 0 ≤ sumS xs ∧ sumS xs ≤ 268435456 ∧ (encRes parts xs).1.length ≤ 83886104 ∧ xs.length ≤ 65535 := by
  unfold encRes at h ⊢
  cases hf : footRight parts xs with
  | false => rw [hf] at h; simp at h
  | true =>
    obtain ⟨ok, hB, hx, hs⟩ := bodyL_len hf
    have := sumS_bd xs ok.st
    rw [hf] at h
    simp only [if_true] at h ⊢
    by_cases q : 16777216 < (bodyL parts xs).length ∨ 268435456 < sumS xs
    · rw [if_pos q] at h; simp at h
    · rw [if_neg q]
      have hp := pagesL_len (bodyL parts xs)
      refine ⟨ok, hs, this.1, by omega, ?_, hx⟩
      simp only [encL, List.length_append, sealL_len, fixL, List.length_map, List.length_range, List.length_cons, List.length_nil]; omega
theorem tlF.keeps {b b2 base : Nat} {G H H' : Hp} (h : tlF b b2 base H H') (k : Keeps G H) (h1 : G.size ≤ b) (h2 : G.size ≤ b2) (h3 : G.size ≤ base) : Keeps G H' :=
  ⟨Nat.le_trans k.size h.size, fun q hq => by rw [h.old q (by omega) (by omega) (by omega)]; exact k.old q hq⟩
theorem tlO.keeps {H H' : Hp} {b b2 base : Nat} {ps : List (Int × Int)} (h : tlO H b b2 base ps) (k : Keeps H H') : tlO H' b b2 base ps := by
  obtain ⟨⟨A, c, h1, h2⟩, h3⟩ := h
  exact ⟨⟨A, c, k.obj h1, h2.keeps k⟩, k.obj h3⟩
theorem mem_drop_at {α : Type} {l : List α} {i : Nat} {x : α} (h : l[i]? = some x) : x ∈ l := List.mem_iff_getElem?.2 ⟨i, h⟩
theorem f50.spec (φ : Fx) (parts : Int) (A : Option Addr) (n c : Nat) (xs : List PI) (H : Hp) (hr : rowR isPI 5 H A n xs) (hn : n ≤ 140737488351232) :
    HCalls cx.P φ 50 [.agg #[.int .i64 parts, .slice A n c]] H fun r H' => ∃ A' m c', r = .slice A' m c' ∧ ownT H' H.size A' m c' (tilesL parts xs) ∧ Keeps H H' := by
  apply f50.of
  unfold f50.VC
  intro H1
  have e0 : cel H1 H.size 0 = some (.int .i64 parts) := cel_new ..
  have e1 : cel H1 H.size (0 + 1) = some (.slice A n c) := cel_new ..
  have k1 : Keeps H H1 := Keeps.push ..
  clear_value H1
  simp -zeta only [xI e0, xL e1]
  refine HCalls.mono (f47.spec φ parts A n c xs H1 (hr.keeps isPI.mono k1) hn) ?_
  rintro v H2 ⟨A2, m, c2, rfl, own2, k12⟩
  have k2 := k1.trans k12
  have lm := own2.len
  refine ⟨_, _, _, _, rfl, fun h => ?_, fun h => ?_⟩
  · have : ¬ (encRes parts xs).2 = 0 := by simpa using h
    refine ⟨none, 0, 0, rfl, ?_, k2⟩
    rw [tilesL, if_neg this]; exact ownC_nil ..
  have hz : (encRes parts xs).2 = 0 := by simpa using h
  obtain ⟨ok, hsB, hs0, hs1, hel, hxl⟩ := encRes_ok hz
  have nn := infPs_nn xs ok.st
  obtain ⟨ib1, ib2⟩ := infPs_bd xs
  intro H3
  have o3 : objAt H3 H2.size #[.slice none 0 0] 86 := objAt_new ..
  have k23 : Keeps H2 H3 := Keeps.push ..
  have s3 : H3.size = H2.size + 1 := by simp [H3]
  clear_value H3
  intro H4
  have o4 : objAt H4 H3.size #[.int .i64 0] 2 := objAt_new ..
  have k34 : Keeps H3 H4 := Keeps.push ..
  have s4 : H4.size = H3.size + 1 := by simp [H4]
  clear_value H4
  refine ⟨objAt_canPut o4 (by simp) (by simp [Value.oneCell']), ?_⟩
  intro H5
  have k25 : Keeps H2 H5 := (k23.trans k34).hput (by omega)
  have s5 : H5.size = H4.size := hput_size ..
  have o5 : objAt H5 H3.size #[.int .i64 0] 2 := by
    have := objAt_hput o4 0 [Value.int .i64 0]
    simpa [spl] using this
  have o53 : objAt H5 H2.size #[.slice none 0 0] 86 := by
    have : H5[H2.size]? = H4[H2.size]? := hput_other (by omega)
    unfold objAt; rw [this]; exact k34.obj o3
  clear_value H5
  have tl5 : tlO H5 H2.size H3.size H5.size [] := ⟨⟨none, 0, o53, ownC_nil ..⟩, o5⟩
  have row2 := hr.keeps isPI.mono k2
  simp -zeta only [xL (k25.cel (k12.cel e1))]
  refine ⟨fun i H' => Keeps H2 H' ∧ H5.size ≤ H'.size ∧ 0 ≤ i ∧ i ≤ n ∧ ∃ ps, tlO H' H2.size H3.size H5.size ps ∧ ps ++ infPs (xs.drop i.toNat) = infPs xs, fun i _ => (n - i).toNat,
    ⟨k25, Nat.le_refl _, by omega, by omega, [], tl5, by simp⟩, ?_⟩
  rintro i _ H6 ⟨k26, s56, h0, h1, ps, tl6, hps⟩
  have hl := hr.1
  refine ⟨fun hi => ?_, fun hi => ?_⟩
  · simp only [decide_eq_true_eq] at hi
    obtain ⟨x, b, o, hx, rfl, BA, Bn, Bc, DA, Dn, Dc, c0, c1, c2', c3, c4, rb, rd, bn, dn⟩ := row2.at h0 hi
    rw [drop_at hx, infPs] at hps
    simp -zeta only [xA, xI (k26.cel c0), xL (k26.cel c1), xB (k26.cel c2'), xI (k26.cel c3), xL (k26.cel c4)]
    refine ⟨⟨h0, hi⟩, ?_⟩
    intro H7
    refine ⟨canPut_new _ _ _ _ _ (by simp) (by simp [Value.oneCell']), ?_⟩
    intro H8
    have hH8 : H8 = H6.push (.cells #[.int .i64 x.part, .slice BA Bn Bc, .bool x.all, .int .i64 x.hs, .slice DA Dn Dc] 146 (0, 0)) := hput_new _ _ _ _ _ (by simp)
    have d1 : cel H8 H6.size (0 + 1) = some (.slice BA Bn Bc) := by rw [hH8]; exact cel_new ..
    have k68 : Keeps H6 H8 := by rw [hH8]; exact Keeps.push ..
    clear hH8
    clear_value H8 H7
    simp -zeta only [xL d1]
    have k28 := k26.trans k68
    have hxm := mem_drop_at hx
    refine ⟨fun k H' => Keeps H2 H' ∧ H5.size ≤ H'.size ∧ 0 ≤ k ∧ k ≤ Bn ∧ ∃ ps, tlO H' H2.size H3.size H5.size ps ∧ ps ++ (blkPs (x.bs.drop k.toNat) ++ infPs (xs.drop (i.toNat + 1))) = infPs xs, fun k _ => (Bn - k).toNat,
      ⟨k28, by have := k68.size; omega, by omega, by omega, ps, tl6.keeps k68, by simpa using hps⟩, ?_⟩
    rintro k _ H9 ⟨k29, s59, hk0, hk1, ps2, tl9, hps2⟩
    refine ⟨fun hk => ?_, fun hk => ?_⟩
    · simp only [decide_eq_true_eq] at hk
      obtain ⟨y, b2, o2, hy2, rfl, s0, s1, s2, s3', s4'⟩ := (rb.keeps isBlk.mono k29).at hk0 hk
      rw [drop_at hy2] at hps2
      simp -zeta only [xA, xI s0, xI s1, xI s2, xS s3']
      refine ⟨⟨hk0, hk⟩, ?_⟩
      intro H10
      refine ⟨canPut_new _ _ _ _ _ (by simp) (by simp [Value.oneCell']), ?_⟩
      intro H11
      have hG : H11 = H9.push (.cells #[.int .i64 y.st, .int .i64 y.raw, .int .i64 y.cnt, .string y.cut] 150 (0, 0)) := hput_new _ _ _ _ _ (by simp)
      have q0 : cel H11 H9.size 0 = some (.int .i64 y.st) := by rw [hG]; exact cel_new ..
      have k911 : Keeps H9 H11 := by rw [hG]; exact Keeps.push ..
      clear hG
      clear_value H11 H10
      simp -zeta only [xI q0]
      have hb := ok.st x hxm y (mem_drop_at hy2)
      have hlen := congrArg List.length hps2
      have hsum := congrArg tlS hps2
      simp only [List.length_append, tlS_app] at hlen hsum
      have nnp : nonnegP ps2 := fun p hp => nn p (by rw [← hps2]; exact List.mem_append_left _ hp)
      have nnq : nonnegP (blkPs (y :: x.bs.drop (k.toNat + 1)) ++ infPs (xs.drop (i.toNat + 1))) := fun p hp => nn p (by rw [← hps2]; exact List.mem_append_right _ hp)
      have q1 := tlS_nonneg _ nnp
      have q2 := tlS_nonneg _ nnq
      rw [tlS_app] at q2
      have s911 := k911.size
      refine ⟨by omega, HCalls.mono (f121.spec φ 0 (y.st + 5) H2.size H3.size H5.size ps2 H11 (tl9.keeps k911) (by omega) (by omega) (by omega) (by omega) (by omega) (by omega) (by omega)) ?_⟩
      rintro v H12 ⟨rfl, tl12, f12⟩
      have k212 := f12.keeps (k29.trans k911) (by omega) (by omega) (by omega)
      refine ⟨rfl, by omega, ⟨k212, by have := f12.size; omega, by omega, by omega, ps2 ++ [(0, y.st + 5)], tl12, ?_⟩, by omega⟩
      rw [show (k + 1).toNat = k.toNat + 1 by omega, ← hps2]
      simp [blkPs]
    · simp only [decide_eq_false_iff_not] at hk
      have hd : x.bs.drop k.toNat = [] := List.drop_eq_nil_of_le (by rw [rb.1]; omega)
      rw [hd] at hps2
      refine ⟨by omega, ⟨k29, s59, by omega, by omega, ps2, tl9, ?_⟩, by omega⟩
      rw [show (i + 1).toNat = i.toNat + 1 by omega]; simpa [blkPs] using hps2
  · simp only [decide_eq_false_iff_not] at hi
    have hd : xs.drop i.toNat = [] := List.drop_eq_nil_of_le (by omega)
    rw [hd, infPs, List.append_nil] at hps
    subst hps
    obtain ⟨pb1, pb2⟩ := pagePs_bd ((m : Int) - 24)
    refine ⟨by omega, ?_⟩
    refine ⟨fun left H' => Keeps H2 H' ∧ H5.size ≤ H'.size ∧ left ≤ (m : Int) - 24 ∧ ∃ ps, tlO H' H2.size H3.size H5.size ps ∧ ps ++ pagePs left = infPs xs ++ pagePs ((m : Int) - 24), fun left _ => left.toNat,
      ⟨k26, s56, by omega, infPs xs, tl6, rfl⟩, ?_⟩
    rintro left _ H13 ⟨k213, s13, hle, ps3, tl13, hps3⟩
    have hlen := congrArg List.length hps3
    have hsum := congrArg tlS hps3
    simp only [List.length_append, tlS_app] at hlen hsum
    obtain ⟨lb1, lb2⟩ := pagePs_bd left
    have nnp : nonnegP ps3 := fun p hp => by
      have : p ∈ infPs xs ++ pagePs ((m : Int) - 24) := by rw [← hps3]; exact List.mem_append_left _ hp
      rcases List.mem_append.1 this with q | q
      · exact nn p q
      · exact pagePs_nn _ p q
    have q1 := tlS_nonneg _ nnp
    refine ⟨fun hlt => ?_, fun hlt => ?_⟩
    · simp only [decide_eq_true_eq] at hlt
      rw [pagePs_cons hlt] at hps3
      refine HCalls.mono (f121.spec φ 1 (min left 4100) H2.size H3.size H5.size ps3 H13 tl13 (by omega) (by omega) (by omega) (by omega) (by omega) (by omega) (by omega)) ?_
      rintro v H14 ⟨rfl, tl14, f14⟩
      have k214 := f14.keeps k213 (by omega) (by omega) (by omega)
      exact ⟨rfl, by omega, ⟨k214, by have := f14.size; omega, by omega, ps3 ++ [(1, min left 4100)], tl14, by rw [← hps3]; simp⟩, by dsimp only; omega⟩
    · simp only [decide_eq_false_iff_not] at hlt
      rw [pagePs_nil hlt, List.append_nil] at hps3
      subst hps3
      refine HCalls.mono (f121.spec φ 2 24 H2.size H3.size H5.size _ H13 tl13 (by omega) (by omega) (by omega) (by omega) (by rw [List.length_append]; omega) (by omega) (by rw [tlS_app]; omega)) ?_
      rintro v H15 ⟨rfl, tl15, f15⟩
      have k215 := f15.keeps k213 (by omega) (by omega) (by omega)
      obtain ⟨⟨A5, c5, ob, own⟩, _⟩ := tl15
      have e : cel H15 H2.size 0 = some (.slice A5 (infPs xs ++ pagePs (m - 24) ++ [(2, 24)]).length c5) := by rw [objAt_cel ob]; rfl
      simp -zeta only [xL e]
      refine ⟨trivial, _, _, _, rfl, ?_, k2.trans k215⟩
      have s2 := k2.size
      rw [tilesL, if_pos hz, lm]
      exact ownC.base_le own (by omega)
end Go.Proofs.Ytkkjjjgcfnhabaa.Eng
namespace Go.Proofs.Ytkkjjjgcfnhabaa.Eng
open Go Go.Proofs
/-- A tile put behind owned ones. -/
theorem put_tl {H : Hp} {base : Nat} {A : Option Addr} {n c : Nat} {ps : List (Int × Int)} (own : ownT H base A n c (tlL 0 ps)) (hn : n ≤ 5864062014804) (hbase : base ≤ H.size) (k v : Int) {H1 : Hp} (k1 : Keeps H H1)
    (o1 : objAt H1 H.size #[.int .i64 k, .int .i64 (tlS ps), .int .i64 (tlS ps + v)] 90) {K : Value → Hp → Prop}
    (hK : ∀ A' c' H', ownT H' base A' (n + 1) c' (tlL 0 (ps ++ [(k, v)])) → (∀ G, Keeps G H → G.size ≤ base → Keeps G H') → H.size ≤ H'.size → K (.slice A' (n + 1) c') H') :
    appW cx 86 86 (.slice A n c) (.slice (some ⟨H.size, 0, none⟩) 1 1) H1 K := by
  refine app86 (x := ⟨k, tlS ps, tlS ps + v⟩) (own.keeps k1) o1 hn (by have := k1.size; omega) ?_
  intro A' c' H' w f _
  refine hK A' c' H' (by rw [tlL_snoc]; exact w) (fun G g hg => f.keeps (g.trans k1) fun b hb => by have := (own.lt hb).1; omega) (by have := k1.size; have := f.1; omega)
theorem f51.spec (φ : Fx) (parts : Int) (A : Option Addr) (n c : Nat) (xs : List PI) (H : Hp) (hr : rowR isPI 5 H A n xs) (hn : n ≤ 140737488351232) :
    HCalls cx.P φ 51 [.agg #[.int .i64 parts, .slice A n c]] H fun r H' => ∃ A' m c', r = .slice A' m c' ∧ ownT H' H.size A' m c' (tilesL parts xs) ∧ Keeps H H' := by
  apply f51.of
  unfold f51.VC
  intro H1
  have e0 : cel H1 H.size 0 = some (.int .i64 parts) := cel_new ..
  have e1 : cel H1 H.size (0 + 1) = some (.slice A n c) := cel_new ..
  have k1 : Keeps H H1 := Keeps.push ..
  clear_value H1
  simp -zeta only [xI e0, xL e1]
  refine HCalls.mono (f48.spec φ parts A n c xs H1 (hr.keeps isPI.mono k1) hn) ?_
  rintro v H2 ⟨A2, m, c2, rfl, own2, k12⟩
  have k2 := k1.trans k12
  have lm := own2.len
  refine ⟨_, _, _, _, rfl, fun h => ?_, fun h => ?_⟩
  · have : ¬ (encRes parts xs).2 = 0 := by simpa using h
    refine ⟨none, 0, 0, rfl, ?_, k2⟩
    rw [tilesL, if_neg this]; exact ownC_nil ..
  have hz : (encRes parts xs).2 = 0 := by simpa using h
  obtain ⟨ok, hsB, hs0, hs1, hel, hxl⟩ := encRes_ok hz
  have nn := infPs_nn xs ok.st
  obtain ⟨ib1, ib2⟩ := infPs_bd xs
  have e1 := k12.cel e1
  have row2 := hr.keeps isPI.mono k2
  have hl := hr.1
  refine ⟨fun lA ln lc at_ i H' => Keeps H2 H' ∧ 0 ≤ i ∧ i ≤ n ∧ ∃ ps, ownT H' H2.size lA ln lc (tlL 0 ps) ∧ at_ = tlS ps ∧ ps ++ infPs (xs.drop i.toNat) = infPs xs, fun _ _ _ _ i _ => (n - i).toNat,
    ⟨Keeps.refl _, by omega, by omega, [], ownC_nil .., rfl, by simp⟩, ?_⟩
  rintro lA ln lc at_ i _ H3 ⟨k23, h0, h1, ps, own3, rfl, hps⟩
  simp -zeta only [xL (k23.cel e1)]
  refine ⟨fun hi => ?_, fun hi => ?_⟩
  · simp only [decide_eq_true_eq] at hi
    obtain ⟨x, b, o, hx, rfl, BA, Bn, Bc, DA, Dn, Dc, c0, c1, c2', c3, c4, rb, rd, bn, dn⟩ := row2.at h0 hi
    rw [drop_at hx, infPs] at hps
    have hxm := mem_drop_at hx
    refine ⟨fun lA ln lc at_ k H' => Keeps H2 H' ∧ 0 ≤ k ∧ k ≤ Bn ∧ ∃ ps, ownT H' H2.size lA ln lc (tlL 0 ps) ∧ at_ = tlS ps ∧ ps ++ (blkPs (x.bs.drop k.toNat) ++ infPs (xs.drop (i.toNat + 1))) = infPs xs, fun _ _ _ _ k _ => (Bn - k).toNat,
      ⟨k23, by omega, by omega, ps, own3, rfl, by simpa using hps⟩, ?_⟩
    rintro lA2 ln2 lc2 at_2 k _ H4 ⟨k24, hk0, hk1, ps2, own4, rfl, hps2⟩
    simp -zeta only [xL (k24.cel e1), xA, xL (k24.cel c1)]
    refine ⟨⟨h0, hi⟩, fun hk => ?_, fun hk => ?_⟩
    · simp only [decide_eq_true_eq] at hk
      obtain ⟨y, b2, o2, hy2, rfl, s0, s1, s2, s3', s4'⟩ := (rb.keeps isBlk.mono k24).at hk0 hk
      rw [drop_at hy2] at hps2
      simp -zeta only [xA, xI s0]
      have hb := ok.st x hxm y (mem_drop_at hy2)
      have hlen := congrArg List.length hps2
      have hsum := congrArg tlS hps2
      simp only [List.length_append, tlS_app] at hlen hsum
      have nnp : nonnegP ps2 := fun p hp => nn p (by rw [← hps2]; exact List.mem_append_left _ hp)
      have nnq : nonnegP (blkPs (y :: x.bs.drop (k.toNat + 1)) ++ infPs (xs.drop (i.toNat + 1))) := fun p hp => nn p (by rw [← hps2]; exact List.mem_append_right _ hp)
      have q1 := tlS_nonneg _ nnp
      have q2 := tlS_nonneg _ nnq
      rw [tlS_app] at q2
      have hl4 := own4.len
      rw [tlL_len] at hl4
      refine ⟨⟨h0, hi⟩, ⟨hk0, hk⟩, by omega, by omega, ?_⟩
      intro H5
      have o5 : objAt H5 H4.size #[.int .i64 0, .int .i64 (tlS ps2), .int .i64 (tlS ps2 + (y.st + 5))] 90 := objAt_new ..
      have k45 : Keeps H4 H5 := Keeps.push ..
      clear_value H5
      refine put_tl own4 (by omega) (by have := k24.size; omega) 0 (y.st + 5) k45 o5 ?_
      intro A6 c6 H6 own6 k6 s6
      refine ⟨_, _, _, rfl, by omega, by omega, ⟨k6 H2 k24 (Nat.le_refl _), by omega, by omega, _, own6, by rw [tlS_snoc], ?_⟩, by omega⟩
      rw [show (k + 1).toNat = k.toNat + 1 by omega, ← hps2]
      simp [blkPs]
    · simp only [decide_eq_false_iff_not] at hk
      have hd : x.bs.drop k.toNat = [] := List.drop_eq_nil_of_le (by rw [rb.1]; omega)
      rw [hd] at hps2
      refine ⟨by omega, ⟨k24, by omega, by omega, ps2, own4, rfl, ?_⟩, by omega⟩
      rw [show (i + 1).toNat = i.toNat + 1 by omega]; simpa [blkPs] using hps2
  · simp only [decide_eq_false_iff_not] at hi
    have hd : xs.drop i.toNat = [] := List.drop_eq_nil_of_le (by omega)
    rw [hd, infPs, List.append_nil] at hps
    subst hps
    obtain ⟨pb1, pb2⟩ := pagePs_bd ((m : Int) - 24)
    refine ⟨by omega, ?_⟩
    refine ⟨fun lA ln lc at_ left H' => Keeps H2 H' ∧ left ≤ (m : Int) - 24 ∧ ∃ ps, ownT H' H2.size lA ln lc (tlL 0 ps) ∧ at_ = tlS ps ∧ ps ++ pagePs left = infPs xs ++ pagePs ((m : Int) - 24), fun _ _ _ _ left _ => left.toNat,
      ⟨k23, by omega, infPs xs, own3, rfl, rfl⟩, ?_⟩
    rintro lA3 ln3 lc3 at_3 left _ H7 ⟨k27, hle, ps3, own7, rfl, hps3⟩
    have hlen := congrArg List.length hps3
    have hsum := congrArg tlS hps3
    simp only [List.length_append, tlS_app] at hlen hsum
    obtain ⟨lb1, lb2⟩ := pagePs_bd left
    have nnp : nonnegP ps3 := fun p hp => by
      have : p ∈ infPs xs ++ pagePs ((m : Int) - 24) := by rw [← hps3]; exact List.mem_append_left _ hp
      rcases List.mem_append.1 this with q | q
      · exact nn p q
      · exact pagePs_nn _ p q
    have q1 := tlS_nonneg _ nnp
    have hl7 := own7.len
    rw [tlL_len] at hl7
    refine ⟨fun hlt => ?_, fun hlt => ?_⟩
    · simp only [decide_eq_true_eq] at hlt
      rw [pagePs_cons hlt] at hps3
      refine join1 (min left 4100) H7 ?_ ?_
      · refine ⟨fun q => ⟨?_, rfl⟩, fun q => ⟨?_, rfl⟩⟩ <;> simp only [decide_eq_true_eq, decide_eq_false_iff_not] at q <;> omega
      intro _
      refine ⟨by omega, ?_⟩
      intro H9
      have o9 : objAt H9 H7.size #[.int .i64 1, .int .i64 (tlS ps3), .int .i64 (tlS ps3 + (min left 4100))] 90 := objAt_new ..
      have k79 : Keeps H7 H9 := Keeps.push ..
      clear_value H9
      refine put_tl own7 (by omega) (by have := k27.size; omega) 1 (min left 4100) k79 o9 ?_
      intro A10 c10 H10 own10 k10 s10
      exact ⟨_, _, _, rfl, by omega, by omega, ⟨k10 H2 k27 (Nat.le_refl _), by omega, _, own10, by rw [tlS_snoc], by rw [← hps3]; simp⟩, by dsimp only; omega⟩
    · simp only [decide_eq_false_iff_not] at hlt
      rw [pagePs_nil hlt, List.append_nil] at hps3
      subst hps3
      refine ⟨by omega, ?_⟩
      intro H11
      have o11 : objAt H11 H7.size #[.int .i64 2, .int .i64 (tlS (infPs xs ++ pagePs ((m : Int) - 24))), .int .i64 (tlS (infPs xs ++ pagePs ((m : Int) - 24)) + 24)] 90 := objAt_new ..
      have k711 : Keeps H7 H11 := Keeps.push ..
      clear_value H11
      refine put_tl own7 (by omega) (by have := k27.size; omega) 2 24 k711 o11 ?_
      intro A12 c12 H12 own12 k12' s12
      refine ⟨_, _, _, rfl, _, _, _, rfl, ?_, k2.trans (k12' H2 k27 (Nat.le_refl _))⟩
      have s2 := k2.size
      rw [tilesL, if_pos hz, lm]
      exact ownC.base_le own12 (by omega)
end Go.Proofs.Ytkkjjjgcfnhabaa.Eng
namespace Go.Proofs.Ytkkjjjgcfnhabaa.Eng
open Go Go.Proofs
theorem f54.spec (φ : Fx) (A : Option Addr) (n c m : Nat) (H : Hp) (hr : bytesR H A n (List.replicate m 51 ++ List.replicate 64 52)) (hn : n ≤ 140737488355328) :
    HCalls cx.P φ 54 [.slice A n c, .int .i64 (m : Int)] H fun v H' => v = .bool true ∧ H' = H := by
  apply f54.of
  unfold f54.VC
  have hl := hr.1
  simp only [List.length_append, List.length_replicate] at hl
  refine ⟨fun i H' => H' = H ∧ 0 ≤ i ∧ i ≤ n, fun i _ => (n - i).toNat, ⟨rfl, by omega, by omega⟩, ?_⟩
  rintro i _ H' ⟨rfl, h0, h1⟩
  refine ⟨fun hi => ?_, fun hi => ?_⟩
  · simp only [decide_eq_true_eq] at hi
    obtain ⟨x, b, o, hx, rfl, cx, _⟩ := hr.at h0 hi
    refine join1 false H' ?_ ?_
    · simp only [xA, xI cx]
      by_cases q : i < m
      · rw [List.getElem?_append_left (by simp; omega), List.getElem?_replicate, if_pos (by omega)] at hx
        simp at hx; subst hx
        simp [q]; omega
      · rw [List.getElem?_append_right (by simp; omega), List.getElem?_replicate, if_pos (by simp; omega)] at hx
        simp at hx; subst hx
        simp [q]; omega
    intro _
    exact ⟨fun h => (nomatch h), fun _ => ⟨by omega, ⟨rfl, by omega, by omega⟩, by dsimp only; omega⟩⟩
  · refine ⟨by omega, ?_, rfl⟩
    rw [decide_eq_true (by omega)]
/-- The first block's count is another one. -/
def cnt0 (v : Int) : List PI → List PI
  | x :: r => { x with bs := match x.bs with | y :: br => { y with cnt := v } :: br | [] => [] } :: r
  | [] => []
theorem cnt0_len (v : Int) (xs : List PI) : (cnt0 v xs).length = xs.length := by cases xs <;> rfl
theorem Tws.cnt {H : Hp} {base : Nat} {x : PI} {xr : List PI} {rs : List RPI} {r : RPI} {y : Blk} {br : List Blk} (v : Int) (h : Tws H base (x :: xr) rs) (hr : rs[0]? = some r) (hy : x.bs = y :: br) :
    Tws (hput H r.bb (0 + 0 * 4 + 2) [.int .i64 v]) base (cnt0 v (x :: xr)) rs where
  len := by rw [h.len, cnt0_len]
  ord := h.ord
  each := by
    intro j z s hz hs
    have ti := h.each 0 x r rfl hr
    have eBn : r.Bn = br.length + 1 := by rw [ti.Bn, hy]; rfl
    cases j with
    | zero =>
      rw [hr] at hs; cases hs
      simp only [cnt0, hy, List.getElem?_cons_zero, Option.some.injEq] at hz
      subst hz
      have hbo := own_put ti.bo (o := 0 + 0 * 4 + 2) (ws := [.int .i64 v]) (by simp; omega)
      have e : lspl ((x.bs ++ [markB]).flatMap encB) (0 + 0 * 4 + 2) [.int .i64 v] = ((({ y with cnt := v } : Blk) :: br) ++ [markB]).flatMap encB := by
        rw [hy]; simp [lspl, encB]
      have hbo2 : ownC (hput H r.bb (0 + 0 * 4 + 2) [.int .i64 v]) base 150 4 (some ⟨r.bb, 0, none⟩) (r.Bn + 1) r.Bc (((({ y with cnt := v } : Blk) :: br) ++ [markB]).flatMap encB) := by
        rw [← e]; exact hbo
      have hd : ownC (hput H r.bb (0 + 0 * 4 + 2) [.int .i64 v]) base 5 1 (some ⟨r.db, 0, none⟩) (r.Dn + 2) r.Dc ((x.data ++ [209, 210]).flatMap encU) :=
        ti.dO.off ti.bo (by decide) ⟨by rw [hput_size]; exact Nat.le_refl _, fun q hq hne => hput_other fun e => hne (by rw [e])⟩
      exact { part := ti.part, all := ti.all, hs := ti.hs, Bn := by rw [eBn]; rfl, Dn := ti.Dn, bo := hbo2, dO := hd, u8 := ti.u8, bnd := ti.bnd
              cuts := fun z hz => by
                rcases List.mem_cons.1 hz with q | q
                · subst q; exact ti.cuts y (by rw [hy]; exact List.mem_cons_self)
                · exact ti.cuts z (by rw [hy]; exact List.mem_cons_of_mem _ q) }
    | succ j =>
      have tj := h.each (j + 1) z s (by simpa [cnt0] using hz) hs
      have hne : s.bb ≠ r.bb := Nat.ne_of_gt (h.ord 0 (j + 1) r s (by omega) hr hs)
      exact { tj with
        bo := tj.bo.frame fun q hq => by cases hq; exact hput_other (fun e => hne e.symm)
        dO := tj.dO.off ti.bo (by decide) ⟨by rw [hput_size]; exact Nat.le_refl _, fun q hq hne => hput_other fun e => hne (by rw [e])⟩ }
theorem f53.spec (φ : Fx) (parts : Int) (A : Option Addr) (n c : Nat) (base : Nat) (xs : List PI) (H : Hp) (ht : twinR H base A n c xs) :
    HCalls cx.P φ 53 [.agg #[.int .i64 parts, .slice A n c]] H fun v H' => v = .bool true ∧ cutsTurn base H H' := by
  apply f53.of
  unfold f53.VC
  intro H1
  have o1 : objAt H1 H.size #[.int .i64 parts, .slice A n c] 24 := objAt_new ..
  have k1 : Keeps H H1 := Keeps.push ..
  clear_value H1
  have e1 : cel H1 H.size (0 + 1) = some (.slice A n c) := by rw [objAt_cel o1]; rfl
  have ht1 := ht.keeps k1
  obtain ⟨hlen, hbound, rs, own, tws⟩ := ht1
  obtain ⟨ib, rfl, _, _, hl, hc, _⟩ := own_cells own
  by_cases hex : ∃ x xr y br, xs = x :: xr ∧ x.bs = y :: br
  · obtain ⟨x, xr, y, br, rfl, hy⟩ := hex
    have hn1 : 1 ≤ n := by rw [← hlen]; simp
    obtain ⟨r, hr⟩ : ∃ r, rs[0]? = some r := ⟨_, List.getElem?_eq_getElem (by rw [hl]; omega)⟩
    have tw := tws.each 0 x r rfl hr
    have hBn := tw.Bn
    rw [hy] at hBn
    simp only [List.length_cons] at hBn
    have t1 : cel H1 ib (0 + Int.toNat 0 * 5 + 1) = some (.slice (some ⟨r.bb, 0, none⟩) r.Bn r.Bc) := hc 0 r hr 1 _ rfl
    refine join1 false H1 ?_ ?_
    · simp -zeta only [xL e1]
      refine ⟨fun h => by simp at h; omega, fun _ => ?_⟩
      simp -zeta only [xA, xL t1]
      refine ⟨by omega, ?_, trivial⟩
      simp; omega
    intro _
    refine ⟨fun h => (nomatch h), fun _ => ?_⟩
    have u2 : cel H1 r.bb (0 + Int.toNat 0 * 4 + 2) = some (.int .i64 y.cnt) := by
      have rb := tw.blks
      rw [hy] at rb
      obtain ⟨b, o, e, hb⟩ := rb.2 0 y rfl
      cases e
      exact hb.2.2.1
    simp -zeta only [xL e1, xA, xL t1, xI u2]
    have h0n : (0 : Int) < ((n : Nat) : Int) := by omega
    have h0b : (0 : Int) < ((r.Bn : Nat) : Int) := by omega
    refine ⟨⟨by omega, h0n⟩, ⟨by omega, h0n⟩, ⟨by omega, h0b⟩, ⟨by omega, h0b⟩, own_canPut tw.bo (by simp; omega) (by simp [Value.oneCell']), ?_⟩
    generalize bXor .i64 y.cnt 1 = v
    intro H3
    have tws3 : Tws H3 base (cnt0 v (x :: xr)) rs := tws.cnt v hr hy
    have obb : ∃ cs, objAt H1 r.bb cs 150 := by
      obtain ⟨_, _, q | ⟨b1, cs, _, q, ob, _⟩⟩ := tw.bo
      · exact absurd q.1 (by simp)
      · cases q; exact ⟨cs, ob⟩
    obtain ⟨csb, obb⟩ := obb
    have off : ∀ q, q ≠ r.bb → H3[q]? = H1[q]? := fun q hq => hput_other (fun e => hq e.symm)
    have tbH : r.bb < H.size := by
      obtain ⟨_, _, rs0, own0, tws0⟩ := ht
      obtain ⟨ib0, e0, _, ibl, hl0, hc0, _⟩ := own_cells own0
      cases e0
      obtain ⟨r0, hr0⟩ : ∃ r, rs0[0]? = some r := ⟨_, List.getElem?_eq_getElem (by rw [hl0]; omega)⟩
      have q1 := k1.cel (hc0 0 r0 hr0 1 _ rfl)
      have q2 : cel H1 ib (0 + 0 * 5 + 1) = some (.slice (some ⟨r.bb, 0, none⟩) r.Bn r.Bc) := t1
      rw [q2] at q1
      have q3 : r.bb = r0.bb := by injection q1 with q1; injection q1 with q1; injection q1 with q1; injection q1
      rw [q3]
      exact ((tws0.each 0 x r0 rfl hr0).bo.lt rfl).2
    have o3 : objAt H3 H.size #[.int .i64 parts, .slice (some ⟨ib, 0, none⟩) n c] 24 := by
      unfold objAt; rw [off _ (by omega)]; exact o1
    have own3 : ownC H3 base 146 5 (some ⟨ib, 0, none⟩) (n + 1) c (rs.flatMap encR ++ markP) :=
      own.off tw.bo (by decide) ⟨by rw [hput_size]; exact Nat.le_refl _, fun q hq hne => off q fun e => hne (by rw [e])⟩
    have ct3 : cutsTurn base H H3 := ⟨by have := k1.size; rw [hput_size]; exact this, fun q hq hc => by
      by_cases e : q = r.bb
      · subst e
        rcases hc with hc | hc
        · have := (tw.bo.lt rfl).1; omega
        · exact absurd (by unfold objAt at obb ⊢; rw [← k1.old _ tbH]; exact obb) (hc csb)
      · rw [off q e]; exact k1.old q hq⟩
    clear_value H3
    have tr3 : twinR H3 base (some ⟨ib, 0, none⟩) n c (cnt0 v (x :: xr)) := ⟨by rw [cnt0_len]; exact hlen, hbound, rs, own3, tws3⟩
    generalize cnt0 v (x :: xr) = zs at tr3
    have row3 := tr3.row
    have e30 : cel H3 H.size 0 = some (.int .i64 parts) := by rw [objAt_cel o3]; rfl
    have e31 : cel H3 H.size (0 + 1) = some (.slice (some ⟨ib, 0, none⟩) n c) := by rw [objAt_cel o3]; rfl
    simp -zeta only [xI e30, xL e31]
    refine HCalls.mono (f18.spec φ parts _ n c zs H3 row3 hbound) ?_
    rintro v4 H4 ⟨A8, c8, rfl, k34, tw4⟩
    refine ⟨_, _, _, _, rfl, ?_⟩
    intro H5
    refine ⟨canPut_new _ _ _ _ _ (by simp) (by simp [Value.oneCell']), ?_⟩
    intro H6
    have hH6 : H6 = H4.push (.cells #[.int .i64 parts, .slice A8 n c8] 24 (0, 0)) := hput_new _ _ _ _ _ (by simp)
    have d0 : cel H6 H4.size 0 = some (.int .i64 parts) := by rw [hH6]; exact cel_new ..
    have d1 : cel H6 H4.size (0 + 1) = some (.slice A8 n c8) := by rw [hH6]; exact cel_new ..
    have k46 : Keeps H4 H6 := by rw [hH6]; exact Keeps.push ..
    clear hH6
    clear_value H6 H5
    have k36 := k34.trans k46
    have now4 := tw4.row
    simp -zeta only [xI (k36.cel e30), xL (k36.cel e31)]
    refine HCalls.mono (f47.spec φ parts _ n c zs H6 (row3.keeps isPI.mono k36) (by omega)) ?_
    rintro v7 H7 ⟨A9, n9, c9, rfl, own7, k67⟩
    refine ⟨_, _, _, _, rfl, ?_⟩
    have k37 := k36.trans k67
    have k47 := k46.trans k67
    simp -zeta only [xI (k67.cel d0), xL (k67.cel d1)]
    refine HCalls.mono (f48.spec φ parts _ n c8 zs H7 (now4.keeps isPI.mono k47) (by omega)) ?_
    rintro v8 H8 ⟨A10, n10, c10, rfl, own8, k78⟩
    refine ⟨_, _, _, _, rfl, ?_⟩
    have k38 := k37.trans k78
    have k48 := k47.trans k78
    simp -zeta only [xI (k38.cel e30), xL (k38.cel e31)]
    refine HCalls.mono (f17.spec φ parts _ n c zs H8 (row3.keeps isPI.mono k38)) ?_
    rintro v9 H9 ⟨rfl, k89⟩
    refine ⟨_, rfl, ?_⟩
    have k39 := k38.trans k89
    have k49 := k48.trans k89
    simp -zeta only [xI (k39.cel e30), xL (k39.cel e31)]
    refine HCalls.mono (f50.spec φ parts _ n c zs H9 (row3.keeps isPI.mono k39) (by omega)) ?_
    rintro v10 H10 ⟨A11, n11, c11, rfl, own10, k910⟩
    refine ⟨_, _, _, rfl, ?_⟩
    have k310 := k39.trans k910
    have k410 := k49.trans k910
    have k710 := (k78.trans k89).trans k910
    have k810 := k89.trans k910
    refine joinR (fun y H' => y = true ∧ Keeps H10 H') ?_ ?_
    · refine ⟨fun _ => ?_, fun h => by simp at h⟩
      have row7 := (own7.keeps k710).row
      have l7 := own7.len
      have l8 := own8.len
      have hb9 : n9 ≤ 140737488351232 := by
        rw [← l7]
        by_cases q : (encRes parts zs).2 = 0
        · have := (encRes_ok q).2.2.2.2.1; omega
        · have : (encRes parts zs).1 = [] := by
            revert q; unfold encRes; split
            · split <;> simp
            · simp
          rw [this]; simp
      refine HCalls.mono (f49.spec φ A9 A10 n9 n10 c9 c10 _ _ H10 row7 (own8.keeps k810).row hb9) ?_
      rintro v11 H11 ⟨rfl, rfl⟩
      refine ⟨_, rfl, fun _ => ?_, fun h => by simp at h⟩
      have kd : ∀ {o v}, cel H6 H4.size o = some v → cel H11 H4.size o = some v := fun h => (k67.trans k710).cel h
      simp -zeta only [xI (kd d0), xL (kd d1)]
      refine HCalls.mono (f16.spec φ parts _ n c8 zs H11 (now4.keeps isPI.mono k410)) ?_
      rintro v12 H12 ⟨rfl, k1112⟩
      refine ⟨_, rfl, fun _ => ?_, fun h => by simp at h⟩
      simp -zeta only [xI (k1112.cel (kd d0)), xL (k1112.cel (kd d1))]
      have k412 := k410.trans k1112
      refine HCalls.mono (f51.spec φ parts _ n c8 zs H12 (now4.keeps isPI.mono k412) (by omega)) ?_
      rintro v13 H13 ⟨A12, n12, c12, rfl, own13, k1213⟩
      refine ⟨_, _, _, rfl, ?_⟩
      have k1113 := k1112.trans k1213
      have row11 := (ownT.row own10).keeps isT.mono k1113
      have hb11 : n11 ≤ 140737488351232 := by
        have l11 := ownT.len own10
        rw [← l11, tilesL]
        by_cases q : (encRes parts zs).2 = 0
        · rw [if_pos q, tlL_len]
          obtain ⟨_, q1, _, _, q2, _⟩ := encRes_ok q
          have q3 := infPs_bd zs
          have q4 := pagePs_bd (((encRes parts zs).1.length : Int) - 24)
          simp only [tilPs, List.length_append, List.length_cons, List.length_nil]
          omega
        · rw [if_neg q]; simp
      refine HCalls.mono (f52.same φ A11 A12 n11 n12 c11 c12 _ H13 row11 (ownT.row own13) hb11) ?_
      rintro v14 H14 ⟨rfl, rfl⟩
      refine ⟨_, rfl, fun _ => ?_, fun h => (nomatch h)⟩
      have k314 := k310.trans k1113
      have k414 := k410.trans k1113
      simp -zeta only [xI (k314.cel e30), xL (k314.cel e31), xI (k1113.cel (kd d0)), xL (k1113.cel (kd d1))]
      refine HCalls.mono (f78.same φ parts _ _ n n c c8 zs H14 (row3.keeps isPI.mono k314) (now4.keeps isPI.mono k414) (by omega)) ?_
      rintro v15 H15 ⟨rfl, k15⟩
      exact ⟨_, rfl, rfl, k1113.trans k15⟩
    rintro y' _ H16 ⟨rfl, k16⟩
    exact ⟨rfl, ct3.keeps (k310.trans k16)⟩
  · refine join1 true H1 ?_ ?_
    · simp -zeta only [xL e1]
      refine ⟨fun _ => ⟨trivial, trivial⟩, fun h => ?_⟩
      have hn : n ≠ 0 := by intro e; subst e; simp at h
      obtain ⟨x, xr, rfl⟩ : ∃ x xr, xs = x :: xr := by
        cases xs with
        | nil => simp at hlen; omega
        | cons x xr => exact ⟨x, xr, rfl⟩
      obtain ⟨r, hr⟩ : ∃ r, rs[0]? = some r := ⟨_, List.getElem?_eq_getElem (by rw [hl]; omega)⟩
      have tw := tws.each 0 x r rfl hr
      have hb : x.bs = [] := by
        cases hb : x.bs with
        | nil => rfl
        | cons y br => exact absurd ⟨x, xr, y, br, rfl, hb⟩ hex
      have t1 : cel H1 ib (0 + Int.toNat 0 * 5 + 1) = some (.slice (some ⟨r.bb, 0, none⟩) r.Bn r.Bc) := hc 0 r hr 1 _ rfl
      simp -zeta only [xA, xL t1]
      refine ⟨by omega, ?_, trivial⟩
      have := tw.Bn
      rw [hb] at this
      simp; exact this
    intro _
    exact ⟨fun _ => ⟨rfl, (cutsTurn.refl base H).keeps k1⟩, fun h => (nomatch h)⟩
end Go.Proofs.Ytkkjjjgcfnhabaa.Eng
namespace Go.Proofs.Ytkkjjjgcfnhabaa.Eng
open Go Go.Proofs
/-! ### Lists that are written into -/
theorem flat_setE {α : Type} (enc : α → List Value) (sz : Nat) (hl : ∀ x, (enc x).length = sz) (y : α) : ∀ (xs : List α) (i : Nat), i < xs.length → lspl (xs.flatMap enc) (i * sz) (enc y) = (xs.set i y).flatMap enc
  | x :: xs, 0, _ => by
    have h1 := hl x
    have h2 := hl y
    simp only [lspl, Nat.zero_mul, List.take_zero, List.nil_append, Nat.zero_add, List.flatMap_cons, List.set_cons_zero]
    rw [h2, ← h1, List.drop_left]
  | x :: xs, i + 1, hi => by
    have ih := flat_setE enc sz hl y xs i (by simpa using hi)
    have h1 := hl x
    simp only [List.flatMap_cons, List.set_cons_succ, ← ih, lspl]
    rw [Nat.succ_mul, Nat.add_comm (i * sz) sz, List.take_append, List.drop_append, h1]
    rw [List.take_of_length_le (by omega), List.drop_eq_nil_of_le (by omega)]
    simp only [List.nil_append, List.append_assoc]
    congr 3
    · omega
    · congr 2; omega
theorem own_set {α : Type} (enc : α → List Value) {sz : Nat} (hl : ∀ x, (enc x).length = sz) (h1 : ∀ x, ∀ v ∈ enc x, v.oneCell' = true) {H : Hp} {base : Nat} {t : TypeId} {b n c : Nat} {xs : List α}
    (h : ownC H base t sz (some ⟨b, 0, none⟩) n c (xs.flatMap enc)) {i : Nat} (hi : i < xs.length) (hn : xs.length = n) (y : α) :
    canPut H b (0 + i * sz) (enc y) ∧ ownC (hput H b (0 + i * sz) (enc y)) base t sz (some ⟨b, 0, none⟩) n c ((xs.set i y).flatMap enc) := by
  have hle : 0 + i * sz + (enc y).length ≤ n * sz := by
    rw [hl, Nat.zero_add, ← hn]
    have : (i + 1) * sz ≤ xs.length * sz := Nat.mul_le_mul_right _ hi
    rw [Nat.succ_mul] at this; exact this
  refine ⟨own_canPut h hle (h1 y), ?_⟩
  have := own_put h (o := 0 + i * sz) (ws := enc y) hle
  rw [Nat.zero_add] at this ⊢
  rw [flat_setE enc sz hl y xs i hi] at this
  exact this
theorem rep_set {α : Type} (v : α) : ∀ (i : Nat) (xs : List α), i < xs.length → (List.replicate i v ++ xs.drop i).set i v = List.replicate (i + 1) v ++ xs.drop (i + 1)
  | 0, x :: xs, _ => by simp
  | i + 1, x :: xs, h => by
    have ih := rep_set v i xs (by simpa using h)
    simp only [List.replicate_succ, List.drop_succ_cons, List.cons_append, List.set_cons_succ] at ih ⊢
    rw [ih]
theorem rep_len {α : Type} (v : α) (i : Nat) (xs : List α) (h : i ≤ xs.length) : (List.replicate i v ++ xs.drop i).length = xs.length := by simp; omega
theorem offA.refl (A : Option Addr) (H : Hp) : offA A H H := ⟨Nat.le_refl _, fun _ _ _ => rfl⟩
theorem offA.put {H H' : Hp} {b : Nat} (h : offA (some ⟨b, 0, none⟩) H H') (o : Nat) (vs : List Value) : offA (some ⟨b, 0, none⟩) H (hput H' b o vs) :=
  ⟨by rw [hput_size]; exact h.1, fun k hk hne => by rw [hput_other (fun e => hne (by rw [e]))]; exact h.2 k hk hne⟩
/-- A change behind a change of the same list, grown or not. -/
theorem offA.step {A A' : Option Addr} {H H' H'' : Hp} (h : offA A H H') (ha : A' = A ∨ ∃ q, H.size ≤ q ∧ A' = some ⟨q, 0, none⟩) (h2 : offA A' H' H'') : offA A H H'' :=
  ⟨Nat.le_trans h.1 h2.1, fun k hk hne => by
    rw [h2.2 k (Nat.lt_of_lt_of_le hk h.1) ?_]
    · exact h.2 k hk hne
    · rcases ha with e | ⟨q, hq, e⟩
      · rw [e]; exact hne
      · rw [e]; intro e2; cases e2; omega⟩
theorem offA.keep {A : Option Addr} {H H' H'' : Hp} (h : offA A H H') (k : Keeps H' H'') : offA A H H'' :=
  ⟨Nat.le_trans h.1 k.size, fun q hq hne => (k.old q (Nat.lt_of_lt_of_le hq h.1)).trans (h.2 q hq hne)⟩
theorem ownC.later {A A2 : Option Addr} {H H' : Hp} (h : offA A H H') {base2 n2 c2 : Nat} {t : TypeId} {sz : Nat} {ys : List Value} (o : ownC H base2 t sz A2 n2 c2 ys) (hq : ∀ q, A = some ⟨q, 0, none⟩ → q < base2) : ownC H' base2 t sz A2 n2 c2 ys :=
  o.frame fun b hb => h.2 b (o.lt hb).2 fun e => by have := hq b e; have := (o.lt hb).1; omega
/-- Bytes written into owned bytes. -/
theorem ownB_set {H : Hp} {base b n c : Nat} {xs : List Int} (h : ownB H base (some ⟨b, 0, none⟩) n c xs) {i : Nat} (hi : i < n) {y : Int} (hy : 0 ≤ y ∧ y < 256) :
    canPut H b (0 + i * 1) [.int .u8 y] ∧ ownB (hput H b (0 + i * 1) [.int .u8 y]) base (some ⟨b, 0, none⟩) n c (xs.set i y) := by
  have hl := h.len
  have ho := h.own
  rw [← map_encU] at ho
  obtain ⟨h1, h2⟩ := own_set encU (fun _ => rfl) encU_one ho (i := i) (by omega) hl y
  refine ⟨h1, by rw [← map_encU]; exact h2, fun x hx => ?_⟩
  rcases List.mem_or_eq_of_mem_set hx with q | q
  · exact h.rng x q
  · rw [q]; exact hy
theorem ownT_set {H : Hp} {base b n c : Nat} {xs : List Tl} (h : ownT H base (some ⟨b, 0, none⟩) n c xs) {i : Nat} (hi : i < n) (y : Tl) :
    canPut H b (0 + i * 3) (encT y) ∧ ownT (hput H b (0 + i * 3) (encT y)) base (some ⟨b, 0, none⟩) n c (xs.set i y) := by
  have hl := ownT.len h
  exact own_set encT (fun _ => rfl) encT_one h (i := i) (by omega) hl y
theorem ownC.some_of {H : Hp} {base : Nat} {t : TypeId} {sz : Nat} {A : Option Addr} {n c : Nat} {vs : List Value} (h : ownC H base t sz A n c vs) (hn : 0 < n) : ∃ b, A = some ⟨b, 0, none⟩ ∧ base ≤ b ∧ b < H.size := by
  have := h.2.1
  obtain ⟨_, _, q | ⟨b, cs, h1, h2, h3, _⟩⟩ := h
  · omega
  · exact ⟨b, h2, h1, objAt_lt h3⟩
/-- One byte behind owned bytes. -/
theorem app_byte {H : Hp} {base : Nat} {A : Option Addr} {n c : Nat} {xs : List Int} (own : ownB H base A n c xs) (hbase : base ≤ H.size) (hn : n ≤ 140737488355327) {y : Int} (hy : 0 ≤ y ∧ y < 256) {d : Nat} {K : Value → Hp → Prop}
    (hK : ∀ A' c' H', ownB H' base A' (n + 1) c' (xs ++ [y]) → offA A H H' → (A' = A ∨ ∃ q, H.size ≤ q ∧ A' = some ⟨q, 0, none⟩) → K (.slice A' (n + 1) c') H') :
    appW cx 59 59 (.slice A n c) (.slice (some ⟨H.size, 0, none⟩) 1 d) (Array.push H (.cells #[.int .u8 y] 5 (0, 0))) K := by
  have k : Keeps H (Array.push H (.cells #[.int .u8 y] 5 (0, 0))) := Keeps.push ..
  have r : bytesR (Array.push H (.cells #[.int .u8 y] 5 (0, 0))) (some ⟨H.size, 0, none⟩) 1 [y] := by
    have := bytes_new H [y] (by intro x hx; simp at hx; subst hx; exact hy) (0, 0) 1 rfl
    simpa using this
  refine app_bytes (own.keeps k) r (by omega) (by have := k.size; omega) ?_
  intro A' c' H' w f e _
  refine hK A' c' H' w ⟨Nat.le_trans k.size f.1, fun q hq hne => by rw [f.2 q (Nat.lt_of_lt_of_le hq k.size) hne]; exact k.old q hq⟩ ?_
  rcases e with e | e
  · exact Or.inl e
  · exact Or.inr ⟨_, k.size, e⟩
theorem app_tile {H : Hp} {base : Nat} {A : Option Addr} {n c : Nat} {xs : List Tl} (own : ownT H base A n c xs) (hbase : base ≤ H.size) (hn : n ≤ 5864062014804) (y : Tl) {d : Nat} {K : Value → Hp → Prop}
    (hK : ∀ A' c' H', ownT H' base A' (n + 1) c' (xs ++ [y]) → offA A H H' → (A' = A ∨ ∃ q, H.size ≤ q ∧ A' = some ⟨q, 0, none⟩) → K (.slice A' (n + 1) c') H') :
    appW cx 86 86 (.slice A n c) (.slice (some ⟨H.size, 0, none⟩) 1 d) (Array.push H (.cells #[.int .i64 y.kind, .int .i64 y.fr, .int .i64 y.to] 90 (0, 0))) K := by
  have k : Keeps H (Array.push H (.cells #[.int .i64 y.kind, .int .i64 y.fr, .int .i64 y.to] 90 (0, 0))) := Keeps.push ..
  refine app86 (own.keeps k) (objAt_new ..) hn (by have := k.size; omega) ?_
  intro A' c' H' w f e
  refine hK A' c' H' w ⟨Nat.le_trans k.size f.1, fun q hq hne => by rw [f.2 q (Nat.lt_of_lt_of_le hq k.size) hne]; exact k.old q hq⟩ ?_
  rcases e with e | e
  · exact Or.inl e
  · exact Or.inr ⟨_, k.size, e⟩
end Go.Proofs.Ytkkjjjgcfnhabaa.Eng
