/- Part HNc of the proof of the claim in this folder: a way to walk code, and the contracts of the functions that the law reaches. Conditions: none. -/
import Derived.Test.YtkkjjjgcfnhabaaHNa
import Derived.Test.YtkkjjjgcfnhabaaHNb
import Derived.Test.YtkkjjjgcfnhabaaEngB
set_option linter.unusedVariables false
set_option maxRecDepth 100000
set_option linter.unusedSimpArgs false
set_option maxRecDepth 10000
namespace Go.Proofs.Ytkkjjjgcfnhabaa.Eng
open Go Go.Proofs
def f173.an : An := .seq (.reg (.op false (.done))) (.seq (.reg (.op false (.done))) (.seq (.seq (.reg (.op false (.done))) (.blk (.loop [(3, false, [.int .i64]), (4, false, [.int .i64])] (.seq (.seq (.reg (.op false (.op false (.op false (.op false (.done)))))) (.cond (.nil) (.nil))) (.seq (.blk (.seq (.reg (.op false (.op false (.op false (.op false (.op false (.done))))))) (.join [(3, false, [.int .i64])] (.cond (.reg (.op false (.op false (.op false (.op false (.op false (.op false (.op false (.op false (.op false (.done))))))))))) (.nil))))) (.reg (.op false (.op false (.op false (.done)))))))))) (.seq (.reg (.op false (.op false (.done)))) (.nil))))
def f173.VC (φ : Fx) (lensA : Option Addr) (lensn lensc : Nat) (H : Hp) (R : Value → Hp → Prop) : Prop :=
  ∃ (I_ : Int → Int → Hp → Prop) (m_ : Int → Int → Hp → Nat), I_ 0 0 H ∧
  (∀ (sum : Int) (i : Int) (j_ : Nat → Value) (H_ : Hp), I_ sum i H_ → (((decide (i < ((lensn : Nat) : Int))) = true → (∃ (b o : Nat), lensA = some ⟨b, o, none⟩ ∧ (0 ≤ i ∧ i < ((lensn : Nat) : Int)) ∧
          (∃ (x : Int), cel H_ b (o + Int.toNat i * 1) = some (.int .i64 x) ∧ (∃ M_ : Int → Hp → Prop, (((decide (0 < x)) = true → (∃ (b2 o2 : Nat), lensA = some ⟨b2, o2, none⟩ ∧ (0 ≤ i ∧ i < ((lensn : Nat) : Int)) ∧
                    (∃ (x2 : Int), cel H_ b2 (o2 + Int.toNat i * 1) = some (.int .i64 x2) ∧ (((-9223372036854775808) ≤ 15 - x2 ∧ 15 - x2 ≤ 9223372036854775807) ∧
                        ((0 : Int) ≤ (15 - x2) ∧ (((-9223372036854775808) ≤ (1 : Int) * 2 ^ (min (Int.toNat (15 - x2)) 64) ∧ (1 : Int) * 2 ^ (min (Int.toNat (15 - x2)) 64) ≤ 9223372036854775807) ∧
                            (((-9223372036854775808) ≤ sum + ((1 : Int) * 2 ^ (min (Int.toNat (15 - x2)) 64)) ∧ sum + ((1 : Int) * 2 ^ (min (Int.toNat (15 - x2)) 64)) ≤ 9223372036854775807) ∧
                              (M_ (sum + ((1 : Int) * 2 ^ (min (Int.toNat (15 - x2)) 64))) H_)))))))) ∧
                ((decide (0 < x)) = false → (M_ sum H_))) ∧
              (∀ (sum2 : Int) (j_2 : Nat → Value) (H_2 : Hp), M_ sum2 H_2 → (((-9223372036854775808) ≤ i + 1 ∧ i + 1 ≤ 9223372036854775807) ∧
                  (I_ sum2 (i + 1) H_2 ∧ m_ sum2 (i + 1) H_2 < m_ sum i H_))))))) ∧
      ((decide (i < ((lensn : Nat) : Int))) = false → (R (.int .i64 sum) H_))))
theorem f173.vc (φ : Fx) (lensA : Option Addr) (lensn lensc : Nat) (H : Hp) (R : Value → Hp → Prop) : fnW cx φ Try.f173 f173.an [.slice lensA lensn lensc] H R = f173.VC φ lensA lensn lensc H R := by kernel_rfl
theorem f173.of {φ : Fx} {lensA : Option Addr} {lensn lensc : Nat} {H : Hp} {R : Value → Hp → Prop} (h : f173.VC φ lensA lensn lensc H R) : HCalls cx.P φ 173 [.slice lensA lensn lensc] H R :=
  fnW_calls cx_ok (show cx.P.funcs[173]? = some Try.f173 by kernel_rfl) (by rw [f173.vc]; exact h)

def f132.an : An := .seq (.reg (.op false (.op false (.done)))) (.seq (.seq (.reg (.op false (.op false (.op false (.done))))) (.cond (.seq (.reg (.op false (.op false (.done)))) (.nil)) (.nil))) (.seq (.seq (.reg (.op false (.done))) (.blk (.loop [(4, false, [.int .i64])] (.seq (.seq (.reg (.op false (.op false (.op false (.op false (.done)))))) (.cond (.nil) (.nil))) (.seq (.blk (.seq (.join [(29, false, [.bool])] (.reg (.op false (.op false (.op false (.op false (.op false (.op false (.split 23 (.op false (.op false (.op false (.op false (.op false (.op false (.done))))))) (.op false (.op false (.op false (.op false (.op false (.op false (.done)))))))))))))))) (.cond (.seq (.reg (.op false (.op false (.done)))) (.nil)) (.nil)))) (.reg (.op false (.op false (.op false (.done)))))))))) (.seq (.seq (.reg (.op false (.op false (.op false (.done))))) (.cond (.seq (.reg (.op false (.op false (.done)))) (.nil)) (.nil))) (.seq (.reg (.op false (.op false (.op false (.op false (.done)))))) (.seq (.reg (.op false (.done))) (.seq (.seq (.reg (.op false (.done))) (.blk (.loop [(6, false, [.int .u32]), (7, false, [.int .i64])] (.seq (.seq (.reg (.op false (.op false (.done)))) (.cond (.nil) (.nil))) (.seq (.blk (.seq (.reg (.op false (.op true (.op false (.done))))) (.seq (.reg (.op false (.done))) (.blk (.loop [(6, false, [.int .u32]), (8, false, [.int .i64])] (.seq (.seq (.reg (.op false (.op false (.op false (.op false (.done)))))) (.cond (.nil) (.nil))) (.seq (.blk (.seq (.reg (.op false (.op false (.op false (.op false (.op false (.op false (.done)))))))) (.join [(6, false, [.int .u32])] (.cond (.seq (.reg (.op false (.op false (.op false (.op false (.op false (.op false (.op false (.done))))))))) (.reg (.op false (.op true (.op false (.done)))))) (.nil))))) (.reg (.op false (.op false (.op false (.done)))))))))))) (.reg (.op false (.op false (.op false (.done)))))))))) (.seq (.reg (.op false (.op false (.op false (.done))))) (.nil))))))))
def f132.VC (φ : Fx) (lensA : Option Addr) (lensn lensc : Nat) (H : Hp) (R : Value → Hp → Prop) : Prop :=
  ((decide (256 < ((lensn : Nat) : Int))) = true → (R (.tuple #[.slice none 0 0, .int .i64 2]) H)) ∧
  ((decide (256 < ((lensn : Nat) : Int))) = false → (∃ (I_ : Int → Hp → Prop) (m_ : Int → Hp → Nat), I_ 0 H ∧
      (∀ (i : Int) (j_ : Nat → Value) (H_ : Hp), I_ i H_ → (((decide (i < ((lensn : Nat) : Int))) = true → (∃ M_ : Bool → Hp → Prop, (∃ (b o : Nat), lensA = some ⟨b, o, none⟩ ∧ (0 ≤ i ∧ i < ((lensn : Nat) : Int)) ∧
                (∃ (x : Int), cel H_ b (o + Int.toNat i * 1) = some (.int .i64 x) ∧ (((decide (x < 0)) = true → (M_ true H_)) ∧
                    ((decide (x < 0)) = false → (∃ (b2 o2 : Nat), lensA = some ⟨b2, o2, none⟩ ∧ (0 ≤ i ∧ i < ((lensn : Nat) : Int)) ∧
                        (∃ (x2 : Int), cel H_ b2 (o2 + Int.toNat i * 1) = some (.int .i64 x2) ∧ (M_ (decide (15 < x2)) H_))))))) ∧
              (∀ (x3 : Bool) (j_2 : Nat → Value) (H_2 : Hp), M_ x3 H_2 → ((x3 = true → (R (.tuple #[.slice none 0 0, .int .i64 3]) H_2)) ∧
                  (x3 = false → (((-9223372036854775808) ≤ i + 1 ∧ i + 1 ≤ 9223372036854775807) ∧
                      (I_ (i + 1) H_2 ∧ m_ (i + 1) H_2 < m_ i H_))))))) ∧
          ((decide (i < ((lensn : Nat) : Int))) = false → (HCalls cx.P φ 173 [.slice lensA lensn lensc] H_ (fun v H_3 => ∃ (x4 : Int), v = .int .i64 x4 ∧ (((decide (32768 < x4)) = true → (R (.tuple #[.slice none 0 0, .int .i64 41]) H_3)) ∧
                  ((decide (32768 < x4)) = false → ((0 ≤ ((lensn : Nat) : Int) ∧ ((lensn : Nat) : Int) ≤ ((lensn : Nat) : Int) ∧ ((lensn : Nat) : Int) * 16 ≤ 281474976710656) ∧
                      (let H_4 : Hp := Array.push H_3 (.cells (zrow [.int .i64 0, .int .u32 0] (Int.toNat ((lensn : Nat) : Int))).toArray 130 (0, 0));
                        (∃ (I_2 : Int → Int → Hp → Prop) (m_2 : Int → Int → Hp → Nat), I_2 0 1 H_4 ∧
                          (∀ (word : Int) (n : Int) (j_3 : Nat → Value) (H_5 : Hp), I_2 word n H_5 → (((decide (n ≤ 15)) = true → (∃ (I_3 : Int → Int → Hp → Prop) (m_3 : Int → Int → Hp → Nat), I_3 (IntKind.wrap .u32 (word * 2)) 0 H_5 ∧
                                  (∀ (word2 : Int) (i2 : Int) (j_4 : Nat → Value) (H_6 : Hp), I_3 word2 i2 H_6 → (((decide (i2 < ((lensn : Nat) : Int))) = true → (∃ (b3 o3 : Nat), lensA = some ⟨b3, o3, none⟩ ∧ (0 ≤ i2 ∧ i2 < ((lensn : Nat) : Int)) ∧
                                          (∃ (x5 : Int), cel H_6 b3 (o3 + Int.toNat i2 * 1) = some (.int .i64 x5) ∧ (∃ M_2 : Int → Hp → Prop, (((decide (x5 = n)) = true → (∃ (b4 o4 : Nat), (some (⟨Array.size H_3, 0, none⟩ : Addr)) = some ⟨b4, o4, none⟩ ∧ (0 ≤ i2 ∧ i2 < ((Int.toNat ((lensn : Nat) : Int) : Nat) : Int)) ∧
                                                    (canPut H_6 b4 (o4 + Int.toNat i2 * 2) [.int .i64 n, .int .u32 word2] ∧
                                                      (let H_7 : Hp := hput H_6 b4 (o4 + Int.toNat i2 * 2) [.int .i64 n, .int .u32 word2];
                                                        (M_2 (IntKind.wrap .u32 (word2 + 1)) H_7))))) ∧
                                                ((decide (x5 = n)) = false → (M_2 word2 H_6))) ∧
                                              (∀ (word3 : Int) (j_5 : Nat → Value) (H_8 : Hp), M_2 word3 H_8 → (((-9223372036854775808) ≤ i2 + 1 ∧ i2 + 1 ≤ 9223372036854775807) ∧
                                                  (I_3 word3 (i2 + 1) H_8 ∧ m_3 word3 (i2 + 1) H_8 < m_3 word2 i2 H_6))))))) ∧
                                      ((decide (i2 < ((lensn : Nat) : Int))) = false → (((-9223372036854775808) ≤ n + 1 ∧ n + 1 ≤ 9223372036854775807) ∧
                                          (I_2 word2 (n + 1) H_6 ∧ m_2 word2 (n + 1) H_6 < m_2 word n H_5))))))) ∧
                              ((decide (n ≤ 15)) = false → (R (.tuple #[.slice (some (⟨Array.size H_3, 0, none⟩ : Addr)) (Int.toNat ((lensn : Nat) : Int)) (Int.toNat ((lensn : Nat) : Int)), .int .i64 0]) H_5))))))))))))))))
theorem f132.vc (φ : Fx) (lensA : Option Addr) (lensn lensc : Nat) (H : Hp) (R : Value → Hp → Prop) : fnW cx φ Try.f132 f132.an [.slice lensA lensn lensc] H R = f132.VC φ lensA lensn lensc H R := by kernel_rfl
theorem f132.of {φ : Fx} {lensA : Option Addr} {lensn lensc : Nat} {H : Hp} {R : Value → Hp → Prop} (h : f132.VC φ lensA lensn lensc H R) : HCalls cx.P φ 132 [.slice lensA lensn lensc] H R :=
  fnW_calls cx_ok (show cx.P.funcs[132]? = some Try.f132 by kernel_rfl) (by rw [f132.vc]; exact h)

def f133.an : An := .seq (.reg (.op false (.done))) (.seq (.reg (.op false (.done))) (.seq (.seq (.reg (.op false (.done))) (.join [(3, false, [.slc])] (.blk (.loop [(3, false, [.slc]), (4, false, [.int .i64])] (.seq (.seq (.reg (.op false (.op false (.op false (.op false (.done)))))) (.cond (.nil) (.nil))) (.blk (.seq (.reg (.op false (.op false (.done)))) (.seq (.blk (.loop [(5, false, [.int .i64])] (.seq (.seq (.join [(25, false, [.bool])] (.draw [[], [], [1], [0, 1, 2], [0, 1, 2, 3], [0, 1, 2, 3, 4], [0, 1, 2, 3, 4], [0, 1, 2, 3, 4, 5, 6], [0, 1, 2, 3, 4, 5, 6, 7], [0, 1, 2, 3, 4], [0, 1, 2, 3, 4], [0, 1, 2, 3, 4, 9, 10], [0, 1, 2, 3, 4, 9, 10, 11], [0, 1, 2, 3, 4, 5, 6, 7, 8, 9, 10, 11, 12], [0, 1, 2, 3, 4, 5, 6, 7, 8, 9, 10, 11, 12, 13]] (.rd 0 false (.rd 1 false (.rd 2 false (.rd 3 false (.rd 4 false (.split 15 (.rd 5 false (.rd 6 false (.rd 7 false (.rd 8 false (.rd 9 false (.rd 10 false (.rd 11 false (.rd 12 false (.rd 13 false (.rd 14 false (.done))))))))))) (.rd 5 false (.rd 6 false (.rd 7 false (.rd 8 false (.rd 9 false (.rd 10 false (.rd 11 false (.rd 12 false (.rd 13 false (.rd 14 false (.done))))))))))))))))))) (.cond (.nil) (.nil))) (.blk (.reg (.op false (.op false (.op false (.done))))))))) (.seq (.seq (.join [(38, false, [.bool])] (.reg (.op false (.op false (.op false (.op false (.op false (.split 32 (.op false (.op false (.op false (.op false (.op false (.op false (.done))))))) (.op false (.op false (.op false (.op false (.op false (.op false (.done))))))))))))))) (.cond (.nil) (.nil))) (.seq (.reg (.op false (.op false (.op false (.op false (.op false (.op false (.op false (.done))))))))) (.seq (.reg (.op false (.op false (.op false (.op false (.op false (.op true (.op false (.op false (.op false (.done))))))))))) (.reg (.op false (.op false (.done))))))))))))))) (.seq (.reg (.op false (.op false (.op false (.op false (.done)))))) (.nil))))
def f133.VC (φ : Fx) (lensA : Option Addr) (lensn lensc : Nat) (H : Hp) (R : Value → Hp → Prop) : Prop :=
  ∃ M_ : Option Addr → Nat → Nat → Hp → Prop, (∃ (I_ : Option Addr → Nat → Nat → Int → Hp → Prop) (m_ : Option Addr → Nat → Nat → Int → Hp → Nat), I_ none 0 0 0 H ∧
    (∀ (bA : Option Addr) (bn bc : Nat) (i : Int) (j_ : Nat → Value) (H_ : Hp), I_ bA bn bc i H_ → (((decide (i < ((lensn : Nat) : Int))) = true → (∃ (I_2 : Int → Hp → Prop) (m_2 : Int → Hp → Nat), I_2 i H_ ∧
            (∀ (k : Int) (j_2 : Nat → Value) (H_2 : Hp), I_2 k H_2 → (∃ M_2 : Bool → Hp → Prop, (((decide (k < ((lensn : Nat) : Int))) = true → (∃ (b o : Nat), lensA = some ⟨b, o, none⟩ ∧ (0 ≤ k ∧ k < ((lensn : Nat) : Int)) ∧
                      (∃ (x : Int), cel H_2 b (o + Int.toNat k * 1) = some (.int .i64 x) ∧ (∃ (b2 o2 : Nat), lensA = some ⟨b2, o2, none⟩ ∧ (0 ≤ i ∧ i < ((lensn : Nat) : Int)) ∧
                          (∃ (x2 : Int), cel H_2 b2 (o2 + Int.toNat i * 1) = some (.int .i64 x2) ∧ (M_2 (decide (x = x2)) H_2)))))) ∧
                  ((decide (k < ((lensn : Nat) : Int))) = false → (M_2 false H_2))) ∧
                (∀ (x3 : Bool) (j_3 : Nat → Value) (H_3 : Hp), M_2 x3 H_3 → ((x3 = true → (((-9223372036854775808) ≤ k + 1 ∧ k + 1 ≤ 9223372036854775807) ∧
                        (I_2 (k + 1) H_3 ∧ m_2 (k + 1) H_3 < m_2 k H_2))) ∧
                    (x3 = false → (∃ M_3 : Bool → Hp → Prop, (((decide (k = ((lensn : Nat) : Int))) = true → (∃ (b3 o3 : Nat), lensA = some ⟨b3, o3, none⟩ ∧ (0 ≤ i ∧ i < ((lensn : Nat) : Int)) ∧
                              (∃ (x4 : Int), cel H_3 b3 (o3 + Int.toNat i * 1) = some (.int .i64 x4) ∧ (M_3 (decide (x4 = 0)) H_3)))) ∧
                          ((decide (k = ((lensn : Nat) : Int))) = false → (M_3 false H_3))) ∧
                        (∀ (x5 : Bool) (j_4 : Nat → Value) (H_4 : Hp), M_3 x5 H_4 → ((x5 = true → (M_ bA bn bc H_4)) ∧
                            (x5 = false → (((-9223372036854775808) ≤ k - i ∧ k - i ≤ 9223372036854775807) ∧
                                (HCalls cx.P φ 174 [.int .i64 (k - i)] H_4 (fun v H_5 => ∃ (A : Option Addr) (n c : Nat), v = .slice A n c ∧ (appW cx 59 59 (Value.slice bA bn bc) (Value.slice A n c) H_5 (fun v2 H_6 => ∃ (A2 : Option Addr) (n2 c2 : Nat), v2 = .slice A2 n2 c2 ∧ (∃ (b4 o4 : Nat), lensA = some ⟨b4, o4, none⟩ ∧ (0 ≤ i ∧ i < ((lensn : Nat) : Int)) ∧
                                          (∃ (x6 : Int), cel H_6 b4 (o4 + Int.toNat i * 1) = some (.int .i64 x6) ∧ (let H_7 : Hp := Array.push H_6 (.cells #[.int .u8 (IntKind.wrap .u8 x6)] 5 (0, 0));
                                              (appW cx 59 59 (Value.slice A2 n2 c2) (Value.slice (some (⟨Array.size H_6, 0, none⟩ : Addr)) 1 1) H_7 (fun v3 H_8 => ∃ (A3 : Option Addr) (n3 c3 : Nat), v3 = .slice A3 n3 c3 ∧ (I_ A3 n3 c3 k H_8 ∧ m_ A3 n3 c3 k H_8 < m_ bA bn bc i H_)))))))))))))))))))))) ∧
        ((decide (i < ((lensn : Nat) : Int))) = false → (M_ bA bn bc H_))))) ∧
  (∀ (bA2 : Option Addr) (bn2 bc2 : Nat) (j_5 : Nat → Value) (H_9 : Hp), M_ bA2 bn2 bc2 H_9 → (let H_10 : Hp := Array.push H_9 (.cells #[.int .u8 0] 5 (0, 0));
      (appW cx 59 59 (Value.slice bA2 bn2 bc2) (Value.slice (some (⟨Array.size H_9, 0, none⟩ : Addr)) 1 1) H_10 (fun v4 H_11 => ∃ (A4 : Option Addr) (n4 c4 : Nat), v4 = .slice A4 n4 c4 ∧ (R (.slice A4 n4 c4) H_11)))))
theorem f133.vc (φ : Fx) (lensA : Option Addr) (lensn lensc : Nat) (H : Hp) (R : Value → Hp → Prop) : fnW cx φ Try.f133 f133.an [.slice lensA lensn lensc] H R = f133.VC φ lensA lensn lensc H R := by kernel_rfl
theorem f133.of {φ : Fx} {lensA : Option Addr} {lensn lensc : Nat} {H : Hp} {R : Value → Hp → Prop} (h : f133.VC φ lensA lensn lensc H R) : HCalls cx.P φ 133 [.slice lensA lensn lensc] H R :=
  fnW_calls cx_ok (show cx.P.funcs[133]? = some Try.f133 by kernel_rfl) (by rw [f133.vc]; exact h)

def f134.an : An := .seq (.reg (.op false (.done))) (.seq (.reg (.op false (.done))) (.seq (.reg (.op false (.done))) (.seq (.seq (.reg (.op false (.done))) (.blk (.loop [(5, false, [.slc]), (6, false, [.int .i64]), (7, false, [.int .i64])] (.seq (.seq (.reg (.op false (.op false (.op false (.op false (.done)))))) (.cond (.nil) (.nil))) (.seq (.blk (.seq (.reg (.op false (.op false (.op false (.op false (.op false (.op false (.op false (.op false (.op false (.done))))))))))) (.seq (.reg (.op false (.op false (.op false (.op false (.done)))))) (.blk (.loop [(5, false, [.slc]), (6, false, [.int .i64]), (9, false, [.int .i64])] (.seq (.seq (.reg (.op false (.op false (.done)))) (.cond (.nil) (.nil))) (.seq (.blk (.seq (.seq (.reg (.op false (.op false (.op false (.done))))) (.join [(5, false, [.slc])] (.cond (.reg (.op false (.op false (.op false (.op false (.done)))))) (.nil)))) (.seq (.seq (.reg (.op false (.op false (.op false (.op true (.op false (.op true (.done)))))))) (.join [] (.cond (.draw [[], [], [1], [], [], [4], [3, 4, 5], [3, 4, 5, 6], [], [8], [8, 9], [3, 4, 5, 6, 7, 8, 9, 10], [0, 1, 2, 3, 4, 5, 6, 7, 8, 9, 10, 11], [0, 1, 2, 3, 4, 5, 6, 7, 8, 9, 10, 11, 12]] (.rd 0 false (.rd 1 false (.rd 2 false (.rd 3 false (.rd 4 false (.rd 5 false (.rd 6 false (.rd 7 false (.rd 8 false (.rd 9 false (.rd 10 true (.rd 11 true (.rd 12 false (.eff 13 false (.done)))))))))))))))) (.nil)))) (.reg (.op false (.op false (.op false (.done)))))))) (.reg (.op false (.op false (.op false (.done)))))))))))) (.reg (.op false (.op false (.op false (.done)))))))))) (.seq (.reg (.op false (.op false (.done)))) (.nil)))))
def f134.VC (φ : Fx) (textA : Option Addr) (textn textc : Nat) (codesA : Option Addr) (codesn codesc : Nat) (H : Hp) (R : Value → Hp → Prop) : Prop :=
  ∃ (I_ : Option Addr → Nat → Nat → Int → Int → Hp → Prop) (m_ : Option Addr → Nat → Nat → Int → Int → Hp → Nat), I_ none 0 0 0 0 H ∧
  (∀ (bA : Option Addr) (bn bc : Nat) (n : Int) (i : Int) (j_ : Nat → Value) (H_ : Hp), I_ bA bn bc n i H_ → (((decide (i < ((textn : Nat) : Int))) = true → (∃ (b o : Nat), textA = some ⟨b, o, none⟩ ∧ (0 ≤ i ∧ i < ((textn : Nat) : Int)) ∧
          (∃ (x : Int), cel H_ b (o + Int.toNat i * 1) = some (.int .u8 x) ∧ (∃ (b2 o2 : Nat), codesA = some ⟨b2, o2, none⟩ ∧ (0 ≤ x ∧ x < ((codesn : Nat) : Int)) ∧
              (∃ (Len : Int), cel H_ b2 (o2 + Int.toNat x * 2) = some (.int .i64 Len) ∧
                ∃ (Bits : Int), cel H_ b2 (o2 + Int.toNat x * 2 + 1) = some (.int .u32 Bits) ∧ (let H_2 : Hp := Array.push H_ (.cells #[.int .i64 0, .int .u32 0] 130 (0, 0));
                  (canPut H_2 (Array.size H_) 0 [.int .i64 Len, .int .u32 Bits] ∧
                    (let H_3 : Hp := hput H_2 (Array.size H_) 0 [.int .i64 Len, .int .u32 Bits];
                      (∃ (x2 : Int), cel H_3 (Array.size H_) 0 = some (.int .i64 x2) ∧ (((-9223372036854775808) ≤ x2 - 1 ∧ x2 - 1 ≤ 9223372036854775807) ∧
                          (∃ (I_2 : Option Addr → Nat → Nat → Int → Int → Hp → Prop) (m_2 : Option Addr → Nat → Nat → Int → Int → Hp → Nat), I_2 bA bn bc n (x2 - 1) H_3 ∧
                            (∀ (bA2 : Option Addr) (bn2 bc2 : Nat) (n2 : Int) (k : Int) (j_2 : Nat → Value) (H_4 : Hp), I_2 bA2 bn2 bc2 n2 k H_4 → (((decide (0 ≤ k)) = true → ((0 ≤ n2 ∧ (0 : Int) < 8) ∧
                                    (∃ M_ : Option Addr → Nat → Nat → Hp → Prop, (((decide ((n2 % 8) = 0)) = true → (let H_5 : Hp := Array.push H_4 (.cells #[.int .u8 0] 5 (0, 0));
                                            (appW cx 59 59 (Value.slice bA2 bn2 bc2) (Value.slice (some (⟨Array.size H_4, 0, none⟩ : Addr)) 1 1) H_5 (fun v H_6 => ∃ (A : Option Addr) (n3 c : Nat), v = .slice A n3 c ∧ (M_ A n3 c H_6))))) ∧
                                        ((decide ((n2 % 8) = 0)) = false → (M_ bA2 bn2 bc2 H_4))) ∧
                                      (∀ (bA3 : Option Addr) (bn3 bc3 : Nat) (j_3 : Nat → Value) (H_7 : Hp), M_ bA3 bn3 bc3 H_7 → (∃ (x3 : Int), cel H_7 (Array.size H_) (0 + 1) = some (.int .u32 x3) ∧ ((0 : Int) ≤ k ∧ ((0 ≤ (x3 / (2 ^ (min (Int.toNat k) 32))) ∧ (0 : Int) < 2) ∧
                                              (∃ M_2 : Hp → Prop, (((decide (((x3 / (2 ^ (min (Int.toNat k) 32))) % 2) = 1)) = true → ((0 ≤ n2 ∧ n2 ≤ 9223372036854775807 ∧ (0 : Int) < 8) ∧
                                                      ((0 ≤ n2 ∧ n2 ≤ 9223372036854775807 ∧ (0 : Int) < 8) ∧
                                                        (∃ (b3 o3 : Nat), bA3 = some ⟨b3, o3, none⟩ ∧ (0 ≤ (n2 / 8) ∧ (n2 / 8) < ((bn3 : Nat) : Int)) ∧
                                                          (∃ (x4 : Int), cel H_7 b3 (o3 + Int.toNat (n2 / 8) * 1) = some (.int .u8 x4) ∧ ((0 ≤ n2 ∧ (0 : Int) < 8) ∧
                                                              ((0 : Int) ≤ (n2 % 8) ∧ (∃ (b4 o4 : Nat), bA3 = some ⟨b4, o4, none⟩ ∧ (0 ≤ (n2 / 8) ∧ (n2 / 8) < ((bn3 : Nat) : Int)) ∧
                                                                  (canPut H_7 b4 (o4 + Int.toNat (n2 / 8) * 1) [.int .u8 (IntKind.wrap .u8 (x4 + (IntKind.wrap .u8 ((1 : Int) * 2 ^ (min (Int.toNat (n2 % 8)) 8)))))] ∧
                                                                    (let H_8 : Hp := hput H_7 b4 (o4 + Int.toNat (n2 / 8) * 1) [.int .u8 (IntKind.wrap .u8 (x4 + (IntKind.wrap .u8 ((1 : Int) * 2 ^ (min (Int.toNat (n2 % 8)) 8)))))];
                                                                      (M_2 H_8))))))))))) ∧
                                                  ((decide (((x3 / (2 ^ (min (Int.toNat k) 32))) % 2) = 1)) = false → (M_2 H_7))) ∧
                                                (∀  (j_4 : Nat → Value) (H_9 : Hp), M_2 H_9 → (((-9223372036854775808) ≤ n2 + 1 ∧ n2 + 1 ≤ 9223372036854775807) ∧
                                                    (((-9223372036854775808) ≤ k - 1 ∧ k - 1 ≤ 9223372036854775807) ∧
                                                      (I_2 bA3 bn3 bc3 (n2 + 1) (k - 1) H_9 ∧ m_2 bA3 bn3 bc3 (n2 + 1) (k - 1) H_9 < m_2 bA2 bn2 bc2 n2 k H_4)))))))))))) ∧
                                ((decide (0 ≤ k)) = false → (((-9223372036854775808) ≤ i + 1 ∧ i + 1 ≤ 9223372036854775807) ∧
                                    (I_ bA2 bn2 bc2 n2 (i + 1) H_4 ∧ m_ bA2 bn2 bc2 n2 (i + 1) H_4 < m_ bA bn bc n i H_)))))))))))))))) ∧
      ((decide (i < ((textn : Nat) : Int))) = false → (R (.slice bA bn bc) H_))))
theorem f134.vc (φ : Fx) (textA : Option Addr) (textn textc : Nat) (codesA : Option Addr) (codesn codesc : Nat) (H : Hp) (R : Value → Hp → Prop) : fnW cx φ Try.f134 f134.an [.slice textA textn textc, .slice codesA codesn codesc] H R = f134.VC φ textA textn textc codesA codesn codesc H R := by kernel_rfl
theorem f134.of {φ : Fx} {textA : Option Addr} {textn textc : Nat} {codesA : Option Addr} {codesn codesc : Nat} {H : Hp} {R : Value → Hp → Prop} (h : f134.VC φ textA textn textc codesA codesn codesc H R) : HCalls cx.P φ 134 [.slice textA textn textc, .slice codesA codesn codesc] H R :=
  fnW_calls cx_ok (show cx.P.funcs[134]? = some Try.f134 by kernel_rfl) (by rw [f134.vc]; exact h)

def f69.an : An := .seq (.reg (.op false (.op false (.done)))) (.seq (.seq (.reg (.op false (.op false (.op false (.done))))) (.cond (.seq (.reg (.op false (.op false (.done)))) (.nil)) (.nil))) (.seq (.reg (.op false (.op false (.done)))) (.seq (.seq (.reg (.op false (.done))) (.blk (.loop [(5, false, [.int .i64])] (.seq (.seq (.reg (.op false (.op false (.op false (.op false (.done)))))) (.cond (.nil) (.nil))) (.seq (.blk (.reg (.op false (.op false (.op false (.op false (.op false (.op false (.op false (.op false (.op false (.op false (.done))))))))))))) (.reg (.op false (.op false (.op false (.done)))))))))) (.seq (.reg (.op false (.op false (.op false (.op false (.op false (.op false (.op false (.done))))))))) (.seq (.reg (.op false (.op false (.op false (.op false (.op false (.op false (.op false (.done))))))))) (.seq (.reg (.op false (.op false (.op false (.done))))) (.seq (.reg (.op false (.op false (.op false (.op false (.op false (.op false (.op false (.done))))))))) (.nil))))))))
def f69.VC (φ : Fx) (textA : Option Addr) (textn textc : Nat) (H : Hp) (R : Value → Hp → Prop) : Prop :=
  ((decide (65536 < ((textn : Nat) : Int))) = true → (R (.tuple #[.slice none 0 0, .int .i64 2]) H)) ∧
  ((decide (65536 < ((textn : Nat) : Int))) = false → ((0 ≤ (256 : Int) ∧ (256 : Int) ≤ (256 : Int) ∧ (256 : Int) * 8 ≤ 281474976710656) ∧
      (let H_ : Hp := Array.push H (.cells (zrow [.int .i64 0] (Int.toNat (256 : Int))).toArray 2 (0, 0));
        (∃ (I_ : Int → Hp → Prop) (m_ : Int → Hp → Nat), I_ 0 H_ ∧
          (∀ (i : Int) (j_ : Nat → Value) (H_2 : Hp), I_ i H_2 → (((decide (i < ((textn : Nat) : Int))) = true → (∃ (b o : Nat), textA = some ⟨b, o, none⟩ ∧ (0 ≤ i ∧ i < ((textn : Nat) : Int)) ∧
                  (∃ (x : Int), cel H_2 b (o + Int.toNat i * 1) = some (.int .u8 x) ∧ (∃ (b2 o2 : Nat), (some (⟨Array.size H, 0, none⟩ : Addr)) = some ⟨b2, o2, none⟩ ∧ (0 ≤ x ∧ x < ((Int.toNat (256 : Int) : Nat) : Int)) ∧
                      (∃ (x2 : Int), cel H_2 b2 (o2 + Int.toNat x * 1) = some (.int .i64 x2) ∧ (((-9223372036854775808) ≤ x2 + 1 ∧ x2 + 1 ≤ 9223372036854775807) ∧
                          (∃ (b3 o3 : Nat), (some (⟨Array.size H, 0, none⟩ : Addr)) = some ⟨b3, o3, none⟩ ∧ (0 ≤ x ∧ x < ((Int.toNat (256 : Int) : Nat) : Int)) ∧
                            (canPut H_2 b3 (o3 + Int.toNat x * 1) [.int .i64 (x2 + 1)] ∧
                              (let H_3 : Hp := hput H_2 b3 (o3 + Int.toNat x * 1) [.int .i64 (x2 + 1)];
                                (((-9223372036854775808) ≤ i + 1 ∧ i + 1 ≤ 9223372036854775807) ∧
                                  (I_ (i + 1) H_3 ∧ m_ (i + 1) H_3 < m_ i H_2))))))))))) ∧
              ((decide (i < ((textn : Nat) : Int))) = false → (HCalls cx.P φ 57 [.slice (some (⟨Array.size H, 0, none⟩ : Addr)) (Int.toNat (256 : Int)) (Int.toNat (256 : Int)), .int .i64 15] H_2 (fun v H_4 => ∃ (A : Option Addr) (n c : Nat), ∃ (x3 : Int), v = .tuple #[.slice A n c, .int .i64 x3] ∧ (HCalls cx.P φ 132 [.slice A n c] H_4 (fun v2 H_5 => ∃ (A2 : Option Addr) (n2 c2 : Nat), ∃ (x4 : Int), v2 = .tuple #[.slice A2 n2 c2, .int .i64 x4] ∧ (HCalls cx.P φ 133 [.slice A n c] H_5 (fun v3 H_6 => ∃ (A3 : Option Addr) (n3 c3 : Nat), v3 = .slice A3 n3 c3 ∧ (HCalls cx.P φ 134 [.slice textA textn textc, .slice A2 n2 c2] H_6 (fun v4 H_7 => ∃ (A4 : Option Addr) (n4 c4 : Nat), v4 = .slice A4 n4 c4 ∧ (appW cx 59 59 (Value.slice A3 n3 c3) (Value.slice A4 n4 c4) H_7 (fun v5 H_8 => ∃ (A5 : Option Addr) (n5 c5 : Nat), v5 = .slice A5 n5 c5 ∧ (R (.tuple #[.slice A5 n5 c5, .int .i64 0]) H_8))))))))))))))))))
theorem f69.vc (φ : Fx) (textA : Option Addr) (textn textc : Nat) (H : Hp) (R : Value → Hp → Prop) : fnW cx φ Try.f69 f69.an [.slice textA textn textc] H R = f69.VC φ textA textn textc H R := by kernel_rfl
theorem f69.of {φ : Fx} {textA : Option Addr} {textn textc : Nat} {H : Hp} {R : Value → Hp → Prop} (h : f69.VC φ textA textn textc H R) : HCalls cx.P φ 69 [.slice textA textn textc] H R :=
  fnW_calls cx_ok (show cx.P.funcs[69]? = some Try.f69 by kernel_rfl) (by rw [f69.vc]; exact h)

def f70.an : An := .seq (.reg (.op false (.done))) (.seq (.seq (.reg (.op false (.op false (.op false (.op false (.op false (.done))))))) (.cond (.seq (.reg (.op false (.done))) (.nil)) (.nil))) (.seq (.seq (.reg (.op false (.done))) (.blk (.loop [(5, false, [.int .i64])] (.seq (.seq (.reg (.op false (.op false (.op false (.op false (.done)))))) (.cond (.nil) (.nil))) (.seq (.blk (.seq (.draw [[], [], [0, 1], [0, 1, 2], [], [], [4, 5], [4, 5, 6], [0, 1, 2, 3, 4, 5, 6, 7]] (.rd 0 false (.rd 1 false (.rd 2 false (.rd 3 false (.rd 4 false (.rd 5 false (.rd 6 false (.rd 7 false (.rd 8 true (.done))))))))))) (.cond (.seq (.reg (.op false (.done))) (.nil)) (.nil)))) (.reg (.op false (.op false (.op false (.done)))))))))) (.seq (.reg (.op false (.done))) (.nil))))
def f70.VC (φ : Fx) (aA : Option Addr) (an ac : Nat) (bA : Option Addr) (bn bc : Nat) (H : Hp) (R : Value → Hp → Prop) : Prop :=
  ((!decide (((an : Nat) : Int) = ((bn : Nat) : Int))) = true → (R (.bool false) H)) ∧
  ((!decide (((an : Nat) : Int) = ((bn : Nat) : Int))) = false → (∃ (I_ : Int → Hp → Prop) (m_ : Int → Hp → Nat), I_ 0 H ∧
      (∀ (i : Int) (j_ : Nat → Value) (H_ : Hp), I_ i H_ → (((decide (i < ((an : Nat) : Int))) = true → (∃ (b o : Nat), aA = some ⟨b, o, none⟩ ∧ (0 ≤ i ∧ i < ((an : Nat) : Int)) ∧
              (∃ (x : Int), cel H_ b (o + Int.toNat i * 1) = some (.int .u8 x) ∧ (∃ (b2 o2 : Nat), bA = some ⟨b2, o2, none⟩ ∧ (0 ≤ i ∧ i < ((bn : Nat) : Int)) ∧
                  (∃ (x2 : Int), cel H_ b2 (o2 + Int.toNat i * 1) = some (.int .u8 x2) ∧ (((!decide (x = x2)) = true → (R (.bool false) H_)) ∧
                      ((!decide (x = x2)) = false → (((-9223372036854775808) ≤ i + 1 ∧ i + 1 ≤ 9223372036854775807) ∧
                          (I_ (i + 1) H_ ∧ m_ (i + 1) H_ < m_ i H_))))))))) ∧
          ((decide (i < ((an : Nat) : Int))) = false → (R (.bool true) H_))))))
theorem f70.vc (φ : Fx) (aA : Option Addr) (an ac : Nat) (bA : Option Addr) (bn bc : Nat) (H : Hp) (R : Value → Hp → Prop) : fnW cx φ Try.f70 f70.an [.slice aA an ac, .slice bA bn bc] H R = f70.VC φ aA an ac bA bn bc H R := by kernel_rfl
theorem f70.of {φ : Fx} {aA : Option Addr} {an ac : Nat} {bA : Option Addr} {bn bc : Nat} {H : Hp} {R : Value → Hp → Prop} (h : f70.VC φ aA an ac bA bn bc H R) : HCalls cx.P φ 70 [.slice aA an ac, .slice bA bn bc] H R :=
  fnW_calls cx_ok (show cx.P.funcs[70]? = some Try.f70 by kernel_rfl) (by rw [f70.vc]; exact h)

def f71.an : An := .seq (.reg (.op false (.done))) (.seq (.seq (.reg (.op false (.op false (.op false (.op false (.op false (.done))))))) (.blk (.loop [(3, false, [.int .i64]), (4, false, [.int .i64])] (.seq (.seq (.reg (.op false (.op false (.op false (.done))))) (.cond (.nil) (.nil))) (.seq (.blk (.seq (.reg (.op false (.op false (.op false (.op false (.op false (.done))))))) (.seq (.reg (.op false (.op false (.op false (.op false (.op false (.op false (.op false (.op false (.done)))))))))) (.reg (.op false (.op false (.op false (.op false (.op false (.done)))))))))) (.reg (.op false (.op false (.op false (.op false (.op false (.op false (.done))))))))))))) (.seq (.reg (.op false (.op false (.done)))) (.nil)))
def f71.VC (φ : Fx) (lA : Option Addr) (ln lc : Nat) (H : Hp) (R : Value → Hp → Prop) : Prop :=
  ((-9223372036854775808) ≤ ((ln : Nat) : Int) - 1 ∧ ((ln : Nat) : Int) - 1 ≤ 9223372036854775807) ∧
  (∃ (I_ : Int → Int → Hp → Prop) (m_ : Int → Int → Hp → Nat), I_ 0 (((ln : Nat) : Int) - 1) H ∧
    (∀ (i : Int) (k : Int) (j_ : Nat → Value) (H_ : Hp), I_ i k H_ → (((decide (i < k)) = true → (∃ (b o : Nat), lA = some ⟨b, o, none⟩ ∧ (0 ≤ i ∧ i < ((ln : Nat) : Int)) ∧
            (∃ (x : Int), cel H_ b (o + Int.toNat i * 1) = some (.int .u8 x) ∧ (∃ (b2 o2 : Nat), lA = some ⟨b2, o2, none⟩ ∧ (0 ≤ k ∧ k < ((ln : Nat) : Int)) ∧
                (∃ (x2 : Int), cel H_ b2 (o2 + Int.toNat k * 1) = some (.int .u8 x2) ∧ (∃ (b3 o3 : Nat), lA = some ⟨b3, o3, none⟩ ∧ (0 ≤ i ∧ i < ((ln : Nat) : Int)) ∧
                    (canPut H_ b3 (o3 + Int.toNat i * 1) [.int .u8 x2] ∧
                      (let H_2 : Hp := hput H_ b3 (o3 + Int.toNat i * 1) [.int .u8 x2];
                        (∃ (b4 o4 : Nat), lA = some ⟨b4, o4, none⟩ ∧ (0 ≤ k ∧ k < ((ln : Nat) : Int)) ∧
                          (canPut H_2 b4 (o4 + Int.toNat k * 1) [.int .u8 x] ∧
                            (let H_3 : Hp := hput H_2 b4 (o4 + Int.toNat k * 1) [.int .u8 x];
                              (((-9223372036854775808) ≤ i + 1 ∧ i + 1 ≤ 9223372036854775807) ∧
                                (((-9223372036854775808) ≤ k - 1 ∧ k - 1 ≤ 9223372036854775807) ∧
                                  (I_ (i + 1) (k - 1) H_3 ∧ m_ (i + 1) (k - 1) H_3 < m_ i k H_)))))))))))))) ∧
        ((decide (i < k)) = false → (R (.slice lA ln lc) H_)))))
theorem f71.vc (φ : Fx) (lA : Option Addr) (ln lc : Nat) (H : Hp) (R : Value → Hp → Prop) : fnW cx φ Try.f71 f71.an [.slice lA ln lc] H R = f71.VC φ lA ln lc H R := by kernel_rfl
theorem f71.of {φ : Fx} {lA : Option Addr} {ln lc : Nat} {H : Hp} {R : Value → Hp → Prop} (h : f71.VC φ lA ln lc H R) : HCalls cx.P φ 71 [.slice lA ln lc] H R :=
  fnW_calls cx_ok (show cx.P.funcs[71]? = some Try.f71 by kernel_rfl) (by rw [f71.vc]; exact h)

def f9.an : An := .seq (.reg (.op false (.done))) (.seq (.reg (.op false (.op false (.op false (.done))))) (.seq (.reg (.op false (.op false (.op false (.op false (.op false (.op false (.op false (.op false (.op false (.op false (.done)))))))))))) (.seq (.reg (.op false (.op false (.op false (.op false (.op false (.op false (.op false (.op false (.op false (.op false (.done)))))))))))) (.seq (.reg (.op false (.op false (.op false (.done))))) (.seq (.reg (.op false (.op false (.op false (.op false (.op false (.op false (.op false (.done))))))))) (.seq (.seq (.join [(67, false, [.bool])] (.reg (.op false (.op false (.op false (.op false (.split 43 (.op false (.op false (.op false (.op false (.op false (.op false (.op false (.op false (.op false (.op false (.op false (.op false (.op false (.op false (.op false (.op false (.op false (.op false (.op false (.op false (.op false (.op false (.op false (.op false (.done))))))))))))))))))))))))) (.op false (.op false (.op false (.op false (.op false (.split 48 (.op false (.op false (.op false (.op false (.op false (.op false (.op false (.op false (.op false (.op false (.op false (.op false (.op false (.op false (.op false (.op false (.op false (.op false (.op false (.done)))))))))))))))))))) (.op false (.op false (.op false (.op false (.op false (.op false (.split 54 (.op false (.op false (.op false (.op false (.op false (.op false (.op false (.op false (.op false (.op false (.op false (.op false (.op false (.done)))))))))))))) (.op false (.op false (.op false (.op false (.op false (.op false (.op false (.split 61 (.op false (.op false (.op false (.op false (.op false (.op false (.done))))))) (.op false (.op false (.op false (.op false (.op false (.op false (.done))))))))))))))))))))))))))))))))))) (.cond (.seq (.reg (.op false (.done))) (.nil)) (.nil))) (.seq (.reg (.op false (.op false (.op false (.op false (.op false (.op false (.op false (.op false (.op false (.op false (.op false (.done))))))))))))) (.seq (.reg (.op false (.op false (.op false (.op false (.op false (.op false (.op false (.op false (.op false (.op false (.op false (.op false (.done)))))))))))))) (.seq (.join [(2, false, [.bool])] (.reg (.op false (.op false (.op false (.op false (.split 90 (.op false (.op false (.op false (.op false (.op false (.done)))))) (.op false (.op false (.op false (.op false (.op false (.done))))))))))))) (.nil))))))))))
def f9.VC (φ : Fx) (textA : Option Addr) (textn textc : Nat) (H : Hp) (R : Value → Hp → Prop) : Prop :=
  HCalls cx.P φ 66 [.slice textA textn textc] H (fun v H_ => ∃ (A : Option Addr) (n c : Nat), v = .slice A n c ∧ ((0 ≤ ((textn : Nat) : Int) ∧ ((textn : Nat) : Int) ≤ ((c : Nat) : Int)) ∧
      (HCalls cx.P φ 67 [.slice A (Int.toNat ((textn : Nat) : Int)) c] H_ (fun v2 H_2 => ∃ (A2 : Option Addr) (n2 c2 : Nat), ∃ (x : Int), v2 = .tuple #[.slice A2 n2 c2, .int .i64 x] ∧ ((0 ≤ ((textn : Nat) : Int) ∧ ((textn : Nat) : Int) ≤ ((c : Nat) : Int)) ∧
            (HCalls cx.P φ 67 [.slice A (Int.toNat ((textn : Nat) : Int)) c] H_2 (fun v3 H_3 => ∃ (A3 : Option Addr) (n3 c3 : Nat), ∃ (x2 : Int), v3 = .tuple #[.slice A3 n3 c3, .int .i64 x2] ∧ (HCalls cx.P φ 68 [.slice A2 n2 c2, .int .u8 7] H_3 (fun v4 H_4 => ∃ (x3 : Int), v4 = .int .i64 x3 ∧ (HCalls cx.P φ 69 [.slice textA textn textc] H_4 (fun v5 H_5 => ∃ (A4 : Option Addr) (n4 c4 : Nat), ∃ (x4 : Int), v5 = .tuple #[.slice A4 n4 c4, .int .i64 x4] ∧ (∃ M_ : Bool → Hp → Prop, (((!decide (x = x4)) = true → (M_ true H_5)) ∧
                            ((!decide (x = x4)) = false → (((!decide (x2 = x4)) = true → (M_ true H_5)) ∧
                                ((!decide (x2 = x4)) = false → (HCalls cx.P φ 70 [.slice A3 n3 c3, .slice A4 n4 c4] H_5 (fun v6 H_6 => ∃ (x5 : Bool), v6 = .bool x5 ∧ (((!x5) = true → (M_ true H_6)) ∧
                                        ((!x5) = false → (((-9223372036854775808) ≤ ((n4 : Nat) : Int) + 64 ∧ ((n4 : Nat) : Int) + 64 ≤ 9223372036854775807) ∧
                                            (((!decide (x3 = (((n4 : Nat) : Int) + 64))) = true → (M_ true H_6)) ∧
                                              ((!decide (x3 = (((n4 : Nat) : Int) + 64))) = false → (HCalls cx.P φ 66 [.slice textA textn textc] H_6 (fun v7 H_7 => ∃ (A5 : Option Addr) (n5 c5 : Nat), v7 = .slice A5 n5 c5 ∧ (HCalls cx.P φ 70 [.slice A n c, .slice A5 n5 c5] H_7 (fun v8 H_8 => ∃ (x6 : Bool), v8 = .bool x6 ∧ (M_ (!x6) H_8)))))))))))))))) ∧
                          (∀ (x7 : Bool) (j_ : Nat → Value) (H_9 : Hp), M_ x7 H_9 → ((x7 = true → (R (.bool false) H_9)) ∧
                              (x7 = false → ((0 ≤ ((textn : Nat) : Int) ∧ ((textn : Nat) : Int) ≤ ((c : Nat) : Int)) ∧
                                  (HCalls cx.P φ 71 [.slice A (Int.toNat ((textn : Nat) : Int)) c] H_9 (fun v9 H_10 => ∃ (A6 : Option Addr) (n6 c6 : Nat), v9 = .slice A6 n6 c6 ∧ (HCalls cx.P φ 67 [.slice A6 n6 c6] H_10 (fun v10 H_11 => ∃ (A7 : Option Addr) (n7 c7 : Nat), ∃ (x8 : Int), v10 = .tuple #[.slice A7 n7 c7, .int .i64 x8] ∧ (HCalls cx.P φ 66 [.slice textA textn textc] H_11 (fun v11 H_12 => ∃ (A8 : Option Addr) (n8 c8 : Nat), v11 = .slice A8 n8 c8 ∧ ((0 ≤ ((textn : Nat) : Int) ∧ ((textn : Nat) : Int) ≤ ((c8 : Nat) : Int)) ∧
                                                (HCalls cx.P φ 71 [.slice A8 (Int.toNat ((textn : Nat) : Int)) c8] H_12 (fun v12 H_13 => ∃ (A9 : Option Addr) (n9 c9 : Nat), v12 = .slice A9 n9 c9 ∧ (HCalls cx.P φ 69 [.slice A9 n9 c9] H_13 (fun v13 H_14 => ∃ (A10 : Option Addr) (n10 c10 : Nat), ∃ (x9 : Int), v13 = .tuple #[.slice A10 n10 c10, .int .i64 x9] ∧ (∃ M_2 : Bool → Hp → Prop, (HCalls cx.P φ 70 [.slice A7 n7 c7, .slice A10 n10 c10] H_14 (fun v14 H_15 => ∃ (x10 : Bool), v14 = .bool x10 ∧ ((x10 = true → (M_2 (decide (x8 = x9)) H_15)) ∧
                                                                (x10 = false → (M_2 false H_15))))) ∧
                                                          (∀ (x11 : Bool) (j_2 : Nat → Value) (H_16 : Hp), M_2 x11 H_16 → (R (.bool x11) H_16))))))))))))))))))))))))))))))
theorem f9.vc (φ : Fx) (textA : Option Addr) (textn textc : Nat) (H : Hp) (R : Value → Hp → Prop) : fnW cx φ Try.f9 f9.an [.slice textA textn textc] H R = f9.VC φ textA textn textc H R := by kernel_rfl
theorem f9.of {φ : Fx} {textA : Option Addr} {textn textc : Nat} {H : Hp} {R : Value → Hp → Prop} (h : f9.VC φ textA textn textc H R) : HCalls cx.P φ 9 [.slice textA textn textc] H R :=
  fnW_calls cx_ok (show cx.P.funcs[9]? = some Try.f9 by kernel_rfl) (by rw [f9.vc]; exact h)

end Go.Proofs.Ytkkjjjgcfnhabaa.Eng




namespace Go.Proofs.Ytkkjjjgcfnhabaa.Eng
open Go Go.Proofs
theorem drop_at {α : Type} {l : List α} {n : Nat} {x : α} (h : l[n]? = some x) : l.drop n = x :: l.drop (n + 1) := by
  obtain ⟨hn, e⟩ := List.getElem?_eq_some_iff.1 h
  rw [List.drop_eq_getElem_cons hn, e]
end Go.Proofs.Ytkkjjjgcfnhabaa.Eng


namespace Go.Proofs.Ytkkjjjgcfnhabaa.Eng
open Go
def ownC (H : Hp) (base : Nat) (t : TypeId) (sz : Nat) (A : Option Addr) (n c : Nat) (vs : List Value) : Prop :=
  vs.length = n * sz ∧ n ≤ c ∧ ((A = none ∧ c = 0) ∨ ∃ b cs, base ≤ b ∧ A = some ⟨b, 0, none⟩ ∧ objAt H b cs t ∧ cs.size = c * sz ∧ cs.toList.take (n * sz) = vs)
theorem ownC_nil (H : Hp) (base : Nat) (t : TypeId) (sz : Nat) : ownC H base t sz none 0 0 [] := ⟨by simp, by omega, Or.inl ⟨rfl, rfl⟩⟩
/-- What a change leaves alone. -/
def offA (A : Option Addr) (H H' : Hp) : Prop := H.size ≤ H'.size ∧ ∀ k, k < H.size → A ≠ some ⟨k, 0, none⟩ → H'[k]? = H[k]?
theorem ownC.lt {H : Hp} {base : Nat} {t : TypeId} {sz : Nat} {A : Option Addr} {n c : Nat} {vs : List Value} (h : ownC H base t sz A n c vs) {b : Nat} (hb : A = some ⟨b, 0, none⟩) : base ≤ b ∧ b < H.size := by
  obtain ⟨_, _, h | ⟨b', cs, h1, h2, h3, _⟩⟩ := h
  · rw [h.1] at hb; cases hb
  · rw [h2] at hb; cases hb; exact ⟨h1, objAt_lt h3⟩
theorem ownC.frame {H H' : Hp} {base : Nat} {t : TypeId} {sz : Nat} {A : Option Addr} {n c : Nat} {vs : List Value} (h : ownC H base t sz A n c vs) (hf : ∀ b, A = some ⟨b, 0, none⟩ → H'[b]? = H[b]?) : ownC H' base t sz A n c vs := by
  obtain ⟨h1, h2, h | ⟨b, cs, h3, h4, h5, h6⟩⟩ := h
  · exact ⟨h1, h2, Or.inl h⟩
  · refine ⟨h1, h2, Or.inr ⟨b, cs, h3, h4, ?_, h6⟩⟩
    unfold objAt at h5 ⊢; rw [hf b h4]; exact h5
theorem ownC.keeps {H H' : Hp} {base : Nat} {t : TypeId} {sz : Nat} {A : Option Addr} {n c : Nat} {vs : List Value} (h : ownC H base t sz A n c vs) (k : Keeps H H') : ownC H' base t sz A n c vs :=
  h.frame fun b hb => k.old b (h.lt hb).2
/-- Lists of other elements lie elsewhere. -/
theorem ownC.off {H H' : Hp} {base base' : Nat} {t t' : TypeId} {sz sz' : Nat} {A A' : Option Addr} {n c n' c' : Nat} {vs vs' : List Value} (h : ownC H base t sz A n c vs)
    (h' : ownC H base' t' sz' A' n' c' vs') (ht : t ≠ t') (ho : offA A' H H') : ownC H' base t sz A n c vs := by
  refine h.frame fun b hb => ho.2 b (h.lt hb).2 fun e => ?_
  obtain ⟨_, _, q | ⟨b1, cs1, _, e1, o1, _⟩⟩ := h
  · rw [q.1] at hb; cases hb
  obtain ⟨_, _, q | ⟨b2, cs2, _, e2, o2, _⟩⟩ := h'
  · rw [q.1] at e; cases e
  rw [e1] at hb; cases hb
  rw [e2] at e; cases e
  unfold objAt at o1 o2
  rw [o1] at o2; cases o2; exact ht rfl
theorem ownC.rd {H : Hp} {base : Nat} {t : TypeId} {sz : Nat} {A : Option Addr} {n c : Nat} {vs : List Value} (h : ownC H base t sz A n c vs) : rdC H A (n * sz) vs := by
  obtain ⟨h1, h2, h | ⟨b, cs, h3, h4, h5, h6, h7⟩⟩ := h
  · refine ⟨h1, fun hp => ?_⟩
    have : n = 0 := by omega
    subst this; omega
  · refine ⟨h1, fun _ => ⟨b, 0, h4, fun j v hv => ?_⟩⟩
    rw [Nat.zero_add, objAt_cel h5]
    rw [← h7, List.getElem?_take] at hv
    split at hv
    · simpa using hv
    · cases hv
theorem offA.keeps {G H H' : Hp} {A : Option Addr} (k : Keeps G H) (h : offA A H H') (hb : ∀ b, A = some ⟨b, 0, none⟩ → G.size ≤ b) : Keeps G H' :=
  ⟨Nat.le_trans k.size h.1, fun i hi => by
    rw [h.2 i (Nat.lt_of_lt_of_le hi k.size) (fun e => by have := hb i e; omega)]; exact k.old i hi⟩
theorem spl_take {c : Array Value} {o : Nat} {vs : List Value} (h : o + vs.length ≤ c.size) : (spl c o vs).toList.take (o + vs.length) = c.toList.take o ++ vs := by
  simp only [spl]
  have : (List.take o c.toList).length = o := by simp; omega
  rw [List.take_append_of_le_length (by simp; omega)]
  rw [List.take_of_length_le (by simp; omega)]
theorem app_own {C : Ctx} {t tx : TypeId} {i : TI} {e : TypeId} {ie : TI} (hi : tget C.T t = some i) (hk : i.k = .slc e) (hie : tget C.T e = some ie)
    {x : Value} (hb : (srcB C tx x && Nat.blt 0 ie.size && Nat.blt 0 ie.bytes && Nat.beq ie.zero.length ie.size) = true) {H : Hp} {base : Nat} {A : Option Addr} {n c : Nat} {vs : List Value}
    (h : ownC H base e ie.size A n c vs) {m : Nat} {ys : List Value} (hs : srcC H ie.size x m ys) (hy : ys.length = m * ie.size) (hv : ∀ v ∈ ys, v.oneCell' = true) (hn : (n + m) * ie.bytes ≤ 140737488355328)
    (hbase : base ≤ H.size) {K : Value → Hp → Prop}
    (hK : ∀ A' c' H', ownC H' base e ie.size A' (n + m) c' (vs ++ ys) → offA A H H' → (A' = A ∨ A' = some ⟨H.size, 0, none⟩) → (m = 0 ∨ A' ≠ none) → K (.slice A' (n + m) c') H') :
    appW C t tx (.slice A n c) x H K := by
  obtain ⟨hl, hnc, ho⟩ := h
  have hsz : 0 < ie.size := by
    simp only [Bool.and_eq_true] at hb; exact Nat.le_of_ble_eq_true hb.1.1.2
  have hzl : ie.zero.length = ie.size := by
    simp only [Bool.and_eq_true] at hb; exact Nat.eq_of_beq_eq_true hb.2
  unfold appW
  simp only [hi, hk, hie]
  rw [hb]
  refine ⟨m, ys, hs, fun hc => ?_, fun hc => ⟨hn, vs, ?_, fun cap h1 h2 => ?_⟩⟩
  · rcases ho with ⟨rfl, rfl⟩ | ⟨b, cs, h3, rfl, h5, h6, h7⟩
    · have : m = 0 := by omega
      subst this
      have : ys = [] := List.eq_nil_of_length_eq_zero (by omega)
      subst this
      refine ⟨Or.inl rfl, ?_⟩
      have := hK none 0 H ⟨by simp [hl], by omega, Or.inl ⟨rfl, rfl⟩⟩ ⟨Nat.le_refl _, fun _ _ _ => rfl⟩ (Or.inl rfl) (Or.inl rfl)
      simpa [hputA] using this
    · have hle : n * ie.size + ys.length ≤ cs.size := by
        rw [hy, h6, ← Nat.add_mul]; exact Nat.mul_le_mul_right _ hc
      refine ⟨Or.inr ⟨b, 0, rfl, cs, e, 0, 0, h5, by simpa using hle, by omega, hv⟩, ?_⟩
      have ho' := objAt_hput h5 (0 + n * ie.size) ys
      rw [Nat.zero_add] at ho'
      refine hK _ _ _ ⟨by simp [hl, hy, Nat.add_mul], hc, Or.inr ⟨b, _, h3, rfl, ?_, by rw [size_spl _ _ _ hle]; exact h6, ?_⟩⟩ ⟨by simp [hputA, hput_size], fun k hk hne => ?_⟩ (Or.inl rfl) (Or.inr (by simp))
      · simpa [hputA] using ho'
      · rw [Nat.add_mul, ← hy, spl_take hle, h7]
      · simp only [hputA]
        exact hput_other (fun e => hne (by rw [e]))
  · have h : ownC H base e ie.size A n c vs := ⟨hl, hnc, ho⟩
    exact h.rd
  · refine hK _ _ _ ⟨by simp [hl, hy, Nat.add_mul], h1, Or.inr ⟨H.size, _, hbase, rfl, objAt_new _ _ _, ?_, ?_⟩⟩ ⟨by simp, fun k hk _ => ?_⟩ (Or.inr rfl) (Or.inr (by simp))
    · simp only [List.size_toArray, List.length_append, hl, hy, zrow_length, hzl]
      rw [← Nat.add_mul, ← Nat.add_mul]; congr 1; omega
    · simp only [List.toList_toArray]
      rw [List.take_append_of_le_length (by simp [hl, hy, Nat.add_mul])]
      rw [List.take_of_length_le (by simp [hl, hy, Nat.add_mul])]
    · rw [Array.getElem?_push, if_neg (by omega)]
end Go.Proofs.Ytkkjjjgcfnhabaa.Eng

namespace Go.Proofs.Ytkkjjjgcfnhabaa.Eng
open Go Go.Proofs
theorem app59 {H : Hp} {base : Nat} {A : Option Addr} {n c : Nat} {vs : List Value} (h : ownC H base 5 1 A n c vs) {B : Option Addr} {m d : Nat} {ys : List Value} (hs : rdC H B (m * 1) ys)
    (hv : ∀ v ∈ ys, v.oneCell' = true) (hn : (n + m) * 1 ≤ 140737488355328) (hbase : base ≤ H.size) {K : Value → Hp → Prop}
    (hK : ∀ A' c' H', ownC H' base 5 1 A' (n + m) c' (vs ++ ys) → offA A H H' → (A' = A ∨ A' = some ⟨H.size, 0, none⟩) → (m = 0 ∨ A' ≠ none) → K (.slice A' (n + m) c') H') :
    appW cx 59 59 (.slice A n c) (.slice B m d) H K :=
  app_own (i := ⟨59, .slc 5, 1, 24, [.slice none 0 0], [.slc], [(false, [.slc])], false⟩) (e := 5) (ie := ⟨5, .int .u8, 1, 1, [.int .u8 0], [.int .u8], [(false, [.int .u8])], false⟩) rfl rfl rfl rfl h (show srcC H 1 (.slice B m d) m ys from ⟨rfl, hs⟩) hs.1 hv hn hbase hK
theorem rdC_new (H : Hp) (vs : List Value) (t : TypeId) (fr : Nat × Nat) (m : Nat) (h : vs.length = m) : rdC (H.push (.cells vs.toArray t fr)) (some ⟨H.size, 0, none⟩) m vs :=
  ⟨h, fun _ => ⟨H.size, 0, rfl, fun j v hv => by rw [Nat.zero_add, cel_new]; simpa using hv⟩⟩
theorem flatMap_get {α β : Type} (f : α → List β) (sz : Nat) : ∀ (xs : List α), (∀ x ∈ xs, (f x).length = sz) → (xs.flatMap f).length = xs.length * sz ∧
    ∀ j v, (xs.flatMap f)[j]? = some v → ∃ i r x, xs[i]? = some x ∧ j = i * sz + r ∧ r < sz ∧ (f x)[r]? = some v
  | [], _ => ⟨by simp, fun j v h => by simp at h⟩
  | x :: xs, h => by
    obtain ⟨h1, h2⟩ := flatMap_get f sz xs fun y hy => h y (List.mem_cons_of_mem _ hy)
    have hx := h x List.mem_cons_self
    refine ⟨by simp only [List.flatMap_cons, List.length_append, hx, h1, List.length_cons, Nat.add_mul]; omega, fun j v hj => ?_⟩
    rw [List.flatMap_cons] at hj
    by_cases hl : j < sz
    · rw [List.getElem?_append_left (by omega)] at hj
      exact ⟨0, j, x, rfl, by omega, hl, hj⟩
    · rw [List.getElem?_append_right (by omega), hx] at hj
      obtain ⟨i, r, y, e1, e2, e3, e4⟩ := h2 _ _ hj
      exact ⟨i + 1, r, y, by simpa using e1, by rw [Nat.add_mul]; omega, e3, e4⟩
theorem flatMap_at {α β : Type} (f : α → List β) (sz : Nat) : ∀ (xs : List α), (∀ x ∈ xs, (f x).length = sz) → ∀ (i : Nat) (x : α), xs[i]? = some x → ∀ (r : Nat) (v : β), (f x)[r]? = some v → (xs.flatMap f)[i * sz + r]? = some v
  | y :: xs, h, 0, x, hx, r, v, hv => by
    simp at hx; subst hx
    rw [List.flatMap_cons, List.getElem?_append_left (by have := (List.getElem?_eq_some_iff.1 hv).1; omega)]
    simpa using hv
  | y :: xs, h, i + 1, x, hx, r, v, hv => by
    simp at hx
    have hy := h y List.mem_cons_self
    rw [List.flatMap_cons, List.getElem?_append_right (by rw [hy, Nat.add_mul]; omega), hy]
    rw [show (i + 1) * sz + r - sz = i * sz + r by rw [Nat.add_mul]; omega]
    exact flatMap_at f sz xs (fun z hz => h z (List.mem_cons_of_mem _ hz)) i x hx r v hv
/-- A row as its cells. -/
theorem rowR.rd {α : Type} {E : Hp → Nat → Nat → α → Prop} {sz : Nat} (enc : α → List Value) (hl : ∀ x, (enc x).length = sz) (hE : ∀ H b o x, E H b o x → ∀ r v, (enc x)[r]? = some v → cel H b (o + r) = some v)
    {H : Hp} {A : Option Addr} {n : Nat} {xs : List α} (h : rowR E sz H A n xs) : rdC H A (n * sz) (xs.flatMap enc) := by
  obtain ⟨h1, h2⟩ := flatMap_get enc sz xs fun x _ => hl x
  refine ⟨by rw [h1, h.1], fun hp => ?_⟩
  have hn : 0 < n := by rcases Nat.eq_zero_or_pos n with e | e; (rw [e] at hp; omega); exact e
  obtain ⟨x0, hx0⟩ : ∃ x0, xs[0]? = some x0 := ⟨_, List.getElem?_eq_getElem (by rw [h.1]; exact hn)⟩
  obtain ⟨b, o, hA, _⟩ := h.2 0 x0 hx0
  refine ⟨b, o, hA, fun j v hj => ?_⟩
  obtain ⟨i, r, x, e1, e2, e3, e4⟩ := h2 j v hj
  obtain ⟨b2, o2, hA2, hx⟩ := h.2 i x e1
  rw [hA] at hA2; cases hA2
  have := hE _ _ _ _ hx r v e4
  rw [e2, ← Nat.add_assoc]; exact this
theorem ownC.row {α : Type} {E : Hp → Nat → Nat → α → Prop} {sz : Nat} (enc : α → List Value) (hl : ∀ x, (enc x).length = sz)
    {H : Hp} {base : Nat} {t : TypeId} {A : Option Addr} {n c : Nat} {xs : List α} (h : ownC H base t sz A n c (xs.flatMap enc)) (hs : 0 < sz)
    (hE : ∀ b o x, x ∈ xs → (∀ r v, (enc x)[r]? = some v → cel H b (o + r) = some v) → E H b o x) : rowR E sz H A n xs := by
  obtain ⟨h1, h2⟩ := flatMap_get enc sz xs fun x _ => hl x
  have hlen : xs.length = n := by
    have := h.1; rw [h1] at this; exact Nat.eq_of_mul_eq_mul_right hs this
  refine ⟨hlen, fun i x hx => ?_⟩
  have hi : i < n := by rw [← hlen]; exact (List.getElem?_eq_some_iff.1 hx).1
  have hpos : 0 < n * sz := Nat.mul_pos (by omega) hs
  obtain ⟨b, o, e, hc⟩ := h.rd.2 hpos
  refine ⟨b, o, e, hE _ _ _ (List.mem_iff_getElem?.2 ⟨i, hx⟩) fun r v hv => ?_⟩
  have := hc (i * sz + r) v (flatMap_at enc sz xs (fun x _ => hl x) i x hx r v hv)
  rw [← Nat.add_assoc] at this; exact this
def encU (x : Int) : List Value := [.int .u8 x]
theorem encU_rd : ∀ H b o x, isU8 H b o x → ∀ r v, (encU x)[r]? = some v → cel H b (o + r) = some v := by
  intro H b o x h r v hv
  match r, hv with
  | 0, hv => simp [encU] at hv; subst hv; exact h.1
theorem encU_is {H : Hp} {b o : Nat} {x : Int} (hx : 0 ≤ x ∧ x < 256) (h : ∀ r v, (encU x)[r]? = some v → cel H b (o + r) = some v) : isU8 H b o x := ⟨h 0 _ rfl, hx⟩
end Go.Proofs.Ytkkjjjgcfnhabaa.Eng
namespace Go.Proofs.Ytkkjjjgcfnhabaa.Eng
open Go Go.Proofs
theorem ownC.base_le {H : Hp} {base base' : Nat} {t : TypeId} {sz : Nat} {A : Option Addr} {n c : Nat} {vs : List Value} (h : ownC H base t sz A n c vs) (hb : base' ≤ base) : ownC H base' t sz A n c vs := by
  obtain ⟨h1, h2, h | ⟨b, cs, h3, h4⟩⟩ := h
  · exact ⟨h1, h2, Or.inl h⟩
  · exact ⟨h1, h2, Or.inr ⟨b, cs, Nat.le_trans hb h3, h4⟩⟩
theorem flat_one {α : Type} (enc : α → List Value) (hv : ∀ x, ∀ v ∈ enc x, v.oneCell' = true) (xs : List α) : ∀ v ∈ xs.flatMap enc, v.oneCell' = true := by
  intro v h
  obtain ⟨x, _, hx⟩ := List.mem_flatMap.1 h
  exact hv x v hx
theorem encU_one (x : Int) : ∀ v ∈ encU x, v.oneCell' = true := by simp [encU, Value.oneCell']
end Go.Proofs.Ytkkjjjgcfnhabaa.Eng
namespace Go.Proofs.Ytkkjjjgcfnhabaa.Eng
open Go Go.Proofs
theorem rowR.pre {α : Type} {E : Hp → Nat → Nat → α → Prop} {sz : Nat} {H : Hp} {A : Option Addr} {n m : Nat} {xs ys : List α} (h : rowR E sz H A n (xs ++ ys)) (hl : xs.length = m) : rowR E sz H A m xs :=
  ⟨hl, fun i x hx => h.2 i x (by rw [List.getElem?_append_left (List.getElem?_eq_some_iff.1 hx).1]; exact hx)⟩
end Go.Proofs.Ytkkjjjgcfnhabaa.Eng
namespace Go.Proofs.Ytkkjjjgcfnhabaa.Eng
open Go Go.Proofs
theorem own_put {H : Hp} {base : Nat} {t : TypeId} {sz : Nat} {b n c : Nat} {vs : List Value} (h : ownC H base t sz (some ⟨b, 0, none⟩) n c vs) {o : Nat} {ws : List Value} (ho : o + ws.length ≤ n * sz) :
    ownC (hput H b o ws) base t sz (some ⟨b, 0, none⟩) n c (lspl vs o ws) := by
  obtain ⟨h1, h2, h | ⟨b', cs, h3, h4, h5, h6, h7⟩⟩ := h
  · cases h.1
  · cases h4
    have hc : n * sz ≤ c * sz := Nat.mul_le_mul_right _ h2
    refine ⟨by simp [lspl]; omega, h2, Or.inr ⟨b, _, h3, rfl, objAt_hput h5 o ws, by rw [size_spl _ _ _ (by omega)]; exact h6, ?_⟩⟩
    simp only [spl, lspl, ← h7]
    rw [List.take_take, List.drop_take, Nat.min_eq_left (by omega)]
    rw [List.append_assoc, List.append_assoc, List.take_append, List.take_append]
    have e1 : (List.take o cs.toList).length = o := by simp; omega
    rw [e1, List.take_of_length_le (by omega), List.take_of_length_le (show ws.length ≤ n * sz - o by omega)]
    rw [Nat.sub_sub]
theorem own_canPut {H : Hp} {base : Nat} {t : TypeId} {sz : Nat} {b n c : Nat} {vs : List Value} (h : ownC H base t sz (some ⟨b, 0, none⟩) n c vs) {o : Nat} {ws : List Value} (ho : o + ws.length ≤ n * sz)
    (hv : ∀ v ∈ ws, v.oneCell' = true) : canPut H b o ws := by
  obtain ⟨h1, h2, h | ⟨b', cs, h3, h4, h5, h6, h7⟩⟩ := h
  · cases h.1
  · cases h4
    have hc : n * sz ≤ c * sz := Nat.mul_le_mul_right _ h2
    exact objAt_canPut h5 (by omega) hv
end Go.Proofs.Ytkkjjjgcfnhabaa.Eng


namespace Go.Proofs.Ytkkjjjgcfnhabaa.Eng
open Go Go.Proofs
theorem cells5 : Try.prog.cellsOf 5 = 1 := by kernel_rfl
theorem bytes5 : Try.prog.bytesOf 5 = 1 := by kernel_rfl
theorem okc_int {P : Program} {H : Hp} {d : Nat} {t : TypeId} {k : IntKind} {cs : List Value} (hu : P.underlying t = some (.int k)) (h : Okc P H (d + 1) t cs) : ∃ n, cs = [.int k n] ∧ iMin k ≤ n ∧ n ≤ iMax k := by
  unfold Okc at h; rw [hu] at h; exact h
theorem ok_u8 {H : Hp} {d : Nat} {cs : List Value} (h : Okc Try.prog H (d + 1) 5 cs) : ∃ n, cs = [.int .u8 n] ∧ 0 ≤ n ∧ n ≤ 255 := okc_int Try.underlying5 h
/-- A slice that came in: a row of its first elements. -/
theorem ok_slice {P : Program} {H : Hp} {d : Nat} {t e : TypeId} {cs : List Value} (hu : P.underlying t = some (.slice e)) (h : Okc P H (d + 1) t cs) {α : Type} {E : Hp → Nat → Nat → α → Prop} (hp : 0 < P.cellsOf e)
    (hE : ∀ b o vs, vs.length = P.cellsOf e → (∀ j v, vs[j]? = some v → cel H b (o + j) = some v) → Okc P H d e vs → ∃ x, E H b o x) :
    ∃ A n c xs, cs = [.slice A n c] ∧ n ≤ c ∧ c * P.bytesOf e ≤ 140737488351232 ∧ rowR E (P.cellsOf e) H A n xs := by
  unfold Okc at h; rw [hu] at h
  obtain ⟨A, n, c, rfl, hnc, _, hb, hel⟩ := h
  have : ∀ i, i < n → ∃ x, ∃ b o, A = some ⟨b, o, none⟩ ∧ E H b (o + i * P.cellsOf e) x := by
    intro i hi
    obtain ⟨b, o, vs, hA, hl, hc, ho⟩ := hel i (by omega)
    obtain ⟨x, hx⟩ := hE b (o + i * P.cellsOf e) vs hl hc ho
    exact ⟨x, b, o, hA hp, hx⟩
  refine ⟨A, n, c, (List.range n).attach.map fun i => (this i.1 (List.mem_range.1 i.2)).choose, rfl, hnc, hb, by simp, fun i x hx => ?_⟩
  simp only [List.getElem?_map, Option.map_eq_some_iff] at hx
  obtain ⟨⟨k, hk⟩, h1, rfl⟩ := hx
  have hki : k = i := by
    have := congrArg (Option.map Subtype.val) h1
    rw [← List.getElem?_map] at this
    simp only [List.attach_map_val, Option.map_some] at this
    have h2 := (List.getElem?_eq_some_iff.1 this).2
    simpa using h2.symm
  subst hki
  exact (this k (List.mem_range.1 hk)).choose_spec
theorem ok_bytes {H : Hp} {d : Nat} {cs : List Value} (h : Okc Try.prog H (d + 2) 59 cs) : ∃ A n c xs, cs = [.slice A n c] ∧ n ≤ c ∧ c ≤ 140737488351232 ∧ bytesR H A n xs := by
  obtain ⟨A, n, c, xs, h1, h2, h3, h4⟩ := ok_slice (E := isU8) Try.underlying59 h (by rw [cells5]; decide) fun b o vs hl hc ho => by
    obtain ⟨x, rfl, u1, u2⟩ := ok_u8 ho
    exact ⟨x, hc 0 _ rfl, u1, by omega⟩
  rw [cells5] at h4; rw [bytes5] at h3
  exact ⟨A, n, c, xs, h1, h2, by omega, h4⟩
theorem arg_scalar {P : Program} {H : Hp} {t : TypeId} {v : Value} (h : Argv P H t v) (ha : isAggD (P.underlying t) = false) : vcells v = [v] := by
  rcases h.shape with ⟨e, _⟩ | ⟨_, e⟩
  · rw [ha] at e; cases e
  · exact e
end Go.Proofs.Ytkkjjjgcfnhabaa.Eng
namespace Go.Proofs.Ytkkjjjgcfnhabaa.Eng
open Go
/-- A thing: what it weighs, and how often each symbol is in it. -/
structure Th where
  w : Int
  o : List Int
  len : o.length = 256
theorem Th.ext' {x y : Th} (h1 : x.w = y.w) (h2 : x.o = y.o) : x = y := by cases x; cases y; simp at h1 h2; subst h1; subst h2; rfl
section
variable (rk : Th → Nat)
def lx (x y : Th) : Prop := x.w < y.w ∨ (x.w = y.w ∧ rk x < rk y)
theorem lx_trans {x y z : Th} (h : lx rk x y) (k : lx rk y z) : lx rk x z := by
  unfold lx at *; omega
theorem lx_asymm {x y : Th} (h : lx rk x y) : ¬ lx rk y x := by unfold lx at *; omega
def srt (l : List Th) : Prop := l.Pairwise (lx rk)
def rin (l : List Th) : Prop := l.Pairwise fun x y => rk x < rk y
def rbe (l m : List Th) : Prop := ∀ x ∈ l, ∀ y ∈ m, rk x < rk y
def allx (l m : List Th) : Prop := ∀ x ∈ l, ∀ y ∈ m, lx rk x y
theorem srt_app {l m : List Th} : srt rk (l ++ m) ↔ srt rk l ∧ srt rk m ∧ allx rk l m := List.pairwise_append
theorem srt_insert {u v : List Th} {x : Th} (h : srt rk (u ++ v)) (h1 : ∀ y ∈ u, lx rk y x) (h2 : ∀ y ∈ v, lx rk x y) : srt rk (u ++ x :: v) := by
  obtain ⟨a, b, c⟩ := (srt_app rk).1 h
  refine (srt_app rk).2 ⟨a, List.pairwise_cons.2 ⟨h2, b⟩, fun y hy z hz => ?_⟩
  rcases List.mem_cons.1 hz with e | e
  · subst e; exact h1 y hy
  · exact c y hy z e
theorem srt_last {u : List Th} {x y : Th} (h : srt rk (u ++ [y])) (hx : lx rk y x) : ∀ z ∈ u ++ [y], lx rk z x := by
  intro z hz
  rcases List.mem_append.1 hz with e | e
  · exact lx_trans rk (((srt_app rk).1 h).2.2 z e y (by simp)) hx
  · simp at e; subst e; exact hx
theorem srt_head {u : List Th} {x y : Th} (h : srt rk (y :: u)) (hx : lx rk x y) : ∀ z ∈ y :: u, lx rk x z := by
  intro z hz
  rcases List.mem_cons.1 hz with e | e
  · subst e; exact hx
  · exact lx_trans rk hx ((List.pairwise_cons.1 h).1 z e)
theorem rbe_perm {l l' m m' : List Th} (h : rbe rk l m) (h1 : l'.Perm l) (h2 : m'.Perm m) : rbe rk l' m' := fun x hx y hy => h x (h1.mem_iff.1 hx) y (h2.mem_iff.1 hy)
theorem allx_perm {l l' m m' : List Th} (h : allx rk l m) (h1 : l'.Perm l) (h2 : m'.Perm m) : allx rk l' m' := fun x hx y hy => h x (h1.mem_iff.1 hx) y (h2.mem_iff.1 hy)
/-- Two sorted rows of the same things are one. -/
theorem srt_unique : ∀ {l m : List Th}, l.Perm m → srt rk l → srt rk m → l = m
  | [], m, p, _, _ => (List.Perm.nil_eq p)
  | x :: l, [], p, _, _ => by have := p.length_eq; simp at this
  | x :: l, y :: m, p, h, k => by
    have hx : x = y := by
      by_cases e : x = y
      · exact e
      · have a : x ∈ y :: m := p.mem_iff.1 List.mem_cons_self
        have b : y ∈ x :: l := p.mem_iff.2 List.mem_cons_self
        rcases List.mem_cons.1 a with a | a
        · exact a
        rcases List.mem_cons.1 b with b | b
        · exact b.symm
        exact absurd ((List.pairwise_cons.1 k).1 x a) (lx_asymm rk ((List.pairwise_cons.1 h).1 y b))
    subst hx
    rw [srt_unique (List.Perm.cons_inv p) (List.pairwise_cons.1 h).2 (List.pairwise_cons.1 k).2]
/-- Two sorted rows, all of the one ahead of all of the other by rank: what the split of a merge is. -/
theorem cross {A1 A2 B1 B2 : List Th} (hA : srt rk (A1 ++ A2)) (hB : srt rk (B1 ++ B2)) (hr : rbe rk (A1 ++ A2) (B1 ++ B2))
    (h1 : A1 = [] ∨ B2 = [] ∨ ∃ a u b v, A1 = u ++ [a] ∧ B2 = b :: v ∧ a.w ≤ b.w) (h2 : B1 = [] ∨ A2 = [] ∨ ∃ b u a v, B1 = u ++ [b] ∧ A2 = a :: v ∧ b.w < a.w) :
    allx rk (A1 ++ B1) (A2 ++ B2) := by
  obtain ⟨a1, a2, a3⟩ := (srt_app rk).1 hA
  obtain ⟨b1, b2, b3⟩ := (srt_app rk).1 hB
  have c1 : allx rk A1 B2 := by
    rcases h1 with h | h | ⟨a, u, b, v, e1, e2, hw⟩
    · subst h; intro x hx; simp at hx
    · subst h; intro x hx y hy; simp at hy
    · subst e1; subst e2
      have hab : lx rk a b := by
        have := hr a (by simp) b (by simp)
        unfold lx; omega
      intro x hx y hy
      have q1 : ∀ z ∈ u ++ [a], lx rk z b := srt_last rk a1 hab
      have q2 := q1 x hx
      exact srt_head rk b2 q2 y hy
  have c2 : allx rk B1 A2 := by
    rcases h2 with h | h | ⟨b, u, a, v, e1, e2, hw⟩
    · subst h; intro x hx; simp at hx
    · subst h; intro x hx y hy; simp at hy
    · subst e1; subst e2
      have hab : lx rk b a := Or.inl hw
      intro x hx y hy
      exact srt_head rk a2 (srt_last rk b1 hab x hx) y hy
  intro x hx y hy
  rcases List.mem_append.1 hx with hx | hx <;> rcases List.mem_append.1 hy with hy | hy
  · exact a3 x hx y hy
  · exact c1 x hx y hy
  · exact c2 x hx y hy
  · exact b3 x hx y hy
end
/-- A row with a part of it exchanged. -/
def isSw {α : Type} (xs ys : List α) (a b i : Nat) : Prop :=
  ys.length = xs.length ∧ ∀ k, ys[k]? = if a ≤ k ∧ k < a + i then xs[k - a + b]? else if b ≤ k ∧ k < b + i then xs[k - b + a]? else xs[k]?
theorem isSw_step {α : Type} {xs ys : List α} {a b i : Nat} {x y : α} (h : isSw xs ys a b i) (hab : a + (i + 1) ≤ b) (hx : ys[b + i]? = some x) (hy : ys[a + i]? = some y) : isSw xs ((ys.set (a + i) x).set (b + i) y) a b (i + 1) := by
  obtain ⟨hl, hg⟩ := h
  have lb := (List.getElem?_eq_some_iff.1 hx).1
  refine ⟨by simp [hl], fun k => ?_⟩
  rw [List.getElem?_set, List.getElem?_set]
  have gx := hg (b + i)
  have gy := hg (a + i)
  rw [hx, if_neg (by omega), if_neg (by omega)] at gx
  rw [hy, if_neg (by omega), if_neg (by omega)] at gy
  by_cases k1 : b + i = k
  · subst k1
    rw [if_pos rfl, if_pos (by simp; omega), if_neg (by omega), if_pos (by omega), gy]
    congr 1; omega
  · rw [if_neg k1]
    by_cases k2 : a + i = k
    · subst k2
      rw [if_pos rfl, if_pos (by omega), if_pos (by omega), gx]
      congr 1; omega
    · rw [if_neg k2, hg k]
      by_cases q1 : a ≤ k ∧ k < a + i
      · rw [if_pos q1, if_pos (by omega)]
      · rw [if_neg q1]
        by_cases q2 : b ≤ k ∧ k < b + i
        · rw [if_pos q2, if_neg (by omega), if_pos (by omega)]
        · rw [if_neg q2, if_neg (by omega), if_neg (by omega)]
theorem isSw_parts {α : Type} {p U M V s ys : List α} {m : Nat} (hU : U.length = m) (hV : V.length = m) (h : isSw (p ++ U ++ M ++ V ++ s) ys p.length (p ++ U ++ M).length m) : ys = p ++ V ++ M ++ U ++ s := by
  apply List.ext_getElem?
  intro k
  obtain ⟨hl, hg⟩ := h
  rw [hg k]
  simp only [List.length_append, List.getElem?_append] at *
  by_cases h1 : k < p.length
  · rw [if_neg (by omega), if_neg (by omega)]
    simp only [show k < p.length + U.length + M.length + V.length by omega, show k < p.length + U.length + M.length by omega, show k < p.length + U.length by omega, h1, show k < p.length + V.length + M.length + U.length by omega, show k < p.length + V.length + M.length by omega, show k < p.length + V.length by omega, if_true]
  by_cases h2 : k < p.length + m
  · rw [if_pos (by omega)]
    simp only [show k - p.length + (p.length + U.length + M.length) < p.length + U.length + M.length + V.length by omega, show ¬ k - p.length + (p.length + U.length + M.length) < p.length + U.length + M.length by omega, show k < p.length + V.length + M.length + U.length by omega, show k < p.length + V.length + M.length by omega, show k < p.length + V.length by omega, h1, if_true, if_false]
    congr 1; omega
  by_cases h3 : k < p.length + m + M.length
  · rw [if_neg (by omega), if_neg (by omega)]
    simp only [show k < p.length + U.length + M.length + V.length by omega, show k < p.length + U.length + M.length by omega, show ¬ k < p.length + U.length by omega, show k < p.length + V.length + M.length + U.length by omega, show k < p.length + V.length + M.length by omega, show ¬ k < p.length + V.length by omega, if_true, if_false]
    congr 1; omega
  by_cases h4 : k < p.length + m + M.length + m
  · rw [if_neg (by omega), if_pos (by omega)]
    simp only [show k - (p.length + U.length + M.length) + p.length < p.length + U.length + M.length + V.length by omega, show k - (p.length + U.length + M.length) + p.length < p.length + U.length + M.length by omega, show k - (p.length + U.length + M.length) + p.length < p.length + U.length by omega, show ¬ k - (p.length + U.length + M.length) + p.length < p.length by omega, show k < p.length + V.length + M.length + U.length by omega, show ¬ k < p.length + V.length + M.length by omega, if_true, if_false]
    congr 1; omega
  · rw [if_neg (by omega), if_neg (by omega)]
    simp only [show ¬ k < p.length + U.length + M.length + V.length by omega, show ¬ k < p.length + V.length + M.length + U.length by omega, if_false]
    congr 1; omega
end Go.Proofs.Ytkkjjjgcfnhabaa.Eng
namespace Go.Proofs.Ytkkjjjgcfnhabaa.Eng
open Go Go.Proofs
structure ownB (H : Hp) (base : Nat) (A : Option Addr) (n c : Nat) (xs : List Int) : Prop where
  own : ownC H base 5 1 A n c (xs.map (Value.int .u8))
  rng : ∀ x ∈ xs, 0 ≤ x ∧ x < 256
theorem map_encU (xs : List Int) : xs.flatMap encU = xs.map (Value.int .u8) := by
  induction xs with
  | nil => rfl
  | cons a r ih => simp [encU, ih]
theorem ownB.len {H : Hp} {base : Nat} {A : Option Addr} {n c : Nat} {xs : List Int} (h : ownB H base A n c xs) : xs.length = n := by
  have := h.own.1; simpa using this
theorem ownB.row {H : Hp} {base : Nat} {A : Option Addr} {n c : Nat} {xs : List Int} (h : ownB H base A n c xs) : bytesR H A n xs := by
  have := h.own
  rw [← map_encU] at this
  exact ownC.row encU (fun _ => rfl) this (by decide) fun b o x hx hc => encU_is (h.rng x hx) hc
theorem ownB.keeps {H H' : Hp} {base : Nat} {A : Option Addr} {n c : Nat} {xs : List Int} (h : ownB H base A n c xs) (k : Keeps H H') : ownB H' base A n c xs := ⟨h.own.keeps k, h.rng⟩
theorem ownB.base_le {H : Hp} {base base' : Nat} {A : Option Addr} {n c : Nat} {xs : List Int} (h : ownB H base A n c xs) (hb : base' ≤ base) : ownB H base' A n c xs := ⟨h.own.base_le hb, h.rng⟩
theorem ownB_nil (H : Hp) (base : Nat) : ownB H base none 0 0 [] := ⟨ownC_nil .., by simp⟩
theorem bytesR.rng {H : Hp} {A : Option Addr} {n : Nat} {xs : List Int} (h : bytesR H A n xs) : ∀ x ∈ xs, 0 ≤ x ∧ x < 256 := by
  intro x hx
  obtain ⟨i, hi⟩ := List.mem_iff_getElem?.1 hx
  obtain ⟨_, _, _, _, r⟩ := h.2 i x hi
  exact r
theorem bytes_new (H : Hp) (xs : List Int) (hx : ∀ x ∈ xs, 0 ≤ x ∧ x < 256) (fr : Nat × Nat) (n : Nat) (hn : xs.length = n) : bytesR (H.push (.cells (xs.map (Value.int .u8)).toArray 5 fr)) (some ⟨H.size, 0, none⟩) n xs :=
  ⟨hn, fun i x hi => ⟨H.size, 0, rfl, by
    rw [Nat.zero_add, Nat.mul_one, cel_new]; simp [hi], hx x (List.mem_iff_getElem?.2 ⟨i, hi⟩)⟩⟩
/-- Bytes behind owned bytes. -/
theorem app_bytes {H : Hp} {base : Nat} {A : Option Addr} {n c : Nat} {xs : List Int} (h : ownB H base A n c xs) {B : Option Addr} {m d : Nat} {ys : List Int} (hs : bytesR H B m ys)
    (hn : n + m ≤ 140737488355328) (hbase : base ≤ H.size) {K : Value → Hp → Prop}
    (hK : ∀ A' c' H', ownB H' base A' (n + m) c' (xs ++ ys) → offA A H H' → (A' = A ∨ A' = some ⟨H.size, 0, none⟩) → (m = 0 ∨ A' ≠ none) → K (.slice A' (n + m) c') H') :
    appW cx 59 59 (.slice A n c) (.slice B m d) H K := by
  have hr := rowR.rd encU (fun _ => rfl) encU_rd hs
  rw [map_encU] at hr
  refine app59 h.own hr (by simp [Value.oneCell']) (by omega) hbase ?_
  intro A' c' H' w f e1 e2
  refine hK A' c' H' ⟨by rw [List.map_append]; exact w, ?_⟩ f e1 e2
  intro x hx
  rcases List.mem_append.1 hx with q | q
  · exact h.rng x q
  · exact bytesR.rng hs x q
def putL (v : Int) : List Int := if h : 128 ≤ v then (v % 128 + 128) :: putL (v / 128) else [v]
termination_by v.toNat
theorem putL_big {v : Int} (h : 128 ≤ v) : putL v = (v % 128 + 128) :: putL (v / 128) := by rw [putL, dif_pos h]
theorem putL_small {v : Int} (h : ¬ 128 ≤ v) : putL v = [v] := by rw [putL, dif_neg h]
theorem wrap_u8 (v : Int) : IntKind.wrap .u8 v = v % 256 := by
  simp only [IntKind.wrap, IntKind.bits, IntKind.signed]; simp
theorem or128 (v : Int) (h : 0 ≤ v) : bOr .u8 (IntKind.wrap .u8 v) 128 = v % 128 + 128 := by
  have key : ∀ b : BitVec 8, ((b ||| 128#8).toNat : Int) = (b.toNat : Int) % 128 + 128 := by decide
  have h1 := key (BitVec.ofInt 8 (v % 256))
  have e1 : ((BitVec.ofInt 8 (v % 256)).toNat : Int) = v % 256 := by
    rw [BitVec.toNat_ofInt]; omega
  rw [e1] at h1
  have e2 : bOr .u8 (v % 256) 128 = IntKind.wrap .u8 (((BitVec.ofInt 8 (v % 256) ||| 128#8).toNat : Nat) : Int) := rfl
  rw [wrap_u8 v, e2, h1, wrap_u8]
  omega
def numB (v : Int) : List Int := if v < 0 then [] else putL v
theorem f161.spec (φ : Fx) (v : Int) (H : Hp) (hv : v ≤ 9223372036854775807) : HCalls cx.P φ 161 [.int .i64 v] H fun r H' => ∃ A n c, r = .slice A n c ∧ ownB H' H.size A n c (numB v) ∧ Keeps H H' := by
  apply f161.of
  unfold f161.VC
  refine ⟨fun h => ?_, fun h => ?_⟩
  · simp only [decide_eq_true_eq] at h
    exact ⟨none, 0, 0, rfl, by rw [numB, if_pos h]; exact ownB_nil .., Keeps.refl _⟩
  simp only [decide_eq_false_iff_not] at h
  refine ⟨fun v2 A n c H' => Keeps H H' ∧ 0 ≤ v2 ∧ ∃ xs, ownB H' H.size A n c xs ∧ xs ++ putL v2 = putL v ∧ (n : Int) + v2 ≤ 9223372036854775807 ∧ n ≤ 64 ∧ (v2 : Int) * 2 ^ n ≤ 9223372036854775807, fun v2 _ _ _ _ => v2.toNat,
    ⟨Keeps.refl _, by omega, [], ownB_nil .., rfl, by omega, by omega, by simpa using hv⟩, ?_⟩
  rintro v2 A n c _ H1 ⟨k1, h0, xs, own, hx, hb, hn, hp⟩
  refine ⟨fun h1 => ?_, fun h1 => ?_⟩
  · simp only [decide_eq_true_eq] at h1
    intro H2
    have k12 : Keeps H1 H2 := Keeps.push ..
    have hn63 : n ≤ 62 := by
      rcases Nat.lt_or_ge 62 n with q | q
      · exfalso
        have : (2 : Int) ^ 63 ≤ 2 ^ n := by exact_mod_cast Nat.pow_le_pow_right (by decide) q
        have h3 : (128 : Int) * 2 ^ 63 ≤ v2 * 2 ^ n := Int.mul_le_mul h1 this (by decide) h0
        have : (128 : Int) * 2 ^ 63 = 1180591620717411303424 := by decide
        omega
      · exact q
    have s2 : bytesR H2 (some ⟨H1.size, 0, none⟩) 1 [v2 % 128 + 128] := by
      have := bytes_new H1 [v2 % 128 + 128] (by intro x hx; simp at hx; subst hx; omega) (0, 0) 1 rfl
      simpa [H2, or128 v2 h0] using this
    clear_value H2
    refine app_bytes (own.keeps k12) s2 (by omega) (by have := k1.size; have := k12.size; omega) ?_
    intro A' c' H3 w f e1 e2
    refine ⟨_, _, _, rfl, by omega, ⟨f.keeps (k1.trans k12) fun b hb => (own.own.lt hb).1, by omega, xs ++ [v2 % 128 + 128], w, ?_, by omega, by omega, ?_⟩, by dsimp only; omega⟩
    · rw [← hx, putL_big h1, List.append_assoc]; rfl
    · have h4 : (2 : Int) ^ (n + 1) = 2 ^ n * 2 := Int.pow_succ ..
      have h5 : v2 / 128 * 2 ≤ v2 := by omega
      have h6 : (0 : Int) ≤ 2 ^ n := Int.pow_nonneg (by decide)
      calc v2 / 128 * 2 ^ (n + 1) = (v2 / 128 * 2) * 2 ^ n := by rw [h4, Int.mul_comm (2 ^ n) 2, ← Int.mul_assoc]
        _ ≤ v2 * 2 ^ n := Int.mul_le_mul_of_nonneg_right h5 h6
        _ ≤ _ := hp
  · simp only [decide_eq_false_iff_not] at h1
    intro H2
    have k12 : Keeps H1 H2 := Keeps.push ..
    have s2 : bytesR H2 (some ⟨H1.size, 0, none⟩) 1 [v2] := by
      have := bytes_new H1 [v2] (by intro x hx; simp at hx; subst hx; omega) (0, 0) 1 rfl
      simpa [H2, wrap_u8, show v2 % 256 = v2 by omega] using this
    clear_value H2
    refine app_bytes (own.keeps k12) s2 (by omega) (by have := k1.size; have := k12.size; omega) ?_
    intro A' c' H3 w f e1 e2
    refine ⟨_, _, _, rfl, _, _, _, rfl, ?_, f.keeps (k1.trans k12) fun b hb => (own.own.lt hb).1⟩
    rw [numB, if_neg h, ← hx, putL_small h1]; exact w
end Go.Proofs.Ytkkjjjgcfnhabaa.Eng
namespace Go.Proofs.Ytkkjjjgcfnhabaa.Eng
open Go Go.Proofs
theorem f174.spec (φ : Fx) (v : Int) (H : Hp) (hv : v ≤ 9223372036854775807) : HCalls cx.P φ 174 [.int .i64 v] H fun r H' => ∃ A n c, r = .slice A n c ∧ ownB H' H.size A n c (numB v) ∧ Keeps H H' := by
  apply f174.of
  unfold f174.VC
  refine ⟨fun h => ?_, fun h => ?_⟩
  · simp only [decide_eq_true_eq] at h
    exact ⟨none, 0, 0, rfl, by rw [numB, if_pos h]; exact ownB_nil .., Keeps.refl _⟩
  simp only [decide_eq_false_iff_not] at h
  refine ⟨fun v2 A n c H' => Keeps H H' ∧ 0 ≤ v2 ∧ ∃ xs, ownB H' H.size A n c xs ∧ xs ++ putL v2 = putL v ∧ n ≤ 64 ∧ (v2 : Int) * 2 ^ n ≤ 9223372036854775807, fun v2 _ _ _ _ => v2.toNat,
    ⟨Keeps.refl _, by omega, [], ownB_nil .., rfl, by omega, by simpa using hv⟩, ?_⟩
  rintro v2 A n c _ H1 ⟨k1, h0, xs, own, hx, hn, hp⟩
  refine ⟨fun h1 => ?_, fun h1 => ?_⟩
  · simp only [decide_eq_true_eq] at h1
    have hn63 : n ≤ 62 := by
      rcases Nat.lt_or_ge 62 n with q | q
      · exfalso
        have : (2 : Int) ^ 63 ≤ 2 ^ n := by exact_mod_cast Nat.pow_le_pow_right (by decide) q
        have h3 : (128 : Int) * 2 ^ 63 ≤ v2 * 2 ^ n := Int.mul_le_mul h1 this (by decide) h0
        have : (128 : Int) * 2 ^ 63 = 1180591620717411303424 := by decide
        omega
      · exact q
    have hv2 : v2 ≤ 9223372036854775807 := by
      have h6 : (1 : Int) ≤ 2 ^ n := by exact_mod_cast Nat.one_le_two_pow
      have : v2 * 1 ≤ v2 * 2 ^ n := Int.mul_le_mul_of_nonneg_left h6 h0
      omega
    refine ⟨⟨h0, by omega⟩, by omega, ?_⟩
    intro H2
    have k12 : Keeps H1 H2 := Keeps.push ..
    have s2 : bytesR H2 (some ⟨H1.size, 0, none⟩) 1 [v2 % 128 + 128] := by
      have := bytes_new H1 [v2 % 128 + 128] (by intro x hx; simp at hx; subst hx; omega) (0, 0) 1 rfl
      simpa [H2, wrap_u8, show (v2 % 128 + 128) % 256 = v2 % 128 + 128 by omega] using this
    clear_value H2
    refine app_bytes (own.keeps k12) s2 (by omega) (by have := k1.size; have := k12.size; omega) ?_
    intro A' c' H3 w f e1 e2
    refine ⟨_, _, _, rfl, by omega, ⟨f.keeps (k1.trans k12) fun b hb => (own.own.lt hb).1, by omega, xs ++ [v2 % 128 + 128], w, ?_, by omega, ?_⟩, by dsimp only; omega⟩
    · rw [← hx, putL_big h1, List.append_assoc]; rfl
    · have h4 : (2 : Int) ^ (n + 1) = 2 ^ n * 2 := Int.pow_succ ..
      have h5 : v2 / 128 * 2 ≤ v2 := by omega
      have h6 : (0 : Int) ≤ 2 ^ n := Int.pow_nonneg (by decide)
      calc v2 / 128 * 2 ^ (n + 1) = (v2 / 128 * 2) * 2 ^ n := by rw [h4, Int.mul_comm (2 ^ n) 2, ← Int.mul_assoc]
        _ ≤ v2 * 2 ^ n := Int.mul_le_mul_of_nonneg_right h5 h6
        _ ≤ _ := hp
  · simp only [decide_eq_false_iff_not] at h1
    intro H2
    have k12 : Keeps H1 H2 := Keeps.push ..
    have s2 : bytesR H2 (some ⟨H1.size, 0, none⟩) 1 [v2] := by
      have := bytes_new H1 [v2] (by intro x hx; simp at hx; subst hx; omega) (0, 0) 1 rfl
      simpa [H2, wrap_u8, show v2 % 256 = v2 by omega] using this
    clear_value H2
    refine app_bytes (own.keeps k12) s2 (by omega) (by have := k1.size; have := k12.size; omega) ?_
    intro A' c' H3 w f e1 e2
    refine ⟨_, _, _, rfl, _, _, _, rfl, ?_, f.keeps (k1.trans k12) fun b hb => (own.own.lt hb).1⟩
    rw [numB, if_neg h, ← hx, putL_small h1]; exact w
theorem zrow_one (v : Value) (n : Nat) : zrow [v] n = (List.range n).map fun _ => v := by
  apply List.ext_getElem?
  intro i
  by_cases hi : i < n
  · rw [zrow_get _ (by simp) n i (by simpa using hi)]
    simp [hi, Nat.mod_one]
  · rw [List.getElem?_eq_none (by rw [zrow_length]; simp; omega), List.getElem?_eq_none (by simp; omega)]
theorem ownB_obj {H : Hp} {base b n : Nat} {xs : List Int} (h : objAt H b (xs.map (Value.int .u8)).toArray 5) (hb : base ≤ b) (hn : xs.length = n) (hx : ∀ x ∈ xs, 0 ≤ x ∧ x < 256) : ownB H base (some ⟨b, 0, none⟩) n n xs :=
  ⟨⟨by simp [hn], Nat.le_refl _, Or.inr ⟨b, _, hb, rfl, h, by simp [hn], by rw [Nat.mul_one]; exact List.take_of_length_le (by simp [hn])⟩⟩, hx⟩
end Go.Proofs.Ytkkjjjgcfnhabaa.Eng
namespace Go.Proofs.Ytkkjjjgcfnhabaa.Eng
open Go Go.Proofs
theorem wrap_u32 (v : Int) : IntKind.wrap .u32 v = v % 4294967296 := by
  simp only [IntKind.wrap, IntKind.bits, IntKind.signed]; simp
end Go.Proofs.Ytkkjjjgcfnhabaa.Eng


namespace Go.Proofs.Ytkkjjjgcfnhabaa.Eng
open Go Go.Proofs
theorem putL_len : ∀ (k : Nat) (v : Int), v < 128 ^ (k + 1) → (putL v).length ≤ k + 1
  | 0, v, h => by
    have : v < 128 := by simpa using h
    rw [putL_small (by omega)]; simp
  | k + 1, v, h => by
    by_cases hv : 128 ≤ v
    · rw [putL_big hv]
      have h2 : v / 128 < 128 ^ (k + 1) := by
        have e : (128 : Int) ^ (k + 1 + 1) = 128 ^ (k + 1) * 128 := Int.pow_succ ..
        rw [e] at h
        exact Int.ediv_lt_of_lt_mul (by decide) h
      have := putL_len k (v / 128) h2
      simp; omega
    · rw [putL_small hv]; simp
end Go.Proofs.Ytkkjjjgcfnhabaa.Eng






namespace Go.Proofs.Ytkkjjjgcfnhabaa.Eng
open Go Go.Proofs
/-- Other owned bytes that lie behind a buffer stay. -/
theorem offA.later {A A2 : Option Addr} {H H' : Hp} (h : offA A H H') {base2 n2 c2 : Nat} {ys : List Int} (hq : ∀ q, A = some ⟨q, 0, none⟩ → q < base2) (o : ownB H base2 A2 n2 c2 ys) : ownB H' base2 A2 n2 c2 ys :=
  ⟨o.own.frame fun k hk => h.2 k (o.own.lt hk).2 (fun e => by have := hq k e; have := (o.own.lt hk).1; omega), o.rng⟩
end Go.Proofs.Ytkkjjjgcfnhabaa.Eng




namespace Go.Proofs.Ytkkjjjgcfnhabaa.Eng
open Go Go.Proofs
theorem wrap_u64 (v : Int) : IntKind.wrap .u64 v = v % 18446744073709551616 := by
  simp only [IntKind.wrap, IntKind.bits, IntKind.signed]; simp
end Go.Proofs.Ytkkjjjgcfnhabaa.Eng






namespace Go.Proofs.Ytkkjjjgcfnhabaa.Eng
open Go Go.Proofs
theorem flat_setE {α : Type} (enc : α → List Value) (sz : Nat) (hl : ∀ x, (enc x).length = sz) (y : α) : ∀ (xs : List α) (i : Nat), i < xs.length → lspl (xs.flatMap enc) (i * sz) (enc y) = (xs.set i y).flatMap enc
  | x :: xs, 0, _ => by
    have h1 := hl x
    have h2 := hl y
    simp only [lspl, Nat.zero_mul, List.take_zero, List.nil_append, Nat.zero_add, List.flatMap_cons, List.set_cons_zero]
    rw [h2, ← h1, List.drop_left]
  | x :: xs, i + 1, hi => by
    have ih := flat_setE enc sz hl y xs i (by simpa using hi)
    have h1 := hl x
    simp only [List.flatMap_cons, List.set_cons_succ, ← ih, lspl]
    rw [Nat.succ_mul, Nat.add_comm (i * sz) sz, List.take_append, List.drop_append, h1]
    rw [List.take_of_length_le (by omega), List.drop_eq_nil_of_le (by omega)]
    simp only [List.nil_append, List.append_assoc]
    congr 3
    · omega
    · congr 2; omega
theorem own_set {α : Type} (enc : α → List Value) {sz : Nat} (hl : ∀ x, (enc x).length = sz) (h1 : ∀ x, ∀ v ∈ enc x, v.oneCell' = true) {H : Hp} {base : Nat} {t : TypeId} {b n c : Nat} {xs : List α}
    (h : ownC H base t sz (some ⟨b, 0, none⟩) n c (xs.flatMap enc)) {i : Nat} (hi : i < xs.length) (hn : xs.length = n) (y : α) :
    canPut H b (0 + i * sz) (enc y) ∧ ownC (hput H b (0 + i * sz) (enc y)) base t sz (some ⟨b, 0, none⟩) n c ((xs.set i y).flatMap enc) := by
  have hle : 0 + i * sz + (enc y).length ≤ n * sz := by
    rw [hl, Nat.zero_add, ← hn]
    have : (i + 1) * sz ≤ xs.length * sz := Nat.mul_le_mul_right _ hi
    rw [Nat.succ_mul] at this; exact this
  refine ⟨own_canPut h hle (h1 y), ?_⟩
  have := own_put h (o := 0 + i * sz) (ws := enc y) hle
  rw [Nat.zero_add] at this ⊢
  rw [flat_setE enc sz hl y xs i hi] at this
  exact this
theorem offA.refl (A : Option Addr) (H : Hp) : offA A H H := ⟨Nat.le_refl _, fun _ _ _ => rfl⟩
theorem offA.put {H H' : Hp} {b : Nat} (h : offA (some ⟨b, 0, none⟩) H H') (o : Nat) (vs : List Value) : offA (some ⟨b, 0, none⟩) H (hput H' b o vs) :=
  ⟨by rw [hput_size]; exact h.1, fun k hk hne => by rw [hput_other (fun e => hne (by rw [e]))]; exact h.2 k hk hne⟩
/-- A change behind a change of the same list, grown or not. -/
theorem offA.step {A A' : Option Addr} {H H' H'' : Hp} (h : offA A H H') (ha : A' = A ∨ ∃ q, H.size ≤ q ∧ A' = some ⟨q, 0, none⟩) (h2 : offA A' H' H'') : offA A H H'' :=
  ⟨Nat.le_trans h.1 h2.1, fun k hk hne => by
    rw [h2.2 k (Nat.lt_of_lt_of_le hk h.1) ?_]
    · exact h.2 k hk hne
    · rcases ha with e | ⟨q, hq, e⟩
      · rw [e]; exact hne
      · rw [e]; intro e2; cases e2; omega⟩
theorem offA.keep {A : Option Addr} {H H' H'' : Hp} (h : offA A H H') (k : Keeps H' H'') : offA A H H'' :=
  ⟨Nat.le_trans h.1 k.size, fun q hq hne => (k.old q (Nat.lt_of_lt_of_le hq h.1)).trans (h.2 q hq hne)⟩
/-- Bytes written into owned bytes. -/
theorem ownB_set {H : Hp} {base b n c : Nat} {xs : List Int} (h : ownB H base (some ⟨b, 0, none⟩) n c xs) {i : Nat} (hi : i < n) {y : Int} (hy : 0 ≤ y ∧ y < 256) :
    canPut H b (0 + i * 1) [.int .u8 y] ∧ ownB (hput H b (0 + i * 1) [.int .u8 y]) base (some ⟨b, 0, none⟩) n c (xs.set i y) := by
  have hl := h.len
  have ho := h.own
  rw [← map_encU] at ho
  obtain ⟨h1, h2⟩ := own_set encU (fun _ => rfl) encU_one ho (i := i) (by omega) hl y
  refine ⟨h1, by rw [← map_encU]; exact h2, fun x hx => ?_⟩
  rcases List.mem_or_eq_of_mem_set hx with q | q
  · exact h.rng x q
  · rw [q]; exact hy
theorem ownC.some_of {H : Hp} {base : Nat} {t : TypeId} {sz : Nat} {A : Option Addr} {n c : Nat} {vs : List Value} (h : ownC H base t sz A n c vs) (hn : 0 < n) : ∃ b, A = some ⟨b, 0, none⟩ ∧ base ≤ b ∧ b < H.size := by
  have := h.2.1
  obtain ⟨_, _, q | ⟨b, cs, h1, h2, h3, _⟩⟩ := h
  · omega
  · exact ⟨b, h2, h1, objAt_lt h3⟩
/-- One byte behind owned bytes. -/
theorem app_byte {H : Hp} {base : Nat} {A : Option Addr} {n c : Nat} {xs : List Int} (own : ownB H base A n c xs) (hbase : base ≤ H.size) (hn : n ≤ 140737488355327) {y : Int} (hy : 0 ≤ y ∧ y < 256) {d : Nat} {K : Value → Hp → Prop}
    (hK : ∀ A' c' H', ownB H' base A' (n + 1) c' (xs ++ [y]) → offA A H H' → (A' = A ∨ ∃ q, H.size ≤ q ∧ A' = some ⟨q, 0, none⟩) → K (.slice A' (n + 1) c') H') :
    appW cx 59 59 (.slice A n c) (.slice (some ⟨H.size, 0, none⟩) 1 d) (Array.push H (.cells #[.int .u8 y] 5 (0, 0))) K := by
  have k : Keeps H (Array.push H (.cells #[.int .u8 y] 5 (0, 0))) := Keeps.push ..
  have r : bytesR (Array.push H (.cells #[.int .u8 y] 5 (0, 0))) (some ⟨H.size, 0, none⟩) 1 [y] := by
    have := bytes_new H [y] (by intro x hx; simp at hx; subst hx; exact hy) (0, 0) 1 rfl
    simpa using this
  refine app_bytes (own.keeps k) r (by omega) (by have := k.size; omega) ?_
  intro A' c' H' w f e _
  refine hK A' c' H' w ⟨Nat.le_trans k.size f.1, fun q hq hne => by rw [f.2 q (Nat.lt_of_lt_of_le hq k.size) hne]; exact k.old q hq⟩ ?_
  rcases e with e | e
  · exact Or.inl e
  · exact Or.inr ⟨_, k.size, e⟩
end Go.Proofs.Ytkkjjjgcfnhabaa.Eng
namespace Go.Proofs.Ytkkjjjgcfnhabaa.Eng
open Go Go.Proofs
theorem nat_or_add {v d k : Nat} (h : v < 2 ^ k) : v ||| d * 2 ^ k = v + d * 2 ^ k := by
  have := Nat.two_pow_add_eq_or_of_lt h d
  rw [Nat.or_comm, Nat.mul_comm d, ← this, Nat.add_comm]
end Go.Proofs.Ytkkjjjgcfnhabaa.Eng
namespace Go.Proofs.Ytkkjjjgcfnhabaa.Eng
open Go Go.Proofs
theorem ownB.frame {H H' : Hp} {base : Nat} {A : Option Addr} {n c : Nat} {xs : List Int} (h : ownB H base A n c xs) (hf : ∀ b, A = some ⟨b, 0, none⟩ → H'[b]? = H[b]?) : ownB H' base A n c xs := ⟨h.own.frame hf, h.rng⟩
theorem objAt.frame {H H' : Hp} {b : Nat} {cs : Array Value} {t : TypeId} (h : objAt H b cs t) (hf : H'[b]? = H[b]?) : objAt H' b cs t := by unfold objAt at h ⊢; rw [hf]; exact h
theorem ownC.tob {H : Hp} {base : Nat} {t : TypeId} {sz : Nat} {A : Option Addr} {n c : Nat} {vs : List Value} (h : ownC H base t sz A n c vs) {b : Nat} (hb : A = some ⟨b, 0, none⟩) : ∃ cs, objAt H b cs t := by
  obtain ⟨_, _, h | ⟨b', cs, h1, h2, h3, _⟩⟩ := h
  · rw [h.1] at hb; cases hb
  · rw [h2] at hb; cases hb; exact ⟨cs, h3⟩
theorem objAt_put {H : Hp} {b : Nat} {cs : Array Value} {t : TypeId} (h : objAt H b cs t) (o : Nat) (vs : List Value) (cs' : Array Value) (he : spl cs o vs = cs') : objAt (hput H b o vs) b cs' t := by
  rw [← he]; exact objAt_hput h o vs
end Go.Proofs.Ytkkjjjgcfnhabaa.Eng




namespace Go.Proofs.Ytkkjjjgcfnhabaa.Eng
open Go Go.Proofs
/-- As app_own; and where the list moved, nothing that was there has turned. -/
theorem app_own' {C : Ctx} {t tx : TypeId} {i : TI} {e : TypeId} {ie : TI} (hi : tget C.T t = some i) (hk : i.k = .slc e) (hie : tget C.T e = some ie)
    {x : Value} (hb : (srcB C tx x && Nat.blt 0 ie.size && Nat.blt 0 ie.bytes && Nat.beq ie.zero.length ie.size) = true) {H : Hp} {base : Nat} {A : Option Addr} {n c : Nat} {vs : List Value}
    (h : ownC H base e ie.size A n c vs) {m : Nat} {ys : List Value} (hs : srcC H ie.size x m ys) (hy : ys.length = m * ie.size) (hv : ∀ v ∈ ys, v.oneCell' = true) (hn : (n + m) * ie.bytes ≤ 140737488355328)
    (hbase : base ≤ H.size) {K : Value → Hp → Prop}
    (hK : ∀ A' c' H', ownC H' base e ie.size A' (n + m) c' (vs ++ ys) → offA A H H' → ((A' = A ∧ c' = c) ∨ (A' = some ⟨H.size, 0, none⟩ ∧ Keeps H H')) → (m = 0 ∨ A' ≠ none) → K (.slice A' (n + m) c') H') :
    appW C t tx (.slice A n c) x H K := by
  obtain ⟨hl, hnc, ho⟩ := h
  have hsz : 0 < ie.size := by
    simp only [Bool.and_eq_true] at hb; exact Nat.le_of_ble_eq_true hb.1.1.2
  have hzl : ie.zero.length = ie.size := by
    simp only [Bool.and_eq_true] at hb; exact Nat.eq_of_beq_eq_true hb.2
  unfold appW
  simp only [hi, hk, hie]
  rw [hb]
  refine ⟨m, ys, hs, fun hc => ?_, fun hc => ⟨hn, vs, ?_, fun cap h1 h2 => ?_⟩⟩
  · rcases ho with ⟨rfl, rfl⟩ | ⟨b, cs, h3, rfl, h5, h6, h7⟩
    · have : m = 0 := by omega
      subst this
      have : ys = [] := List.eq_nil_of_length_eq_zero (by omega)
      subst this
      refine ⟨Or.inl rfl, ?_⟩
      have := hK none 0 H ⟨by simp [hl], by omega, Or.inl ⟨rfl, rfl⟩⟩ ⟨Nat.le_refl _, fun _ _ _ => rfl⟩ (Or.inl ⟨rfl, rfl⟩) (Or.inl rfl)
      simpa [hputA] using this
    · have hle : n * ie.size + ys.length ≤ cs.size := by
        rw [hy, h6, ← Nat.add_mul]; exact Nat.mul_le_mul_right _ hc
      refine ⟨Or.inr ⟨b, 0, rfl, cs, e, 0, 0, h5, by simpa using hle, by omega, hv⟩, ?_⟩
      have ho' := objAt_hput h5 (0 + n * ie.size) ys
      rw [Nat.zero_add] at ho'
      refine hK _ _ _ ⟨by simp [hl, hy, Nat.add_mul], hc, Or.inr ⟨b, _, h3, rfl, ?_, by rw [size_spl _ _ _ hle]; exact h6, ?_⟩⟩ ⟨by simp [hputA, hput_size], fun k hk hne => ?_⟩ (Or.inl ⟨rfl, rfl⟩) (Or.inr (by simp))
      · simpa [hputA] using ho'
      · rw [Nat.add_mul, ← hy, spl_take hle, h7]
      · simp only [hputA]
        exact hput_other (fun e => hne (by rw [e]))
  · have h : ownC H base e ie.size A n c vs := ⟨hl, hnc, ho⟩
    exact h.rd
  · refine hK _ _ _ ⟨by simp [hl, hy, Nat.add_mul], h1, Or.inr ⟨H.size, _, hbase, rfl, objAt_new _ _ _, ?_, ?_⟩⟩ ⟨by simp, fun k hk _ => ?_⟩ (Or.inr ⟨rfl, Keeps.push ..⟩) (Or.inr (by simp))
    · simp only [List.size_toArray, List.length_append, hl, hy, zrow_length, hzl]
      rw [← Nat.add_mul, ← Nat.add_mul]; congr 1; omega
    · simp only [List.toList_toArray]
      rw [List.take_append_of_le_length (by simp [hl, hy, Nat.add_mul])]
      rw [List.take_of_length_le (by simp [hl, hy, Nat.add_mul])]
    · rw [Array.getElem?_push, if_neg (by omega)]
end Go.Proofs.Ytkkjjjgcfnhabaa.Eng
namespace Go.Proofs.Ytkkjjjgcfnhabaa.Eng
open Go Go.Proofs
def encTh (x : Th) : List Value := Value.int .i64 x.w :: (List.map (Value.int .u8) x.o ++ [])
theorem encTh_len (x : Th) : (encTh x).length = 257 := by simp [encTh, x.len]
theorem encTh_one (x : Th) : ∀ v ∈ encTh x, v.oneCell' = true := by
  intro v hv
  rcases List.mem_cons.1 hv with e | e
  · subst e; rfl
  · rw [List.append_nil] at e
    obtain ⟨y, _, rfl⟩ := List.mem_map.1 e
    rfl
def isTh (H : Hp) (b o : Nat) (x : Th) : Prop := ∀ r v, (encTh x)[r]? = some v → cel H b (o + r) = some v
theorem isTh.mono : Mono isTh := fun _ _ _ _ _ k h r v hv => k.cel (h r v hv)
theorem isTh.w {H : Hp} {b o : Nat} {x : Th} (h : isTh H b o x) : cel H b o = some (.int .i64 x.w) := h 0 _ rfl
theorem isTh.o {H : Hp} {b o : Nat} {x : Th} (h : isTh H b o x) {j : Nat} (hj : j < 256) : cel H b (o + 1 + j) = some (.int .u8 (x.o.getD j 0)) := by
  have : (encTh x)[j + 1]? = some (.int .u8 (x.o.getD j 0)) := by
    simp only [encTh, List.getElem?_cons_succ, List.append_nil, List.getElem?_map]
    rw [List.getD_eq_getElem?_getD, List.getElem?_eq_getElem (by rw [x.len]; exact hj)]; rfl
  have := h (j + 1) _ this
  rw [show o + (j + 1) = o + 1 + j by omega] at this; exact this
theorem list256 {a b : List Int} (ha : a.length = 256) (hb : b.length = 256) (h : ∀ j, j < 256 → a.getD j 0 = b.getD j 0) : a = b := by
  apply List.ext_getElem?
  intro j
  by_cases hj : j < 256
  · have := h j hj
    rw [List.getD_eq_getElem?_getD, List.getD_eq_getElem?_getD, List.getElem?_eq_getElem (by omega), List.getElem?_eq_getElem (by omega)] at this
    rw [List.getElem?_eq_getElem (by omega), List.getElem?_eq_getElem (by omega)]
    simpa using this
  · rw [List.getElem?_eq_none (by omega), List.getElem?_eq_none (by omega)]
/-- A thing is read. -/
theorem xT {H : Hp} {b o : Nat} {x : Th} (h : isTh H b o x) (P : Int → List Int → Prop) :
    (∃ w : Int, cel H b o = some (.int .i64 w) ∧ ∃ of : List Int, (of.length = 256 ∧ ∀ j, j < 256 → cel H b (o + 1 + j) = some (.int .u8 (of.getD j 0))) ∧ P w of) = P x.w x.o := by
  apply propext; constructor
  · rintro ⟨w, e1, of, ⟨hl, e2⟩, p⟩
    rw [h.w] at e1; cases e1
    have : of = x.o := list256 hl x.len fun j hj => by
      have a := e2 j hj
      rw [h.o hj] at a
      injection a with a; injection a with _ a; exact a.symm
    rw [← this]; exact p
  · intro p
    exact ⟨_, h.w, _, ⟨x.len, fun j hj => h.o hj⟩, p⟩
theorem fitsTh (x : Th) (p : Prop) : fitsN (List.map (Value.int .u8) x.o ++ [] : List Value) 256 p = p := by
  apply propext; rw [fitsN_iff]; simp [x.len]
abbrev thR := rowR isTh 257
def ownTh (H : Hp) (base : Nat) (A : Option Addr) (n c : Nat) (xs : List Th) : Prop := ownC H base 180 257 A n c (xs.flatMap encTh)
theorem ownTh.len {H : Hp} {base : Nat} {A : Option Addr} {n c : Nat} {xs : List Th} (h : ownTh H base A n c xs) : xs.length = n := by
  have h1 := h.1
  have h2 := (flatMap_get encTh 257 xs fun x _ => encTh_len x).1
  rw [h2] at h1
  exact Nat.eq_of_mul_eq_mul_right (by decide) h1
theorem ownTh.row {H : Hp} {base : Nat} {A : Option Addr} {n c : Nat} {xs : List Th} (h : ownTh H base A n c xs) : thR H A n xs :=
  ownC.row encTh encTh_len h (by decide) fun b o x _ hc => hc
theorem ownTh.keeps {H H' : Hp} {base : Nat} {A : Option Addr} {n c : Nat} {xs : List Th} (h : ownTh H base A n c xs) (k : Keeps H H') : ownTh H' base A n c xs := ownC.keeps h k
theorem ownTh.at {H : Hp} {base b n c : Nat} {xs : List Th} (h : ownTh H base (some ⟨b, 0, none⟩) n c xs) {i : Nat} (hi : i < n) : ∃ x, xs[i]? = some x ∧ isTh H b (0 + i * 257) x := by
  obtain ⟨x, b', o', h1, h2, h3⟩ := h.row.at (i := (i : Int)) (by omega) (by omega)
  cases h2
  exact ⟨x, h1, h3⟩
theorem ownTh.set {H : Hp} {base b n c : Nat} {xs : List Th} (h : ownTh H base (some ⟨b, 0, none⟩) n c xs) {i : Nat} (hi : i < n) (y : Th) :
    canPut H b (0 + i * 257) (encTh y) ∧ ownTh (hput H b (0 + i * 257) (encTh y)) base (some ⟨b, 0, none⟩) n c (xs.set i y) := by
  have hl := h.len
  exact own_set encTh encTh_len encTh_one h (i := i) (by omega) hl y
def cmpW (x y : Th) : Int := if x.w < y.w then -1 else if y.w < x.w then 1 else 0
theorem cmpW_neg (x y : Th) : cmpW x y < 0 ↔ x.w < y.w := by unfold cmpW; split <;> (try split) <;> omega
abbrev cmpV : Value := .func (.func 171) #[] #[]
theorem f171.spec (φ : Fx) (x y : Th) (H : Hp) : HCalls cx.P φ 171 [.agg (encTh x).toArray, .agg (encTh y).toArray] H fun r H' => r = .int .i64 (cmpW x y) ∧ Keeps H H' := by
  apply f171.of
  unfold f171.VC
  intro H1
  have o1 : objAt H1 H.size (encTh x).toArray 180 := objAt_new ..
  have k1 : Keeps H H1 := Keeps.push ..
  clear_value H1
  intro H2
  have o2 : objAt H2 H1.size (encTh y).toArray 180 := objAt_new ..
  have k12 : Keeps H1 H2 := Keeps.push ..
  clear_value H2
  have e1 : cel H2 H.size 0 = some (.int .i64 x.w) := by rw [objAt_cel (k12.obj o1)]; rfl
  have e2 : cel H2 H1.size 0 = some (.int .i64 y.w) := by rw [objAt_cel o2]; rfl
  simp -zeta only [xI e1, xI e2]
  have k := k1.trans k12
  refine ⟨fun h => ⟨?_, k⟩, fun h => ⟨fun h2 => ⟨?_, k⟩, fun h2 => ⟨?_, k⟩⟩⟩ <;> simp only [decide_eq_true_eq, decide_eq_false_iff_not] at * <;> simp [cmpW, *]
theorem cmp_call (φ : Fx) (x y : Th) (H : Hp) {K : Value → Hp → Prop} (hK : ∀ H', Keeps H H' → K (.int .i64 (cmpW x y)) H') :
    callW cx φ cmpV [.agg (Value.int .i64 x.w :: (List.map (Value.int .u8) x.o ++ [])).toArray, .agg (Value.int .i64 y.w :: (List.map (Value.int .u8) y.o ++ [])).toArray] H K := by
  show HCalls cx.P φ 171 [.agg (encTh x).toArray, .agg (encTh y).toArray] H K
  refine HCalls.mono (f171.spec φ x y H) ?_
  rintro v H' ⟨rfl, k⟩
  exact hK H' k
theorem f198.spec (φ : Fx) {b n c base : Nat} {xs : List Th} {H : Hp} (own : ownTh H base (some ⟨b, 0, none⟩) n c xs) (hn : n ≤ 1099511627776) (i0 k0 m : Nat) (h1 : i0 + m ≤ k0) (h2 : k0 + m ≤ n) (cv : Value) :
    HCalls cx.P φ 198 [.slice (some ⟨b, 0, none⟩) n c, .int .i64 (i0 : Int), .int .i64 (k0 : Int), .int .i64 (m : Int), cv] H fun r H' => r = .tuple #[] ∧ offA (some ⟨b, 0, none⟩) H H' ∧ ∃ ys, isSw xs ys i0 k0 m ∧ ownTh H' base (some ⟨b, 0, none⟩) n c ys := by
  apply f198.of
  unfold f198.VC
  have hl := own.len
  refine ⟨fun i H' => 0 ≤ i ∧ i ≤ m ∧ offA (some ⟨b, 0, none⟩) H H' ∧ ∃ ys, isSw xs ys i0 k0 i.toNat ∧ ownTh H' base (some ⟨b, 0, none⟩) n c ys, fun i _ => (m - i).toNat,
    ⟨by omega, by omega, offA.refl .., xs, ⟨rfl, fun k => by rw [if_neg (by simp), if_neg (by simp)]⟩, own⟩, ?_⟩
  rintro i _ H1 ⟨h0, hm, f, ys, sw, ow⟩
  refine ⟨fun hi => ?_, fun hi => ?_⟩
  · simp only [decide_eq_true_eq] at hi
    have e1 : Int.toNat ((k0 : Int) + i) = k0 + i.toNat := by omega
    have e2 : Int.toNat ((i0 : Int) + i) = i0 + i.toNat := by omega
    obtain ⟨x, hx, tx⟩ := ow.at (i := k0 + i.toNat) (by omega)
    obtain ⟨y, hy, ty⟩ := ow.at (i := i0 + i.toNat) (by omega)
    obtain ⟨p1, p2⟩ := ow.set (i := i0 + i.toNat) (by omega) x
    obtain ⟨q1, q2⟩ := p2.set (i := k0 + i.toNat) (by omega) y
    simp -zeta only [xA, e1, e2, xT tx, xT ty, fitsTh]
    refine ⟨by omega, by omega, by omega, ⟨by omega, by omega⟩, by omega, ⟨by omega, by omega⟩, ⟨by omega, by omega⟩, p1, ?_⟩
    intro H2
    refine ⟨⟨by omega, by omega⟩, q1, ?_⟩
    intro H3
    refine ⟨by omega, ⟨by omega, by omega, (f.put _ _).put _ _, _, ?_, q2⟩, by omega⟩
    rw [show (i + 1).toNat = i.toNat + 1 by omega]
    exact isSw_step sw (by omega) hx hy
  · simp only [decide_eq_false_iff_not] at hi
    rw [show i.toNat = m by omega] at sw
    exact ⟨rfl, f, ys, sw, ow⟩
theorem f197.spec (φ : Fx) {b n c base : Nat} {p U V s : List Th} {H : Hp} (own : ownTh H base (some ⟨b, 0, none⟩) n c (p ++ U ++ V ++ s)) (hn : n ≤ 1099511627776) (hU : 0 < U.length) (hV : 0 < V.length) {a m e : Nat} (ha : a = p.length) (hm : m = p.length + U.length) (he : e = p.length + U.length + V.length) (cv : Value) :
    HCalls cx.P φ 197 [.slice (some ⟨b, 0, none⟩) n c, .int .i64 (a : Int), .int .i64 (m : Int), .int .i64 (e : Int), cv] H fun r H' => r = .tuple #[] ∧ offA (some ⟨b, 0, none⟩) H H' ∧ ownTh H' base (some ⟨b, 0, none⟩) n c (p ++ V ++ U ++ s) := by
  apply f197.of
  unfold f197.VC
  have hl := own.len
  simp only [List.length_append] at hl
  subst ha; subst hm; subst he
  refine ⟨by omega, by omega, ?_⟩
  -- p' ++ U' ++ V' ++ s' with |p' ++ U'| = m; the end is p' ++ V' ++ U' ++ s'
  refine ⟨fun i j H' => offA (some ⟨b, 0, none⟩) H H' ∧ ∃ p' U' V' s', ownTh H' base (some ⟨b, 0, none⟩) n c (p' ++ U' ++ V' ++ s') ∧ (p'.length + U'.length = p.length + U.length) ∧ (U'.length : Int) = i ∧ (V'.length : Int) = j ∧ 0 < i ∧ 0 < j ∧ p' ++ V' ++ U' ++ s' = p ++ V ++ U ++ s, fun i j _ => (i + j).toNat,
    ⟨offA.refl .., p, U, V, s, own, rfl, by omega, by omega, by omega, by omega, rfl⟩, ?_⟩
  rintro i j _ H1 ⟨f, p', U', V', s', ow, hpu, hi, hj, hi0, hj0, heq⟩
  have hl' := ow.len
  simp only [List.length_append] at hl'
  refine ⟨fun hne => ?_, fun hq => ?_⟩
  · have hne : i ≠ j := by simpa using hne
    refine ⟨fun i2 j2 H' => (offA (some ⟨b, 0, none⟩) H H' ∧ ∃ p' U' V' s', ownTh H' base (some ⟨b, 0, none⟩) n c (p' ++ U' ++ V' ++ s') ∧ (p'.length + U'.length = p.length + U.length) ∧ (U'.length : Int) = i2 ∧ (V'.length : Int) = j2 ∧ 0 < i2 ∧ 0 < j2 ∧ p' ++ V' ++ U' ++ s' = p ++ V ++ U ++ s) ∧ (i2 + j2).toNat < (i + j).toNat, ⟨fun hlt => ?_, fun hlt => ?_⟩, fun i2 j2 _ H2 h => h⟩
    · simp only [decide_eq_true_eq] at hlt
      have c1 : ((p.length + U.length : Nat) : Int) - i = ((p'.length : Nat) : Int) := by omega
      have c2 : j = ((V'.length : Nat) : Int) := by omega
      rw [c1, c2]
      refine ⟨by omega, HCalls.mono (f198.spec φ ow hn p'.length (p.length + U.length) V'.length (by omega) (by omega) cv) ?_⟩
      rintro r H2 ⟨rfl, f2, ys, sw, ow2⟩
      have dec : p' ++ U' ++ V' ++ s' = p' ++ U'.take V'.length ++ U'.drop V'.length ++ V' ++ s' := by
        rw [List.append_assoc p' (U'.take _), List.take_append_drop]
      rw [dec] at sw
      have hm1 : (U'.take V'.length).length = V'.length := by simp; omega
      have hb : (p' ++ U'.take V'.length ++ U'.drop V'.length).length = p.length + U.length := by simp; omega
      rw [← hb] at sw
      have := isSw_parts hm1 rfl sw
      rw [this] at ow2
      refine ⟨rfl, by omega, ⟨f.step (Or.inl rfl) f2, p' ++ V', U'.drop V'.length, U'.take V'.length, s', ow2, by simp; omega, by simp; omega, by simp; omega, by omega, by omega, ?_⟩, by omega⟩
      rw [← heq, List.append_assoc (p' ++ V'), List.take_append_drop]
    · simp only [decide_eq_false_iff_not] at hlt
      have c1 : ((p.length + U.length : Nat) : Int) - i = ((p'.length : Nat) : Int) := by omega
      have c3 : ((p.length + U.length : Nat) : Int) + j - i = ((p.length + U.length + V'.length - U'.length : Nat) : Int) := by omega
      have c2 : i = ((U'.length : Nat) : Int) := by omega
      refine ⟨by omega, by omega, by omega, ?_⟩
      rw [c1, c3, c2]
      refine HCalls.mono (f198.spec φ ow hn p'.length (p.length + U.length + V'.length - U'.length) U'.length (by omega) (by omega) cv) ?_
      rintro r H2 ⟨rfl, f2, ys, sw, ow2⟩
      have dec : p' ++ U' ++ V' ++ s' = p' ++ U' ++ V'.take (V'.length - U'.length) ++ V'.drop (V'.length - U'.length) ++ s' := by
        rw [List.append_assoc (p' ++ U') (V'.take _), List.take_append_drop]
      rw [dec] at sw
      have hm1 : (V'.drop (V'.length - U'.length)).length = U'.length := by simp; omega
      have hb : (p' ++ U' ++ V'.take (V'.length - U'.length)).length = p.length + U.length + V'.length - U'.length := by simp; omega
      rw [← hb] at sw
      have := isSw_parts rfl hm1 sw
      rw [this] at ow2
      refine ⟨rfl, by omega, ⟨f.step (Or.inl rfl) f2, p', V'.drop (V'.length - U'.length), V'.take (V'.length - U'.length), U' ++ s', by simpa using ow2, by simp; omega, by simp; omega, by simp; omega, by omega, by omega, ?_⟩, by omega⟩
      rw [← heq, List.append_assoc p' (V'.take _), List.take_append_drop]
      simp
  · have hq : i = j := by simpa using hq
    have c1 : ((p.length + U.length : Nat) : Int) - i = ((p'.length : Nat) : Int) := by omega
    have c2 : i = ((V'.length : Nat) : Int) := by omega
    rw [c1, c2]
    refine ⟨by omega, HCalls.mono (f198.spec φ ow hn p'.length (p.length + U.length) V'.length (by omega) (by omega) cv) ?_⟩
    rintro r H2 ⟨rfl, f2, ys, sw, ow2⟩
    have dec : p' ++ U' ++ V' ++ s' = p' ++ U' ++ [] ++ V' ++ s' := by simp
    rw [dec] at sw
    have hb : (p' ++ U' ++ []).length = p.length + U.length := by simp; omega
    rw [← hb] at sw
    have := isSw_parts (by omega) rfl sw
    rw [this] at ow2
    refine ⟨rfl, rfl, f.step (Or.inl rfl) f2, ?_⟩
    rw [← heq]; simpa using ow2
end Go.Proofs.Ytkkjjjgcfnhabaa.Eng
namespace Go.Proofs.Ytkkjjjgcfnhabaa.Eng
open Go Go.Proofs
theorem swap_adj {α : Type} (x y : α) (post : List α) : ∀ (pre : List α), ((pre ++ y :: x :: post).set (pre.length + 1) y).set pre.length x = pre ++ x :: y :: post
  | [] => rfl
  | a :: r => by simp [swap_adj x y post r]
theorem swap_adj' {α : Type} (x y : α) (post : List α) : ∀ (pre : List α), ((pre ++ y :: x :: post).set pre.length x).set (pre.length + 1) y = pre ++ x :: y :: post
  | [] => rfl
  | a :: r => by simp [swap_adj' x y post r]
theorem at_len {α : Type} (pre : List α) (x : α) (post : List α) : (pre ++ x :: post)[pre.length]? = some x := by simp
theorem at_len1 {α : Type} (pre : List α) (x y : α) (post : List α) : (pre ++ x :: y :: post)[pre.length + 1]? = some y := by
  rw [List.getElem?_append_right (by omega)]; simp
section
variable (rk : Th → Nat)
theorem srt_w {l : List Th} (h : srt rk l) {i j : Nat} {x y : Th} (hij : i ≤ j) (hx : l[i]? = some x) (hy : l[j]? = some y) : x.w ≤ y.w := by
  rcases Nat.eq_or_lt_of_le hij with e | e
  · subst e; rw [hx] at hy; cases hy; omega
  · have hi := (List.getElem?_eq_some_iff.1 hx)
    have hj := (List.getElem?_eq_some_iff.1 hy)
    obtain ⟨h1, rfl⟩ := hi
    obtain ⟨h2, rfl⟩ := hj
    have := List.pairwise_iff_getElem.1 h i j h1 h2 e
    unfold lx at this; omega
theorem srt_short {l : List Th} (h : l.length ≤ 1) : srt rk l := by
  match l, h with
  | [], _ => exact List.Pairwise.nil
  | [x], _ => exact List.pairwise_singleton ..
theorem half (i j : Int) (h0 : 0 ≤ i + j) (h1 : i + j ≤ 9223372036854775807) : IntKind.wrap .i64 ((IntKind.wrap .u64 (i + j)) / 2) = (i + j) / 2 := by
  rw [wrap_u64, Int.emod_eq_of_lt h0 (by omega), wrap_in .i64 _ ⟨by show (-9223372036854775808 : Int) ≤ _; omega, by show _ ≤ (9223372036854775807 : Int); omega⟩]
theorem f194.spec (φ : Fx) {b n c base : Nat} {p q s : List Th} {H : Hp} (own : ownTh H base (some ⟨b, 0, none⟩) n c (p ++ q ++ s)) (hn : n ≤ 1099511627776) (hr : rin rk q) {a e : Nat} (ha : a = p.length) (he : e = p.length + q.length) :
    HCalls cx.P φ 194 [.slice (some ⟨b, 0, none⟩) n c, .int .i64 (a : Int), .int .i64 (e : Int), cmpV] H fun r H' => r = .tuple #[] ∧ offA (some ⟨b, 0, none⟩) H H' ∧ ∃ q', q'.Perm q ∧ srt rk q' ∧ ownTh H' base (some ⟨b, 0, none⟩) n c (p ++ q' ++ s) := by
  apply f194.of
  unfold f194.VC
  have hl := own.len
  simp only [List.length_append] at hl
  subst ha; subst he
  refine ⟨by omega, ?_⟩
  refine ⟨fun i H' => (p.length : Int) + 1 ≤ i ∧ offA (some ⟨b, 0, none⟩) H H' ∧ ∃ q1, q1.Perm (q.take (i - p.length).toNat) ∧ srt rk q1 ∧ ownTh H' base (some ⟨b, 0, none⟩) n c (p ++ q1 ++ q.drop (i - p.length).toNat ++ s), fun i _ => (((p.length + q.length : Nat) : Int) - i).toNat,
    ⟨by omega, offA.refl .., q.take 1, by rw [show ((p.length : Int) + 1 - p.length).toNat = 1 by omega], srt_short rk (by simp; omega), by rw [show ((p.length : Int) + 1 - p.length).toNat = 1 by omega, List.append_assoc p, List.take_append_drop]; exact own⟩, ?_⟩
  rintro i _ H1 ⟨hi0, f1, q1, pm, st, ow⟩
  refine ⟨fun hi => ?_, fun hi => ?_⟩
  · simp only [decide_eq_true_eq] at hi
    generalize hk : (i - p.length).toNat = k at pm ow
    have hkq : k < q.length := by omega
    have hx := List.getElem?_eq_getElem hkq
    generalize q[k] = x at hx
    rw [drop_at hx] at ow
    have lq1 := pm.length_eq
    simp only [List.length_take] at lq1
    have hrk : ∀ y ∈ q1, rk y < rk x := by
      intro y hy
      have hy' := pm.mem_iff.1 hy
      obtain ⟨j, hj⟩ := List.mem_iff_getElem?.1 hy'
      rw [List.getElem?_take] at hj
      split at hj
      · rename_i hjk
        obtain ⟨h1, rfl⟩ := List.getElem?_eq_some_iff.1 hj
        obtain ⟨h2, rfl⟩ := List.getElem?_eq_some_iff.1 hx
        exact List.pairwise_iff_getElem.1 hr j k h1 h2 hjk
      · cases hj
    refine ⟨fun j H' => offA (some ⟨b, 0, none⟩) H H' ∧ ∃ u v, u ++ v = q1 ∧ j = p.length + u.length ∧ (∀ y ∈ v, lx rk x y) ∧ ownTh H' base (some ⟨b, 0, none⟩) n c (p ++ u ++ x :: (v ++ (q.drop (k + 1) ++ s))), fun j _ => j.toNat,
      ⟨f1, q1, [], by simp, by omega, by simp, by simpa using ow⟩, ?_⟩
    rintro j _ H2 ⟨f2, u, v, huv, hj, hv, ow2⟩
    have hl2 := ow2.len
    simp only [List.length_append, List.length_cons, List.length_drop] at hl2
    have huvl := congrArg List.length huv
    simp only [List.length_append] at huvl
    -- the next round
    have done : (∀ y ∈ u, lx rk y x) → ∀ H4, offA (some ⟨b, 0, none⟩) H H4 → ownTh H4 base (some ⟨b, 0, none⟩) n c (p ++ u ++ x :: (v ++ (q.drop (k + 1) ++ s))) →
        (p.length : Int) + 1 ≤ i + 1 ∧ offA (some ⟨b, 0, none⟩) H H4 ∧ ∃ q1, q1.Perm (q.take (i + 1 - p.length).toNat) ∧ srt rk q1 ∧ ownTh H4 base (some ⟨b, 0, none⟩) n c (p ++ q1 ++ q.drop (i + 1 - p.length).toNat ++ s) := by
      intro hu H4 f4 o4
      have e1 : (i + 1 - p.length).toNat = k + 1 := by omega
      rw [e1]
      refine ⟨by omega, f4, u ++ x :: v, ?_, srt_insert rk (by rw [huv]; exact st) hu hv, by simpa using o4⟩
      have t1 : q.take (k + 1) = q.take k ++ [x] := by rw [List.take_add_one, hx]; rfl
      rw [t1]
      have a1 : (u ++ x :: v).Perm (x :: (u ++ v)) := List.perm_middle
      rw [huv] at a1
      exact a1.trans ((List.Perm.cons x pm).trans (List.perm_append_singleton x _).symm)
    refine ⟨fun y H' => (y = true → ∃ u' z, u = u' ++ [z] ∧ x.w < z.w) ∧ (y = false → ∀ z ∈ u, lx rk z x) ∧ Keeps H2 H', ⟨fun hlt => ?_, fun hlt => ?_⟩, ?_⟩
    · simp only [decide_eq_true_eq] at hlt
      obtain ⟨u', z, rfl⟩ : ∃ u' z, u = u' ++ [z] := by
        rcases List.eq_nil_or_concat u with e | ⟨u', z, e⟩
        · subst e; simp at hj; omega
        · exact ⟨u', z, by simpa using e⟩
      simp only [List.length_append, List.length_cons, List.length_nil] at hj hl2 huvl
      have ow2' : ownTh H2 base (some ⟨b, 0, none⟩) n c ((p ++ u') ++ z :: x :: (v ++ (q.drop (k + 1) ++ s))) := by simpa using ow2
      obtain ⟨x', hx', tx⟩ := ow2'.at (i := p.length + u'.length + 1) (by omega)
      have g1 := at_len1 (p ++ u') z x (v ++ (q.drop (k + 1) ++ s))
      rw [List.length_append, hx'] at g1
      cases g1
      obtain ⟨z', hz', tz⟩ := ow2'.at (i := p.length + u'.length) (by omega)
      have g2 := at_len (p ++ u') z (x :: (v ++ (q.drop (k + 1) ++ s)))
      rw [List.length_append, hz'] at g2
      cases g2
      have e1 : Int.toNat j = p.length + u'.length + 1 := by omega
      have e2 : Int.toNat (j - 1) = p.length + u'.length := by omega
      simp -zeta only [xA, e1, e2, xT tx, xT tz]
      refine ⟨⟨by omega, by omega⟩, by omega, ⟨by omega, by omega⟩, cmp_call φ x z H2 fun H3 k3 => ⟨_, rfl, fun h => ?_, fun h => ?_, k3⟩⟩
      · simp only [decide_eq_true_eq] at h
        exact ⟨u', z, rfl, (cmpW_neg x z).1 h⟩
      · simp only [decide_eq_false_iff_not] at h
        have hw : ¬ x.w < z.w := fun q => h ((cmpW_neg x z).2 q)
        have hz := hrk z (by rw [← huv]; simp)
        have su : srt rk (u' ++ [z]) := ((srt_app rk).1 (by rw [huv]; exact st)).1
        exact srt_last rk su (by unfold lx; omega)
    · simp only [decide_eq_false_iff_not] at hlt
      have : u = [] := List.eq_nil_of_length_eq_zero (by omega)
      subst this
      exact ⟨fun h => (nomatch h), fun _ z hz => by simp at hz, Keeps.refl _⟩
    · rintro y _ H4 ⟨ht, hf, k4⟩
      have f4 := f2.keep k4
      have ow4 := ow2.keeps k4
      refine ⟨fun hy => ?_, fun hy => ⟨by omega, done (hf hy) H4 f4 ow4, by dsimp only; omega⟩⟩
      obtain ⟨u', z, rfl, hw⟩ := ht hy
      simp only [List.length_append, List.length_cons, List.length_nil] at hj hl2 huvl
      have ow4' : ownTh H4 base (some ⟨b, 0, none⟩) n c ((p ++ u') ++ z :: x :: (v ++ (q.drop (k + 1) ++ s))) := by simpa using ow4
      obtain ⟨x', hx', tx⟩ := ow4'.at (i := p.length + u'.length + 1) (by omega)
      have g1 := at_len1 (p ++ u') z x (v ++ (q.drop (k + 1) ++ s))
      rw [List.length_append, hx'] at g1
      cases g1
      obtain ⟨z', hz', tz⟩ := ow4'.at (i := p.length + u'.length) (by omega)
      have g2 := at_len (p ++ u') z (x :: (v ++ (q.drop (k + 1) ++ s)))
      rw [List.length_append, hz'] at g2
      cases g2
      have e1 : Int.toNat j = p.length + u'.length + 1 := by omega
      have e2 : Int.toNat (j - 1) = p.length + u'.length := by omega
      obtain ⟨p1, p2⟩ := ow4'.set (i := p.length + u'.length + 1) (by omega) z
      obtain ⟨r1, r2⟩ := p2.set (i := p.length + u'.length) (by omega) x
      have sw := swap_adj x z (v ++ (q.drop (k + 1) ++ s)) (p ++ u')
      rw [List.length_append] at sw
      rw [sw] at r2
      simp -zeta only [xA, e1, e2, xT tx, xT tz, fitsTh]
      refine ⟨by omega, by omega, ⟨by omega, by omega⟩, ⟨by omega, by omega⟩, ⟨by omega, by omega⟩, p1, ?_⟩
      intro H5
      refine ⟨⟨by omega, by omega⟩, r1, ?_⟩
      intro H6
      refine ⟨by omega, ⟨(f4.put _ _).put _ _, u', z :: v, by rw [← huv]; simp, by omega, fun y hy => ?_, r2⟩, by omega⟩
      rcases List.mem_cons.1 hy with e | e
      · subst e; exact Or.inl hw
      · exact hv y e
  · simp only [decide_eq_false_iff_not] at hi
    have e1 : q.length ≤ (i - p.length).toNat := by omega
    rw [List.take_of_length_le e1] at pm
    rw [List.drop_eq_nil_of_le e1] at ow
    exact ⟨rfl, f1, q1, pm, st, by simpa using ow⟩
end
end Go.Proofs.Ytkkjjjgcfnhabaa.Eng
