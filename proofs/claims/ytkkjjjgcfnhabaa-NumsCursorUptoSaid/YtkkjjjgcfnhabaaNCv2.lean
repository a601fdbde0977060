/- Part NCv2 of the proof of the claim in this folder: a way to walk code, and the contracts of the functions that the law reaches. Conditions: none. -/
import Derived.Test.YtkkjjjgcfnhabaaNCa
import Derived.Test.YtkkjjjgcfnhabaaNCv1
set_option linter.unusedVariables false
set_option maxRecDepth 100000
namespace Go.Proofs.Ytkkjjjgcfnhabaa.Eng
open Go Go.Proofs
/-! ### 54 winnow/winnowlaw8.stays -/
def f54.an : An := .seq (.reg (.op false (.done))) (.seq (.seq (.reg (.op false (.done))) (.blk (.loop [(5, false, [.int .i64])] (.seq (.seq (.reg (.op false (.op false (.op false (.op false (.done)))))) (.cond (.nil) (.nil))) (.seq (.blk (.seq (.join [(33, false, [.bool])] (.reg (.op false (.op false (.op false (.op false (.split 15 (.op false (.op false (.op false (.op false (.op true (.op false (.op false (.split 22 (.op false (.op false (.op false (.op false (.op false (.op false (.op false (.op false (.op true (.op false (.op false (.done)))))))))))) (.op false (.op false (.op false (.op false (.split 26 (.op false (.op false (.op false (.op false (.op true (.op false (.op false (.done)))))))) (.op false (.op false (.op false (.op false (.op true (.op false (.op false (.done))))))))))))))))))))) (.op false (.op false (.op false (.op false (.op true (.op false (.op false (.op false (.op false (.op false (.op false (.split 26 (.op false (.op false (.op false (.op false (.op true (.op false (.op false (.done)))))))) (.op false (.op false (.op false (.op false (.op true (.op false (.op false (.done))))))))))))))))))))))))))) (.cond (.seq (.reg (.op false (.done))) (.nil)) (.nil)))) (.reg (.op false (.op false (.op false (.done)))))))))) (.seq (.reg (.op false (.op false (.op false (.op false (.op false (.op false (.done)))))))) (.nil)))
def f54.VC (φ : Fx) (aA : Option Addr) (an ac : Nat) (n : Int) (H : Hp) (R : Value → Hp → Prop) : Prop :=
  ∃ (I_ : Int → Hp → Prop) (m_ : Int → Hp → Nat), I_ 0 H ∧
  (∀ (i : Int) (j_ : Nat → Value) (H_ : Hp), I_ i H_ → (((decide (i < ((an : Nat) : Int))) = true → (∃ M_ : Bool → Hp → Prop, (((decide (i < n)) = true → (∃ (b o : Nat), aA = some ⟨b, o, none⟩ ∧ (0 ≤ i ∧ i < ((an : Nat) : Int)) ∧
                (∃ (x : Int), cel H_ b (o + Int.toNat i * 1) = some (.int .u8 x) ∧ (((!decide (x = 51)) = true → (M_ true H_)) ∧
                    ((!decide (x = 51)) = false → (((decide (n ≤ i)) = true → (∃ (b2 o2 : Nat), aA = some ⟨b2, o2, none⟩ ∧ (0 ≤ i ∧ i < ((an : Nat) : Int)) ∧
                            (∃ (x2 : Int), cel H_ b2 (o2 + Int.toNat i * 1) = some (.int .u8 x2) ∧ (M_ (!decide (x2 = 52)) H_)))) ∧
                        ((decide (n ≤ i)) = false → (M_ false H_)))))))) ∧
            ((decide (i < n)) = false → (((decide (n ≤ i)) = true → (∃ (b3 o3 : Nat), aA = some ⟨b3, o3, none⟩ ∧ (0 ≤ i ∧ i < ((an : Nat) : Int)) ∧
                    (∃ (x3 : Int), cel H_ b3 (o3 + Int.toNat i * 1) = some (.int .u8 x3) ∧ (M_ (!decide (x3 = 52)) H_)))) ∧
                ((decide (n ≤ i)) = false → (M_ false H_))))) ∧
          (∀ (x4 : Bool) (j_2 : Nat → Value) (H_2 : Hp), M_ x4 H_2 → ((x4 = true → (R (.bool false) H_2)) ∧
              (x4 = false → (((-9223372036854775808) ≤ i + 1 ∧ i + 1 ≤ 9223372036854775807) ∧
                  (I_ (i + 1) H_2 ∧ m_ (i + 1) H_2 < m_ i H_))))))) ∧
      ((decide (i < ((an : Nat) : Int))) = false → (((-9223372036854775808) ≤ n + 64 ∧ n + 64 ≤ 9223372036854775807) ∧
          (R (.bool (decide (((an : Nat) : Int) = (n + 64)))) H_)))))
theorem f54.vc (φ : Fx) (aA : Option Addr) (an ac : Nat) (n : Int) (H : Hp) (R : Value → Hp → Prop) : fnW cx φ Try.f54 f54.an [.slice aA an ac, .int .i64 n] H R = f54.VC φ aA an ac n H R := by kernel_rfl
theorem f54.of {φ : Fx} {aA : Option Addr} {an ac : Nat} {n : Int} {H : Hp} {R : Value → Hp → Prop} (h : f54.VC φ aA an ac n H R) : HCalls cx.P φ 54 [.slice aA an ac, .int .i64 n] H R :=
  fnW_calls cx_ok (show cx.P.funcs[54]? = some Try.f54 by kernel_rfl) (by rw [f54.vc]; exact h)

/-! ### 6 winnow/winnowlaw8.FootEncode -/
def f6.an : An := .seq (.reg (.op false (.op false (.done)))) (.seq (.reg (.op false (.op false (.op false (.op false (.done)))))) (.seq (.reg (.op false (.op false (.op false (.done))))) (.seq (.reg (.op false (.op false (.op false (.op false (.op false (.op false (.op false (.done))))))))) (.seq (.reg (.op false (.op false (.op false (.op false (.op false (.op false (.op false (.done))))))))) (.seq (.reg (.op false (.op false (.op false (.op false (.op false (.op false (.op false (.done))))))))) (.seq (.seq (.join [(56, false, [.bool])] (.reg (.op false (.op false (.op false (.op false (.op false (.split 41 (.op false (.op false (.op false (.op false (.op false (.op false (.op false (.op false (.op false (.op false (.op false (.op false (.op false (.op false (.op false (.done)))))))))))))))) (.op false (.op false (.op false (.op false (.op false (.split 46 (.op false (.op false (.op false (.op false (.op false (.op false (.op false (.op false (.op false (.op false (.done))))))))))) (.op false (.op false (.op false (.op false (.op false (.split 51 (.op false (.op false (.op false (.op false (.op false (.done)))))) (.op false (.op false (.op false (.op false (.op false (.done)))))))))))))))))))))))))) (.cond (.seq (.reg (.op false (.done))) (.nil)) (.nil))) (.seq (.seq (.reg (.op false (.done))) (.blk (.loop [(11, false, [.int .i64])] (.seq (.seq (.reg (.op false (.op false (.op false (.op false (.done)))))) (.cond (.nil) (.nil))) (.seq (.blk (.reg (.op false (.op false (.op false (.op false (.done))))))) (.reg (.op false (.op false (.op false (.done)))))))))) (.seq (.seq (.reg (.op false (.done))) (.blk (.loop [(5, false, [.slc]), (12, false, [.int .i64])] (.seq (.seq (.reg (.op false (.op false (.done)))) (.cond (.nil) (.nil))) (.seq (.blk (.reg (.op false (.op false (.op false (.op false (.done))))))) (.reg (.op false (.op false (.op false (.done)))))))))) (.seq (.reg (.op false (.op false (.op false (.done))))) (.seq (.reg (.op false (.op false (.op false (.done))))) (.seq (.reg (.op false (.op false (.op false (.done))))) (.seq (.seq (.join [(88, false, [.bool])] (.reg (.op false (.op false (.op false (.op false (.op false (.split 83 (.op false (.op false (.op false (.op false (.op false (.done)))))) (.op false (.op false (.op false (.op false (.op false (.done)))))))))))))) (.cond (.seq (.reg (.op false (.done))) (.nil)) (.nil))) (.seq (.seq (.reg (.op false (.done))) (.blk (.loop [(16, false, [.int .i64])] (.seq (.seq (.reg (.op false (.op false (.op false (.op false (.done)))))) (.cond (.nil) (.nil))) (.seq (.blk (.reg (.op false (.op false (.op false (.op false (.op false (.done)))))))) (.reg (.op false (.op false (.op false (.done)))))))))) (.seq (.seq (.reg (.op false (.done))) (.blk (.loop [(13, false, [.slc]), (17, false, [.int .i64])] (.seq (.seq (.reg (.op false (.op false (.done)))) (.cond (.nil) (.nil))) (.seq (.blk (.reg (.op false (.op false (.op false (.op false (.op false (.done)))))))) (.reg (.op false (.op false (.op false (.done)))))))))) (.seq (.join [(2, false, [.bool])] (.reg (.op false (.op false (.op false (.op false (.split 110 (.op false (.op false (.op false (.op false (.op false (.split 115 (.op false (.op false (.op false (.op false (.split 119 (.op false (.op false (.op false (.op false (.op false (.op false (.done))))))) (.op false (.op false (.op false (.op false (.op false (.op false (.done)))))))))))) (.op false (.op false (.op false (.op false (.op false (.op false (.op false (.op false (.op false (.op false (.done))))))))))))))))) (.op false (.op false (.op false (.op false (.op false (.op false (.op false (.op false (.op false (.op false (.op false (.op false (.op false (.op false (.op false (.done))))))))))))))))))))))) (.nil))))))))))))))))
def f6.VC (φ : Fx) (f : Int) (fA : Option Addr) (fn fc : Nat) (H : Hp) (R : Value → Hp → Prop) : Prop :=
  let H_ : Hp := Array.push H (.cells #[.int .i64 f, .slice fA fn fc] 24 (0, 0));
  (∃ (Parts : Int), cel H_ (Array.size H) 0 = some (.int .i64 Parts) ∧
    ∃ (InfosA : Option Addr) (Infosn Infosc : Nat), cel H_ (Array.size H) (0 + 1) = some (.slice InfosA Infosn Infosc) ∧ (HCalls cx.P φ 18 [.agg #[.int .i64 Parts, .slice InfosA Infosn Infosc]] H_ (fun v H_2 => ∃ (x : Int), ∃ (A : Option Addr) (n c : Nat), v = .agg #[.int .i64 x, .slice A n c] ∧ (let H_3 : Hp := Array.push H_2 (.cells #[.int .i64 0, .slice none 0 0] 24 (0, 0));
          (canPut H_3 (Array.size H_2) 0 [.int .i64 x, .slice A n c] ∧
            (let H_4 : Hp := hput H_3 (Array.size H_2) 0 [.int .i64 x, .slice A n c];
              (∃ (Parts2 : Int), cel H_4 (Array.size H_2) 0 = some (.int .i64 Parts2) ∧
                ∃ (InfosA2 : Option Addr) (Infosn2 Infosc2 : Nat), cel H_4 (Array.size H_2) (0 + 1) = some (.slice InfosA2 Infosn2 Infosc2) ∧ (HCalls cx.P φ 17 [.agg #[.int .i64 Parts2, .slice InfosA2 Infosn2 Infosc2]] H_4 (fun v2 H_5 => ∃ (x2 : Int), v2 = .int .i64 x2 ∧ (∃ (Parts3 : Int), cel H_5 (Array.size H_2) 0 = some (.int .i64 Parts3) ∧
                      ∃ (InfosA3 : Option Addr) (Infosn3 Infosc3 : Nat), cel H_5 (Array.size H_2) (0 + 1) = some (.slice InfosA3 Infosn3 Infosc3) ∧ (HCalls cx.P φ 47 [.agg #[.int .i64 Parts3, .slice InfosA3 Infosn3 Infosc3]] H_5 (fun v3 H_6 => ∃ (A2 : Option Addr) (n2 c2 : Nat), ∃ (x3 : Int), v3 = .tuple #[.slice A2 n2 c2, .int .i64 x3] ∧ (∃ (Parts4 : Int), cel H_6 (Array.size H_2) 0 = some (.int .i64 Parts4) ∧
                            ∃ (InfosA4 : Option Addr) (Infosn4 Infosc4 : Nat), cel H_6 (Array.size H_2) (0 + 1) = some (.slice InfosA4 Infosn4 Infosc4) ∧ (HCalls cx.P φ 47 [.agg #[.int .i64 Parts4, .slice InfosA4 Infosn4 Infosc4]] H_6 (fun v4 H_7 => ∃ (A3 : Option Addr) (n3 c3 : Nat), ∃ (x4 : Int), v4 = .tuple #[.slice A3 n3 c3, .int .i64 x4] ∧ (∃ (Parts5 : Int), cel H_7 (Array.size H) 0 = some (.int .i64 Parts5) ∧
                                  ∃ (InfosA5 : Option Addr) (Infosn5 Infosc5 : Nat), cel H_7 (Array.size H) (0 + 1) = some (.slice InfosA5 Infosn5 Infosc5) ∧ (HCalls cx.P φ 48 [.agg #[.int .i64 Parts5, .slice InfosA5 Infosn5 Infosc5]] H_7 (fun v5 H_8 => ∃ (A4 : Option Addr) (n4 c4 : Nat), ∃ (x5 : Int), v5 = .tuple #[.slice A4 n4 c4, .int .i64 x5] ∧ (∃ M_ : Bool → Hp → Prop, (∃ (Parts6 : Int), cel H_8 (Array.size H) 0 = some (.int .i64 Parts6) ∧
                                          ∃ (InfosA6 : Option Addr) (Infosn6 Infosc6 : Nat), cel H_8 (Array.size H) (0 + 1) = some (.slice InfosA6 Infosn6 Infosc6) ∧ (HCalls cx.P φ 16 [.agg #[.int .i64 Parts6, .slice InfosA6 Infosn6 Infosc6]] H_8 (fun v6 H_9 => ∃ (x6 : Int), v6 = .int .i64 x6 ∧ (((!decide (x2 = x6)) = true → (M_ true H_9)) ∧
                                                ((!decide (x2 = x6)) = false → (((!decide (x3 = x5)) = true → (M_ true H_9)) ∧
                                                    ((!decide (x3 = x5)) = false → (((!decide (x4 = x5)) = true → (M_ true H_9)) ∧
                                                        ((!decide (x4 = x5)) = false → (HCalls cx.P φ 49 [.slice A2 n2 c2, .slice A4 n4 c4] H_9 (fun v7 H_10 => ∃ (x7 : Bool), v7 = .bool x7 ∧ (M_ (!x7) H_10)))))))))))) ∧
                                        (∀ (x8 : Bool) (j_ : Nat → Value) (H_11 : Hp), M_ x8 H_11 → ((x8 = true → (R (.bool false) H_11)) ∧
                                            (x8 = false → (∃ (I_ : Int → Hp → Prop) (m_ : Int → Hp → Nat), I_ 0 H_11 ∧
                                                (∀ (i : Int) (j_2 : Nat → Value) (H_12 : Hp), I_ i H_12 → (((decide (i < ((n2 : Nat) : Int))) = true → (∃ (b o : Nat), A2 = some ⟨b, o, none⟩ ∧ (0 ≤ i ∧ i < ((n2 : Nat) : Int)) ∧
                                                        (canPut H_12 b (o + Int.toNat i * 1) [.int .u8 51] ∧
                                                          (let H_13 : Hp := hput H_12 b (o + Int.toNat i * 1) [.int .u8 51];
                                                            (((-9223372036854775808) ≤ i + 1 ∧ i + 1 ≤ 9223372036854775807) ∧
                                                              (I_ (i + 1) H_13 ∧ m_ (i + 1) H_13 < m_ i H_12)))))) ∧
                                                    ((decide (i < ((n2 : Nat) : Int))) = false → (∃ (I_2 : Option Addr → Nat → Nat → Int → Hp → Prop) (m_2 : Option Addr → Nat → Nat → Int → Hp → Nat), I_2 A2 n2 c2 0 H_12 ∧
                                                        (∀ (aA : Option Addr) (an ac : Nat) (i2 : Int) (j_3 : Nat → Value) (H_14 : Hp), I_2 aA an ac i2 H_14 → (((decide (i2 < 64)) = true → (let H_15 : Hp := Array.push H_14 (.cells #[.int .u8 52] 5 (0, 0));
                                                                (appW cx 59 59 (Value.slice aA an ac) (Value.slice (some (⟨Array.size H_14, 0, none⟩ : Addr)) 1 1) H_15 (fun v8 H_16 => ∃ (A5 : Option Addr) (n5 c5 : Nat), v8 = .slice A5 n5 c5 ∧ (((-9223372036854775808) ≤ i2 + 1 ∧ i2 + 1 ≤ 9223372036854775807) ∧
                                                                      (I_2 A5 n5 c5 (i2 + 1) H_16 ∧ m_2 A5 n5 c5 (i2 + 1) H_16 < m_2 aA an ac i2 H_14)))))) ∧
                                                            ((decide (i2 < 64)) = false → (∃ (Parts7 : Int), cel H_14 (Array.size H_2) 0 = some (.int .i64 Parts7) ∧
                                                                ∃ (InfosA7 : Option Addr) (Infosn7 Infosc7 : Nat), cel H_14 (Array.size H_2) (0 + 1) = some (.slice InfosA7 Infosn7 Infosc7) ∧ (HCalls cx.P φ 50 [.agg #[.int .i64 Parts7, .slice InfosA7 Infosn7 Infosc7]] H_14 (fun v9 H_17 => ∃ (A6 : Option Addr) (n6 c6 : Nat), v9 = .slice A6 n6 c6 ∧ (∃ (Parts8 : Int), cel H_17 (Array.size H_2) 0 = some (.int .i64 Parts8) ∧
                                                                      ∃ (InfosA8 : Option Addr) (Infosn8 Infosc8 : Nat), cel H_17 (Array.size H_2) (0 + 1) = some (.slice InfosA8 Infosn8 Infosc8) ∧ (HCalls cx.P φ 50 [.agg #[.int .i64 Parts8, .slice InfosA8 Infosn8 Infosc8]] H_17 (fun v10 H_18 => ∃ (A7 : Option Addr) (n7 c7 : Nat), v10 = .slice A7 n7 c7 ∧ (∃ (Parts9 : Int), cel H_18 (Array.size H) 0 = some (.int .i64 Parts9) ∧
                                                                            ∃ (InfosA9 : Option Addr) (Infosn9 Infosc9 : Nat), cel H_18 (Array.size H) (0 + 1) = some (.slice InfosA9 Infosn9 Infosc9) ∧ (HCalls cx.P φ 51 [.agg #[.int .i64 Parts9, .slice InfosA9 Infosn9 Infosc9]] H_18 (fun v11 H_19 => ∃ (A8 : Option Addr) (n8 c8 : Nat), v11 = .slice A8 n8 c8 ∧ (∃ M_2 : Bool → Hp → Prop, (HCalls cx.P φ 49 [.slice A3 n3 c3, .slice A4 n4 c4] H_19 (fun v12 H_20 => ∃ (x9 : Bool), v12 = .bool x9 ∧ (((!x9) = true → (M_2 true H_20)) ∧
                                                                                ((!x9) = false → (HCalls cx.P φ 52 [.slice A6 n6 c6, .slice A8 n8 c8] H_20 (fun v13 H_21 => ∃ (x10 : Bool), v13 = .bool x10 ∧ (M_2 (!x10) H_21))))))) ∧
                                                                                (∀ (x11 : Bool) (j_4 : Nat → Value) (H_22 : Hp), M_2 x11 H_22 → ((x11 = true → (R (.bool false) H_22)) ∧
                                                                                (x11 = false → (∃ (I_3 : Int → Hp → Prop) (m_3 : Int → Hp → Nat), I_3 0 H_22 ∧
                                                                                (∀ (i3 : Int) (j_5 : Nat → Value) (H_23 : Hp), I_3 i3 H_23 → (((decide (i3 < ((n6 : Nat) : Int))) = true → (∃ (b2 o2 : Nat), A6 = some ⟨b2, o2, none⟩ ∧ (0 ≤ i3 ∧ i3 < ((n6 : Nat) : Int)) ∧
                                                                                (canPut H_23 b2 (o2 + Int.toNat i3 * 3) [.int .i64 9, .int .i64 0, .int .i64 0] ∧
                                                                                (let H_24 : Hp := hput H_23 b2 (o2 + Int.toNat i3 * 3) [.int .i64 9, .int .i64 0, .int .i64 0];
                                                                                (((-9223372036854775808) ≤ i3 + 1 ∧ i3 + 1 ≤ 9223372036854775807) ∧
                                                                                (I_3 (i3 + 1) H_24 ∧ m_3 (i3 + 1) H_24 < m_3 i3 H_23)))))) ∧
                                                                                ((decide (i3 < ((n6 : Nat) : Int))) = false → (∃ (I_4 : Option Addr → Nat → Nat → Int → Hp → Prop) (m_4 : Option Addr → Nat → Nat → Int → Hp → Nat), I_4 A6 n6 c6 0 H_23 ∧
                                                                                (∀ (lA : Option Addr) (ln lc : Nat) (i4 : Int) (j_6 : Nat → Value) (H_25 : Hp), I_4 lA ln lc i4 H_25 → (((decide (i4 < 64)) = true → (let H_26 : Hp := Array.push H_25 (.cells #[.int .i64 10, .int .i64 0, .int .i64 0] 90 (0, 0));
                                                                                (appW cx 86 86 (Value.slice lA ln lc) (Value.slice (some (⟨Array.size H_25, 0, none⟩ : Addr)) 1 1) H_26 (fun v14 H_27 => ∃ (A9 : Option Addr) (n9 c9 : Nat), v14 = .slice A9 n9 c9 ∧ (((-9223372036854775808) ≤ i4 + 1 ∧ i4 + 1 ≤ 9223372036854775807) ∧
                                                                                (I_4 A9 n9 c9 (i4 + 1) H_27 ∧ m_4 A9 n9 c9 (i4 + 1) H_27 < m_4 lA ln lc i4 H_25)))))) ∧
                                                                                ((decide (i4 < 64)) = false → (∃ M_3 : Bool → Hp → Prop, (HCalls cx.P φ 52 [.slice A7 n7 c7, .slice A8 n8 c8] H_25 (fun v15 H_28 => ∃ (x12 : Bool), v15 = .bool x12 ∧ ((x12 = true → (∃ (Parts10 : Int), cel H_28 (Array.size H_2) 0 = some (.int .i64 Parts10) ∧
                                                                                ∃ (InfosA10 : Option Addr) (Infosn10 Infosc10 : Nat), cel H_28 (Array.size H_2) (0 + 1) = some (.slice InfosA10 Infosn10 Infosc10) ∧ (∃ (Parts11 : Int), cel H_28 (Array.size H) 0 = some (.int .i64 Parts11) ∧
                                                                                ∃ (InfosA11 : Option Addr) (Infosn11 Infosc11 : Nat), cel H_28 (Array.size H) (0 + 1) = some (.slice InfosA11 Infosn11 Infosc11) ∧ (HCalls cx.P φ 21 [.agg #[.int .i64 Parts10, .slice InfosA10 Infosn10 Infosc10], .agg #[.int .i64 Parts11, .slice InfosA11 Infosn11 Infosc11]] H_28 (fun v16 H_29 => ∃ (x13 : Bool), v16 = .bool x13 ∧ ((x13 = true → (∃ (Parts12 : Int), cel H_29 (Array.size H_2) 0 = some (.int .i64 Parts12) ∧
                                                                                ∃ (InfosA12 : Option Addr) (Infosn12 Infosc12 : Nat), cel H_29 (Array.size H_2) (0 + 1) = some (.slice InfosA12 Infosn12 Infosc12) ∧ (HCalls cx.P φ 53 [.agg #[.int .i64 Parts12, .slice InfosA12 Infosn12 Infosc12]] H_29 (fun v17 H_30 => ∃ (x14 : Bool), v17 = .bool x14 ∧ ((x14 = true → (HCalls cx.P φ 54 [.slice aA an ac, .int .i64 ((n4 : Nat) : Int)] H_30 (fun v18 H_31 => ∃ (x15 : Bool), v18 = .bool x15 ∧ (M_3 x15 H_31)))) ∧
                                                                                (x14 = false → (M_3 false H_30))))))) ∧
                                                                                (x13 = false → (M_3 false H_29)))))))) ∧
                                                                                (x12 = false → (M_3 false H_28))))) ∧
                                                                                (∀ (x16 : Bool) (j_7 : Nat → Value) (H_32 : Hp), M_3 x16 H_32 → (R (.bool x16) H_32))))))))))))))))))))))))))))))))))))))))))))))))))))))
theorem f6.vc (φ : Fx) (f : Int) (fA : Option Addr) (fn fc : Nat) (H : Hp) (R : Value → Hp → Prop) : fnW cx φ Try.f6 f6.an [.agg #[.int .i64 f, .slice fA fn fc]] H R = f6.VC φ f fA fn fc H R := by kernel_rfl
theorem f6.of {φ : Fx} {f : Int} {fA : Option Addr} {fn fc : Nat} {H : Hp} {R : Value → Hp → Prop} (h : f6.VC φ f fA fn fc H R) : HCalls cx.P φ 6 [.agg #[.int .i64 f, .slice fA fn fc]] H R :=
  fnW_calls cx_ok (show cx.P.funcs[6]? = some Try.f6 by kernel_rfl) (by rw [f6.vc]; exact h)

/-! ### 36 winnow/winnowlaw2.spare -/
def f36.an : An := .seq (.reg (.op false (.done))) (.seq (.reg (.op false (.op false (.op false (.op false (.op false (.done))))))) (.seq (.seq (.reg (.op false (.done))) (.blk (.loop [(4, false, [.int .i64])] (.seq (.seq (.reg (.op false (.op false (.op false (.op false (.done)))))) (.cond (.nil) (.nil))) (.seq (.blk (.seq (.reg (.op false (.op false (.op false (.op false (.done)))))) (.seq (.reg (.op false (.op false (.op false (.op false (.done)))))) (.join [] (.cond (.reg (.op false (.op false (.op false (.op false (.op false (.op false (.op false (.op false (.done)))))))))) (.nil)))))) (.reg (.op false (.op false (.op false (.done)))))))))) (.seq (.reg (.op false (.op false (.done)))) (.nil))))
def f36.VC (φ : Fx) (bA : Option Addr) (bn bc : Nat) (H : Hp) (R : Value → Hp → Prop) : Prop :=
  ((-9223372036854775808) ≤ ((bn : Nat) : Int) + 64 ∧ ((bn : Nat) : Int) + 64 ≤ 9223372036854775807) ∧
  ((0 ≤ (((bn : Nat) : Int) + 64) ∧ (((bn : Nat) : Int) + 64) ≤ (((bn : Nat) : Int) + 64) ∧ (((bn : Nat) : Int) + 64) * 1 ≤ 281474976710656) ∧
    (let H_ : Hp := Array.push H (.cells (zrow [.int .u8 0] (Int.toNat (((bn : Nat) : Int) + 64))).toArray 5 (0, 0));
      (∃ (I_ : Int → Hp → Prop) (m_ : Int → Hp → Nat), I_ 0 H_ ∧
        (∀ (i : Int) (j_ : Nat → Value) (H_2 : Hp), I_ i H_2 → (((decide (i < ((Int.toNat (((bn : Nat) : Int) + 64) : Nat) : Int))) = true → (∃ (b o : Nat), (some (⟨Array.size H, 0, none⟩ : Addr)) = some ⟨b, o, none⟩ ∧ (0 ≤ i ∧ i < ((Int.toNat (((bn : Nat) : Int) + 64) : Nat) : Int)) ∧
                (canPut H_2 b (o + Int.toNat i * 1) [.int .u8 150] ∧
                  (let H_3 : Hp := hput H_2 b (o + Int.toNat i * 1) [.int .u8 150];
                    (∃ M_ : Hp → Prop, (((decide (i < ((bn : Nat) : Int))) = true → (∃ (b2 o2 : Nat), bA = some ⟨b2, o2, none⟩ ∧ (0 ≤ i ∧ i < ((bn : Nat) : Int)) ∧
                            (∃ (x : Int), cel H_3 b2 (o2 + Int.toNat i * 1) = some (.int .u8 x) ∧ (∃ (b3 o3 : Nat), (some (⟨Array.size H, 0, none⟩ : Addr)) = some ⟨b3, o3, none⟩ ∧ (0 ≤ i ∧ i < ((Int.toNat (((bn : Nat) : Int) + 64) : Nat) : Int)) ∧
                                (canPut H_3 b3 (o3 + Int.toNat i * 1) [.int .u8 x] ∧
                                  (let H_4 : Hp := hput H_3 b3 (o3 + Int.toNat i * 1) [.int .u8 x];
                                    (M_ H_4))))))) ∧
                        ((decide (i < ((bn : Nat) : Int))) = false → (M_ H_3))) ∧
                      (∀  (j_2 : Nat → Value) (H_5 : Hp), M_ H_5 → (((-9223372036854775808) ≤ i + 1 ∧ i + 1 ≤ 9223372036854775807) ∧
                          (I_ (i + 1) H_5 ∧ m_ (i + 1) H_5 < m_ i H_2)))))))) ∧
            ((decide (i < ((Int.toNat (((bn : Nat) : Int) + 64) : Nat) : Int))) = false → (R (.slice (some (⟨Array.size H, 0, none⟩ : Addr)) (Int.toNat (((bn : Nat) : Int) + 64)) (Int.toNat (((bn : Nat) : Int) + 64))) H_2)))))))
theorem f36.vc (φ : Fx) (bA : Option Addr) (bn bc : Nat) (H : Hp) (R : Value → Hp → Prop) : fnW cx φ Try.f36 f36.an [.slice bA bn bc] H R = f36.VC φ bA bn bc H R := by kernel_rfl
theorem f36.of {φ : Fx} {bA : Option Addr} {bn bc : Nat} {H : Hp} {R : Value → Hp → Prop} (h : f36.VC φ bA bn bc H R) : HCalls cx.P φ 36 [.slice bA bn bc] H R :=
  fnW_calls cx_ok (show cx.P.funcs[36]? = some Try.f36 by kernel_rfl) (by rw [f36.vc]; exact h)

/-! ### 37 winnow/nums.NewCursor -/
def f37.an : An := .seq (.reg (.op false (.done))) (.seq (.reg (.op false (.op false (.op false (.op false (.op false (.done))))))) (.nil))
def f37.VC (φ : Fx) (bA : Option Addr) (bn bc : Nat) (H : Hp) (R : Value → Hp → Prop) : Prop :=
  appW cx 59 59 (Value.slice none 0 0) (Value.slice bA bn bc) H (fun v H_ => ∃ (A : Option Addr) (n c : Nat), v = .slice A n c ∧ (let H_2 : Hp := Array.push H_ (.cells #[.slice A n c, .int .i64 0, .int .i64 0] 68 (0, 0));
      (R (.pointer (some ⟨Array.size H_, 0, none⟩)) H_2)))
theorem f37.vc (φ : Fx) (bA : Option Addr) (bn bc : Nat) (H : Hp) (R : Value → Hp → Prop) : fnW cx φ Try.f37 f37.an [.slice bA bn bc] H R = f37.VC φ bA bn bc H R := by kernel_rfl
theorem f37.of {φ : Fx} {bA : Option Addr} {bn bc : Nat} {H : Hp} {R : Value → Hp → Prop} (h : f37.VC φ bA bn bc H R) : HCalls cx.P φ 37 [.slice bA bn bc] H R :=
  fnW_calls cx_ok (show cx.P.funcs[37]? = some Try.f37 by kernel_rfl) (by rw [f37.vc]; exact h)

/-! ### 38 winnow/winnowlaw2.kept -/
def f38.an : An := .seq (.reg (.op false (.done))) (.seq (.seq (.reg (.op false (.op false (.op false (.op false (.op false (.op false (.done)))))))) (.cond (.seq (.reg (.op false (.done))) (.nil)) (.nil))) (.seq (.seq (.reg (.op false (.done))) (.blk (.loop [(5, false, [.int .i64])] (.seq (.seq (.reg (.op false (.op false (.op false (.op false (.done)))))) (.cond (.nil) (.nil))) (.seq (.blk (.seq (.join [(45, false, [.bool])] (.draw [[], [], [1], [0, 1, 2], [0, 1, 2, 3], [0, 1, 2, 3, 4], [0, 1, 2, 3, 4], [0, 1, 2, 3, 4, 5, 6], [0, 1, 2, 3, 4, 5, 6, 7], [0, 1, 2, 3, 4], [0, 1, 2, 3, 4], [0, 1, 2, 3, 4, 9, 10], [0, 1, 2, 3, 4, 9, 10, 11], [0, 1, 2, 3, 4, 5, 6, 7, 8, 9, 10, 11, 12], [0, 1, 2, 3, 4, 5, 6, 7, 8, 9, 10, 11, 12, 13], [0, 1, 2, 3, 4, 5, 6, 7, 8, 9, 10, 11, 12, 13, 14], [0, 1, 2, 3, 4, 5, 6, 7, 8, 9, 10, 11, 12, 13, 14, 15], [0, 1, 2, 3, 4, 5, 6, 7, 8, 9, 10, 11, 12, 13, 14, 15], [0, 1, 2, 3, 4, 5, 6, 7, 8, 9, 10, 11, 12, 13, 14, 15, 17], [0, 1, 2, 3, 4, 5, 6, 7, 8, 9, 10, 11, 12, 13, 14, 15, 16, 17, 18], [0, 1, 2, 3, 4, 5, 6, 7, 8, 9, 10, 11, 12, 13, 14, 15, 16, 17, 18, 19], [0, 1, 2, 3, 4, 5, 6, 7, 8, 9, 10, 11, 12, 13, 14, 15, 16, 17, 18, 19, 20], [0, 1, 2, 3, 4, 5, 6, 7, 8, 9, 10, 11, 12, 13, 14, 15, 16, 17, 18, 19, 20], [0, 1, 2, 3, 4, 5, 6, 7, 8, 9, 10, 11, 12, 13, 14, 15, 16, 17, 18, 19, 20, 21, 22], [0, 1, 2, 3, 4, 5, 6, 7, 8, 9, 10, 11, 12, 13, 14, 15, 16, 17, 18, 19, 20, 21, 22, 23], [0, 1, 2, 3, 4, 5, 6, 7, 8, 9, 10, 11, 12, 13, 14, 15, 16, 17, 18, 19, 20, 21, 22, 23, 24], [0, 1, 2, 3, 4, 5, 6, 7, 8, 9, 10, 11, 12, 13, 14, 15, 16, 17, 18, 19, 20, 21, 22, 23, 24, 25], [0, 1, 2, 3, 4, 5, 6, 7, 8, 9, 10, 11, 12, 13, 14, 15, 16, 17, 18, 19, 20, 21, 22, 23, 24, 25, 26]] (.rd 0 false (.rd 1 false (.rd 2 false (.rd 3 false (.rd 4 false (.split 22 (.rd 5 false (.rd 6 false (.rd 7 false (.rd 8 false (.rd 9 false (.rd 10 false (.rd 11 false (.rd 12 false (.rd 13 true (.rd 14 false (.rd 15 false (.split 33 (.rd 16 false (.rd 17 false (.rd 18 false (.rd 19 false (.rd 20 false (.rd 21 false (.rd 22 false (.rd 23 false (.rd 24 false (.rd 25 true (.rd 26 false (.rd 27 false (.done))))))))))))) (.rd 16 false (.rd 17 false (.rd 18 false (.rd 19 false (.rd 20 false (.split 38 (.rd 21 false (.rd 22 false (.rd 23 false (.rd 24 false (.rd 25 true (.rd 26 false (.rd 27 false (.done)))))))) (.rd 21 false (.rd 22 false (.rd 23 false (.rd 24 false (.rd 25 true (.rd 26 false (.rd 27 false (.done)))))))))))))))))))))))))) (.rd 5 false (.rd 6 false (.rd 7 false (.rd 8 false (.rd 9 false (.rd 10 false (.rd 11 false (.rd 12 false (.rd 13 true (.rd 14 false (.rd 15 false (.rd 16 false (.rd 17 false (.rd 18 false (.rd 19 false (.rd 20 false (.split 38 (.rd 21 false (.rd 22 false (.rd 23 false (.rd 24 false (.rd 25 true (.rd 26 false (.rd 27 false (.done)))))))) (.rd 21 false (.rd 22 false (.rd 23 false (.rd 24 false (.rd 25 true (.rd 26 false (.rd 27 false (.done))))))))))))))))))))))))))))))))) (.cond (.seq (.reg (.op false (.done))) (.nil)) (.nil)))) (.reg (.op false (.op false (.op false (.done)))))))))) (.seq (.reg (.op false (.done))) (.nil))))
def f38.VC (φ : Fx) (gA : Option Addr) (gn gc : Nat) (bA : Option Addr) (bn bc : Nat) (H : Hp) (R : Value → Hp → Prop) : Prop :=
  ((-9223372036854775808) ≤ ((bn : Nat) : Int) + 64 ∧ ((bn : Nat) : Int) + 64 ≤ 9223372036854775807) ∧
  (((!decide (((gn : Nat) : Int) = (((bn : Nat) : Int) + 64))) = true → (R (.bool false) H)) ∧
    ((!decide (((gn : Nat) : Int) = (((bn : Nat) : Int) + 64))) = false → (∃ (I_ : Int → Hp → Prop) (m_ : Int → Hp → Nat), I_ 0 H ∧
        (∀ (i : Int) (j_ : Nat → Value) (H_ : Hp), I_ i H_ → (((decide (i < ((gn : Nat) : Int))) = true → (∃ M_ : Bool → Hp → Prop, (((decide (i < ((bn : Nat) : Int))) = true → (∃ (b o : Nat), gA = some ⟨b, o, none⟩ ∧ (0 ≤ i ∧ i < ((gn : Nat) : Int)) ∧
                      (∃ (x : Int), cel H_ b (o + Int.toNat i * 1) = some (.int .u8 x) ∧ (∃ (b2 o2 : Nat), bA = some ⟨b2, o2, none⟩ ∧ (0 ≤ i ∧ i < ((bn : Nat) : Int)) ∧
                          (∃ (x2 : Int), cel H_ b2 (o2 + Int.toNat i * 1) = some (.int .u8 x2) ∧ (((!decide (x = x2)) = true → (M_ true H_)) ∧
                              ((!decide (x = x2)) = false → (((decide (((bn : Nat) : Int) ≤ i)) = true → (∃ (b3 o3 : Nat), gA = some ⟨b3, o3, none⟩ ∧ (0 ≤ i ∧ i < ((gn : Nat) : Int)) ∧
                                      (∃ (x3 : Int), cel H_ b3 (o3 + Int.toNat i * 1) = some (.int .u8 x3) ∧ (M_ (!decide (x3 = 150)) H_)))) ∧
                                  ((decide (((bn : Nat) : Int) ≤ i)) = false → (M_ false H_)))))))))) ∧
                  ((decide (i < ((bn : Nat) : Int))) = false → (((decide (((bn : Nat) : Int) ≤ i)) = true → (∃ (b4 o4 : Nat), gA = some ⟨b4, o4, none⟩ ∧ (0 ≤ i ∧ i < ((gn : Nat) : Int)) ∧
                          (∃ (x4 : Int), cel H_ b4 (o4 + Int.toNat i * 1) = some (.int .u8 x4) ∧ (M_ (!decide (x4 = 150)) H_)))) ∧
                      ((decide (((bn : Nat) : Int) ≤ i)) = false → (M_ false H_))))) ∧
                (∀ (x5 : Bool) (j_2 : Nat → Value) (H_2 : Hp), M_ x5 H_2 → ((x5 = true → (R (.bool false) H_2)) ∧
                    (x5 = false → (((-9223372036854775808) ≤ i + 1 ∧ i + 1 ≤ 9223372036854775807) ∧
                        (I_ (i + 1) H_2 ∧ m_ (i + 1) H_2 < m_ i H_))))))) ∧
            ((decide (i < ((gn : Nat) : Int))) = false → (R (.bool true) H_)))))))
theorem f38.vc (φ : Fx) (gA : Option Addr) (gn gc : Nat) (bA : Option Addr) (bn bc : Nat) (H : Hp) (R : Value → Hp → Prop) : fnW cx φ Try.f38 f38.an [.slice gA gn gc, .slice bA bn bc] H R = f38.VC φ gA gn gc bA bn bc H R := by kernel_rfl
theorem f38.of {φ : Fx} {gA : Option Addr} {gn gc : Nat} {bA : Option Addr} {bn bc : Nat} {H : Hp} {R : Value → Hp → Prop} (h : f38.VC φ gA gn gc bA bn bc H R) : HCalls cx.P φ 38 [.slice gA gn gc, .slice bA bn bc] H R :=
  fnW_calls cx_ok (show cx.P.funcs[38]? = some Try.f38 by kernel_rfl) (by rw [f38.vc]; exact h)

/-! ### 39 winnow/winnowref2.NewCursor -/
def f39.an : An := .seq (.reg (.op false (.done))) (.seq (.reg (.op false (.op false (.op false (.done))))) (.seq (.reg (.op false (.op false (.op false (.op false (.op false (.op false (.op false (.op false (.op false (.op false (.done)))))))))))) (.seq (.reg (.op false (.op false (.done)))) (.nil))))
def f39.VC (φ : Fx) (bA : Option Addr) (bn bc : Nat) (H : Hp) (R : Value → Hp → Prop) : Prop :=
  let H_ : Hp := Array.push H (.cells #[.slice none 0 0, .int .i64 0, .bool false, .int .i64 0, .int .i64 0] 72 (0, 0));
  (∃ (b o : Nat), some (⟨Array.size H, 0, none⟩ : Addr) = some ⟨b, o, none⟩ ∧ (∃ (A : Option Addr) (n c : Nat), cel H_ b o = some (.slice A n c) ∧ (appW cx 59 59 (Value.slice A n c) (Value.slice bA bn bc) H_ (fun v H_2 => ∃ (A2 : Option Addr) (n2 c2 : Nat), v = .slice A2 n2 c2 ∧ (∃ (b2 o2 : Nat), some (⟨Array.size H, 0, none⟩ : Addr) = some ⟨b2, o2, none⟩ ∧ (canPut H_2 b2 o2 [.slice A2 n2 c2] ∧
              (let H_3 : Hp := hput H_2 b2 o2 [.slice A2 n2 c2];
                (R (.pointer (some ⟨Array.size H, 0, none⟩)) H_3))))))))
theorem f39.vc (φ : Fx) (bA : Option Addr) (bn bc : Nat) (H : Hp) (R : Value → Hp → Prop) : fnW cx φ Try.f39 f39.an [.slice bA bn bc] H R = f39.VC φ bA bn bc H R := by kernel_rfl
theorem f39.of {φ : Fx} {bA : Option Addr} {bn bc : Nat} {H : Hp} {R : Value → Hp → Prop} (h : f39.VC φ bA bn bc H R) : HCalls cx.P φ 39 [.slice bA bn bc] H R :=
  fnW_calls cx_ok (show cx.P.funcs[39]? = some Try.f39 by kernel_rfl) (by rw [f39.vc]; exact h)

/-! ### 40 (*winnow/nums.Cursor).Rest -/
def f40.an : An := .seq (.reg (.op false (.done))) (.seq (.seq (.join [(11, false, [.bool])] (.reg (.op false (.op false (.op false (.split 5 (.op false (.op false (.op false (.op false (.op false (.op false (.done))))))) (.op false (.op false (.op false (.op false (.op false (.op false (.done))))))))))))) (.cond (.seq (.reg (.op false (.done))) (.nil)) (.nil))) (.seq (.draw [[], [0], [0, 1], [0, 1, 2], [0, 1, 2, 3], [], [5], [5, 6], [5, 6, 7], [0, 1, 2, 3, 4, 5, 6, 7, 8], [0, 1, 2, 3, 4, 5, 6, 7, 8, 9]] (.rd 0 false (.rd 1 false (.rd 2 false (.rd 3 false (.rd 4 false (.rd 5 false (.rd 6 false (.rd 7 false (.rd 8 false (.rd 9 false (.rd 10 false (.done))))))))))))) (.nil)))
def f40.VC (φ : Fx) (c : Option Addr) (H : Hp) (R : Value → Hp → Prop) : Prop :=
  ∃ M_ : Bool → Hp → Prop, (((Option.isNone c) = true → (M_ true H)) ∧
    ((Option.isNone c) = false → (∃ (b o : Nat), c = some ⟨b, o, none⟩ ∧ (∃ (x : Int), cel H b (o + 2) = some (.int .i64 x) ∧ (M_ (!decide (x = 0)) H))))) ∧
  (∀ (x2 : Bool) (j_ : Nat → Value) (H_ : Hp), M_ x2 H_ → ((x2 = true → (R (.int .i64 0) H_)) ∧
      (x2 = false → (∃ (b2 o2 : Nat), c = some ⟨b2, o2, none⟩ ∧ (∃ (A : Option Addr) (n c2 : Nat), cel H_ b2 o2 = some (.slice A n c2) ∧ (∃ (b3 o3 : Nat), c = some ⟨b3, o3, none⟩ ∧ (∃ (x3 : Int), cel H_ b3 (o3 + 1) = some (.int .i64 x3) ∧ (((-9223372036854775808) ≤ ((n : Nat) : Int) - x3 ∧ ((n : Nat) : Int) - x3 ≤ 9223372036854775807) ∧
                  (R (.int .i64 (((n : Nat) : Int) - x3)) H_)))))))))
theorem f40.vc (φ : Fx) (c : Option Addr) (H : Hp) (R : Value → Hp → Prop) : fnW cx φ Try.f40 f40.an [.pointer c] H R = f40.VC φ c H R := by kernel_rfl
theorem f40.of {φ : Fx} {c : Option Addr} {H : Hp} {R : Value → Hp → Prop} (h : f40.VC φ c H R) : HCalls cx.P φ 40 [.pointer c] H R :=
  fnW_calls cx_ok (show cx.P.funcs[40]? = some Try.f40 by kernel_rfl) (by rw [f40.vc]; exact h)

/-! ### 41 (*winnow/winnowref2.Cursor).Rest -/
def f41.an : An := .seq (.reg (.op false (.done))) (.seq (.seq (.join [(10, false, [.bool])] (.reg (.op false (.op false (.op false (.split 5 (.op false (.op false (.op false (.op false (.op false (.done)))))) (.op false (.op false (.op false (.op false (.op false (.done)))))))))))) (.cond (.seq (.reg (.op false (.done))) (.nil)) (.nil))) (.seq (.draw [[], [0], [0, 1], [0, 1, 2], [0, 1, 2, 3], [], [5], [5, 6], [5, 6, 7], [0, 1, 2, 3, 4, 5, 6, 7, 8], [0, 1, 2, 3, 4, 5, 6, 7, 8, 9]] (.rd 0 false (.rd 1 false (.rd 2 false (.rd 3 false (.rd 4 false (.rd 5 false (.rd 6 false (.rd 7 false (.rd 8 false (.rd 9 false (.rd 10 false (.done))))))))))))) (.nil)))
def f41.VC (φ : Fx) (c : Option Addr) (H : Hp) (R : Value → Hp → Prop) : Prop :=
  ∃ M_ : Bool → Hp → Prop, (((Option.isNone c) = true → (M_ true H)) ∧
    ((Option.isNone c) = false → (∃ (b o : Nat), c = some ⟨b, o, none⟩ ∧ (∃ (x : Bool), cel H b (o + 2) = some (.bool x) ∧ (M_ x H))))) ∧
  (∀ (x2 : Bool) (j_ : Nat → Value) (H_ : Hp), M_ x2 H_ → ((x2 = true → (R (.int .i64 0) H_)) ∧
      (x2 = false → (∃ (b2 o2 : Nat), c = some ⟨b2, o2, none⟩ ∧ (∃ (A : Option Addr) (n c2 : Nat), cel H_ b2 o2 = some (.slice A n c2) ∧ (∃ (b3 o3 : Nat), c = some ⟨b3, o3, none⟩ ∧ (∃ (x3 : Int), cel H_ b3 (o3 + 1) = some (.int .i64 x3) ∧ (((-9223372036854775808) ≤ ((n : Nat) : Int) - x3 ∧ ((n : Nat) : Int) - x3 ≤ 9223372036854775807) ∧
                  (R (.int .i64 (((n : Nat) : Int) - x3)) H_)))))))))
theorem f41.vc (φ : Fx) (c : Option Addr) (H : Hp) (R : Value → Hp → Prop) : fnW cx φ Try.f41 f41.an [.pointer c] H R = f41.VC φ c H R := by kernel_rfl
theorem f41.of {φ : Fx} {c : Option Addr} {H : Hp} {R : Value → Hp → Prop} (h : f41.VC φ c H R) : HCalls cx.P φ 41 [.pointer c] H R :=
  fnW_calls cx_ok (show cx.P.funcs[41]? = some Try.f41 by kernel_rfl) (by rw [f41.vc]; exact h)

/-! ### 42 (*winnow/nums.Cursor).End -/
def f42.an : An := .seq (.reg (.op false (.done))) (.seq (.blk (.seq (.reg (.op false (.op false (.op false (.done))))) (.cond (.seq (.reg (.op false (.op false (.done)))) (.nil)) (.seq (.reg (.op false (.op false (.op false (.op false (.op false (.op false (.done)))))))) (.cond (.seq (.draw [[], [0], [0, 1], [0, 1, 2], [], [4], [4, 5], [4, 5, 6], [0, 1, 2, 3, 4, 5, 6, 7], [0, 1, 2, 3, 4, 5, 6, 7, 8]] (.rd 0 false (.rd 1 false (.rd 2 false (.rd 3 false (.rd 4 false (.rd 5 false (.rd 6 false (.rd 7 false (.rd 8 false (.eff 9 false (.done)))))))))))) (.nil)) (.seq (.draw [[], [0], [0, 1], [0, 1, 2], [], [4], [4, 5], [4, 5, 6], [4, 5, 6, 7], [0, 1, 2, 3, 4, 5, 6, 7, 8], [0, 1, 2, 3, 4, 5, 6, 7, 8, 9]] (.rd 0 false (.rd 1 false (.rd 2 false (.rd 3 false (.rd 4 false (.rd 5 false (.rd 6 false (.rd 7 false (.rd 8 false (.rd 9 false (.rd 10 false (.done))))))))))))) (.cond (.seq (.reg (.op false (.op false (.op false (.op false (.op false (.op false (.done)))))))) (.nil)) (.nil)))))))) (.seq (.reg (.op false (.op false (.done)))) (.nil)))
def f42.VC (φ : Fx) (c : Option Addr) (H : Hp) (R : Value → Hp → Prop) : Prop :=
  let H_ : Hp := Array.push H (.cells #[.int .i64 0, .int .i64 0] 70 (0, 0));
  (((Option.isNone c) = true → (canPut H_ (Array.size H) 0 [.int .i64 1, .int .i64 0] ∧
        (let H_2 : Hp := hput H_ (Array.size H) 0 [.int .i64 1, .int .i64 0];
          (∃ (r_Err : Int), cel H_2 (Array.size H) 0 = some (.int .i64 r_Err) ∧
            ∃ (r_At : Int), cel H_2 (Array.size H) (0 + 1) = some (.int .i64 r_At) ∧ (R (.agg #[.int .i64 r_Err, .int .i64 r_At]) H_2))))) ∧
    ((Option.isNone c) = false → (∃ (b o : Nat), c = some ⟨b, o, none⟩ ∧ (∃ (x : Int), cel H_ b (o + 2) = some (.int .i64 x) ∧ (((!decide (x = 0)) = true → (∃ (b2 o2 : Nat), c = some ⟨b2, o2, none⟩ ∧ (∃ (x2 : Int), cel H_ b2 (o2 + 2) = some (.int .i64 x2) ∧ (∃ (b3 o3 : Nat), c = some ⟨b3, o3, none⟩ ∧ (∃ (x3 : Int), cel H_ b3 (o3 + 1) = some (.int .i64 x3) ∧ (canPut H_ (Array.size H) 0 [.int .i64 x2, .int .i64 x3] ∧
                        (let H_3 : Hp := hput H_ (Array.size H) 0 [.int .i64 x2, .int .i64 x3];
                          (∃ (r_Err2 : Int), cel H_3 (Array.size H) 0 = some (.int .i64 r_Err2) ∧
                            ∃ (r_At2 : Int), cel H_3 (Array.size H) (0 + 1) = some (.int .i64 r_At2) ∧ (R (.agg #[.int .i64 r_Err2, .int .i64 r_At2]) H_3))))))))) ∧
            ((!decide (x = 0)) = false → (∃ (b4 o4 : Nat), c = some ⟨b4, o4, none⟩ ∧ (∃ (x4 : Int), cel H_ b4 (o4 + 1) = some (.int .i64 x4) ∧ (∃ (b5 o5 : Nat), c = some ⟨b5, o5, none⟩ ∧ (∃ (A : Option Addr) (n c2 : Nat), cel H_ b5 o5 = some (.slice A n c2) ∧ (((decide (x4 < ((n : Nat) : Int))) = true → (∃ (b6 o6 : Nat), c = some ⟨b6, o6, none⟩ ∧ (∃ (x5 : Int), cel H_ b6 (o6 + 1) = some (.int .i64 x5) ∧ (canPut H_ (Array.size H) 0 [.int .i64 22, .int .i64 x5] ∧
                                (let H_4 : Hp := hput H_ (Array.size H) 0 [.int .i64 22, .int .i64 x5];
                                  (∃ (r_Err3 : Int), cel H_4 (Array.size H) 0 = some (.int .i64 r_Err3) ∧
                                    ∃ (r_At3 : Int), cel H_4 (Array.size H) (0 + 1) = some (.int .i64 r_At3) ∧ (R (.agg #[.int .i64 r_Err3, .int .i64 r_At3]) H_4))))))) ∧
                        ((decide (x4 < ((n : Nat) : Int))) = false → (canPut H_ (Array.size H) 0 [.int .i64 0, .int .i64 0] ∧
                            (let H_5 : Hp := hput H_ (Array.size H) 0 [.int .i64 0, .int .i64 0];
                              (∃ (r_Err4 : Int), cel H_5 (Array.size H) 0 = some (.int .i64 r_Err4) ∧
                                ∃ (r_At4 : Int), cel H_5 (Array.size H) (0 + 1) = some (.int .i64 r_At4) ∧ (R (.agg #[.int .i64 r_Err4, .int .i64 r_At4]) H_5))))))))))))))))
theorem f42.vc (φ : Fx) (c : Option Addr) (H : Hp) (R : Value → Hp → Prop) : fnW cx φ Try.f42 f42.an [.pointer c] H R = f42.VC φ c H R := by kernel_rfl
theorem f42.of {φ : Fx} {c : Option Addr} {H : Hp} {R : Value → Hp → Prop} (h : f42.VC φ c H R) : HCalls cx.P φ 42 [.pointer c] H R :=
  fnW_calls cx_ok (show cx.P.funcs[42]? = some Try.f42 by kernel_rfl) (by rw [f42.vc]; exact h)

/-! ### 43 (*winnow/winnowref2.Cursor).End -/
def f43.an : An := .seq (.reg (.op false (.done))) (.seq (.seq (.reg (.op false (.op false (.done)))) (.cond (.seq (.reg (.op false (.op false (.done)))) (.nil)) (.nil))) (.seq (.seq (.reg (.op false (.op false (.op false (.op false (.done)))))) (.cond (.seq (.reg (.op false (.op false (.op false (.op false (.op false (.done))))))) (.nil)) (.nil))) (.seq (.seq (.draw [[], [0], [0, 1], [0, 1, 2], [], [4], [4, 5], [4, 5, 6], [4, 5, 6, 7], [0, 1, 2, 3, 4, 5, 6, 7, 8]] (.rd 0 false (.rd 1 false (.rd 2 false (.rd 3 false (.rd 4 false (.rd 5 false (.rd 6 false (.rd 7 false (.rd 8 false (.rd 9 false (.done)))))))))))) (.cond (.seq (.reg (.op false (.op false (.op false (.op false (.op false (.op false (.done)))))))) (.nil)) (.nil))) (.seq (.reg (.op false (.op false (.done)))) (.nil)))))
def f43.VC (φ : Fx) (c : Option Addr) (H : Hp) (R : Value → Hp → Prop) : Prop :=
  let H_ : Hp := Array.push H (.cells #[.int .i64 0, .int .i64 0] 70 (0, 0));
  (((Option.isNone c) = true → (canPut H_ (Array.size H) 0 [.int .i64 1, .int .i64 0] ∧
        (let H_2 : Hp := hput H_ (Array.size H) 0 [.int .i64 1, .int .i64 0];
          (∃ (r_Err : Int), cel H_2 (Array.size H) 0 = some (.int .i64 r_Err) ∧
            ∃ (r_At : Int), cel H_2 (Array.size H) (0 + 1) = some (.int .i64 r_At) ∧ (R (.agg #[.int .i64 r_Err, .int .i64 r_At]) H_2))))) ∧
    ((Option.isNone c) = false → (∃ (b o : Nat), c = some ⟨b, o, none⟩ ∧ (∃ (x : Bool), cel H_ b (o + 2) = some (.bool x) ∧ ((x = true → (∃ (b2 o2 : Nat), c = some ⟨b2, o2, none⟩ ∧ (∃ (Err : Int), cel H_ b2 (o2 + 3) = some (.int .i64 Err) ∧
                  ∃ (At : Int), cel H_ b2 (o2 + 3 + 1) = some (.int .i64 At) ∧ (canPut H_ (Array.size H) 0 [.int .i64 Err, .int .i64 At] ∧
                    (let H_3 : Hp := hput H_ (Array.size H) 0 [.int .i64 Err, .int .i64 At];
                      (∃ (r_Err2 : Int), cel H_3 (Array.size H) 0 = some (.int .i64 r_Err2) ∧
                        ∃ (r_At2 : Int), cel H_3 (Array.size H) (0 + 1) = some (.int .i64 r_At2) ∧ (R (.agg #[.int .i64 r_Err2, .int .i64 r_At2]) H_3))))))) ∧
            (x = false → (∃ (b3 o3 : Nat), c = some ⟨b3, o3, none⟩ ∧ (∃ (x2 : Int), cel H_ b3 (o3 + 1) = some (.int .i64 x2) ∧ (∃ (b4 o4 : Nat), c = some ⟨b4, o4, none⟩ ∧ (∃ (A : Option Addr) (n c2 : Nat), cel H_ b4 o4 = some (.slice A n c2) ∧ (((decide (x2 < ((n : Nat) : Int))) = true → (∃ (b5 o5 : Nat), c = some ⟨b5, o5, none⟩ ∧ (∃ (x3 : Int), cel H_ b5 (o5 + 1) = some (.int .i64 x3) ∧ (canPut H_ (Array.size H) 0 [.int .i64 22, .int .i64 x3] ∧
                                (let H_4 : Hp := hput H_ (Array.size H) 0 [.int .i64 22, .int .i64 x3];
                                  (∃ (r_Err3 : Int), cel H_4 (Array.size H) 0 = some (.int .i64 r_Err3) ∧
                                    ∃ (r_At3 : Int), cel H_4 (Array.size H) (0 + 1) = some (.int .i64 r_At3) ∧ (R (.agg #[.int .i64 r_Err3, .int .i64 r_At3]) H_4))))))) ∧
                        ((decide (x2 < ((n : Nat) : Int))) = false → (canPut H_ (Array.size H) 0 [.int .i64 0, .int .i64 0] ∧
                            (let H_5 : Hp := hput H_ (Array.size H) 0 [.int .i64 0, .int .i64 0];
                              (∃ (r_Err4 : Int), cel H_5 (Array.size H) 0 = some (.int .i64 r_Err4) ∧
                                ∃ (r_At4 : Int), cel H_5 (Array.size H) (0 + 1) = some (.int .i64 r_At4) ∧ (R (.agg #[.int .i64 r_Err4, .int .i64 r_At4]) H_5))))))))))))))))
theorem f43.vc (φ : Fx) (c : Option Addr) (H : Hp) (R : Value → Hp → Prop) : fnW cx φ Try.f43 f43.an [.pointer c] H R = f43.VC φ c H R := by kernel_rfl
theorem f43.of {φ : Fx} {c : Option Addr} {H : Hp} {R : Value → Hp → Prop} (h : f43.VC φ c H R) : HCalls cx.P φ 43 [.pointer c] H R :=
  fnW_calls cx_ok (show cx.P.funcs[43]? = some Try.f43 by kernel_rfl) (by rw [f43.vc]; exact h)

/-! ### 153 winnow/nums.Get -/
def f153.an : An := .seq (.reg (.op false (.op false (.op false (.done))))) (.seq (.reg (.op false (.done))) (.seq (.seq (.reg (.op false (.op false (.op false (.done))))) (.blk (.loop [(5, false, [.int .i64]), (10, false, [.int .i64])] (.seq (.reg (.op false (.done))) (.seq (.cond (.nil) (.nil)) (.seq (.blk (.seq (.reg (.op false (.op false (.op false (.op false (.op false (.done))))))) (.seq (.seq (.join [(20, false, [.bool])] (.reg (.op false (.op false (.op false (.split 17 (.op false (.op true (.op false (.done)))) (.op false (.op true (.op false (.done)))))))))) (.cond (.seq (.reg (.op false (.op false (.op false (.done))))) (.nil)) (.nil))) (.seq (.reg (.op false (.op false (.op true (.op false (.op false (.op false (.op false (.op false (.op false (.done))))))))))) (.seq (.reg (.op false (.op true (.done)))) (.cond (.seq (.seq (.join [(36, false, [.bool])] (.reg (.op false (.op true (.op false (.split 33 (.op false (.op false (.op false (.done)))) (.op false (.op false (.op false (.done)))))))))) (.cond (.seq (.reg (.op false (.op false (.op false (.done))))) (.nil)) (.nil))) (.seq (.reg (.op false (.op false (.op false (.op false (.op false (.op false (.done)))))))) (.nil))) (.nil))))))) (.reg (.op false (.op false (.done)))))))))) (.seq (.reg (.op false (.op false (.op false (.done))))) (.nil))))
def f153.VC (φ : Fx) (bA : Option Addr) (bn bc : Nat) (H : Hp) (R : Value → Hp → Prop) : Prop :=
  ∃ (I_ : Int → Int → Hp → Prop) (m_ : Int → Int → Hp → Nat), I_ 0 0 H ∧
  (∀ (v : Int) (x : Int) (j_ : Nat → Value) (H_ : Hp), I_ v x H_ → (((decide (x < ((bn : Nat) : Int))) = true → (∃ (b o : Nat), bA = some ⟨b, o, none⟩ ∧ (0 ≤ x ∧ x < ((bn : Nat) : Int)) ∧
          (∃ (x2 : Int), cel H_ b (o + Int.toNat x * 1) = some (.int .u8 x2) ∧ (∃ M_ : Bool → Hp → Prop, (((decide (x = 8)) = true → (M_ (decide (128 ≤ x2)) H_)) ∧
                ((decide (x = 8)) = false → (M_ false H_))) ∧
              (∀ (x3 : Bool) (j_2 : Nat → Value) (H_2 : Hp), M_ x3 H_2 → ((x3 = true → (R (.tuple #[.int .i64 0, .int .i64 0, .int .i64 21]) H_2)) ∧
                  (x3 = false → (((-9223372036854775808) ≤ (bAnd .u8 x2 127) ∧ (bAnd .u8 x2 127) ≤ 9223372036854775807) ∧
                      (((-9223372036854775808) ≤ 7 * x ∧ 7 * x ≤ 9223372036854775807) ∧
                        ((0 : Int) ≤ (7 * x) ∧ (((-9223372036854775808) ≤ (bAnd .u8 x2 127) * 2 ^ (min (Int.toNat (7 * x)) 64) ∧ (bAnd .u8 x2 127) * 2 ^ (min (Int.toNat (7 * x)) 64) ≤ 9223372036854775807) ∧
                            (((decide (x2 < 128)) = true → (∃ M_2 : Bool → Hp → Prop, (((decide (x2 = 0)) = true → (M_2 (decide (0 < x)) H_2)) ∧
                                    ((decide (x2 = 0)) = false → (M_2 false H_2))) ∧
                                  (∀ (x4 : Bool) (j_3 : Nat → Value) (H_3 : Hp), M_2 x4 H_3 → ((x4 = true → (R (.tuple #[.int .i64 0, .int .i64 0, .int .i64 21]) H_3)) ∧
                                      (x4 = false → (((-9223372036854775808) ≤ x + 1 ∧ x + 1 ≤ 9223372036854775807) ∧
                                          (R (.tuple #[.int .i64 (bOr .i64 v ((bAnd .u8 x2 127) * 2 ^ (min (Int.toNat (7 * x)) 64))), .int .i64 (x + 1), .int .i64 0]) H_3))))))) ∧
                              ((decide (x2 < 128)) = false → (((-9223372036854775808) ≤ x + 1 ∧ x + 1 ≤ 9223372036854775807) ∧
                                  (I_ (bOr .i64 v ((bAnd .u8 x2 127) * 2 ^ (min (Int.toNat (7 * x)) 64))) (x + 1) H_2 ∧ m_ (bOr .i64 v ((bAnd .u8 x2 127) * 2 ^ (min (Int.toNat (7 * x)) 64))) (x + 1) H_2 < m_ v x H_))))))))))))))) ∧
      ((decide (x < ((bn : Nat) : Int))) = false → (R (.tuple #[.int .i64 0, .int .i64 0, .int .i64 20]) H_))))
theorem f153.vc (φ : Fx) (bA : Option Addr) (bn bc : Nat) (H : Hp) (R : Value → Hp → Prop) : fnW cx φ Try.f153 f153.an [.slice bA bn bc] H R = f153.VC φ bA bn bc H R := by kernel_rfl
theorem f153.of {φ : Fx} {bA : Option Addr} {bn bc : Nat} {H : Hp} {R : Value → Hp → Prop} (h : f153.VC φ bA bn bc H R) : HCalls cx.P φ 153 [.slice bA bn bc] H R :=
  fnW_calls cx_ok (show cx.P.funcs[153]? = some Try.f153 by kernel_rfl) (by rw [f153.vc]; exact h)

/-! ### 152 (*winnow/nums.Cursor).Num$1 -/
def f152.an : An := .seq (.reg (.op false (.op false (.done)))) (.seq (.reg (.op false (.op false (.op false (.op false (.op false (.op false (.op false (.op false (.op false (.done))))))))))) (.seq (.seq (.join [(21, false, [.bool])] (.reg (.op false (.op false (.op false (.split 17 (.op false (.op false (.op false (.op false (.done))))) (.op false (.op false (.op false (.op false (.done))))))))))) (.join [(8, false, [.int .i64])] (.cond (.reg (.op false (.done))) (.nil)))) (.seq (.seq (.reg (.op false (.op false (.done)))) (.join [] (.cond (.reg (.op false (.op false (.done)))) (.nil)))) (.seq (.reg (.op false (.op false (.op false (.op false (.done)))))) (.nil)))))
def f152.VC (φ : Fx) (leftA : Option Addr) (leftn leftc : Nat) (b o : Nat) (b2 o2 : Nat) (H : Hp) (R : Value → Hp → Prop) : Prop :=
  HCalls cx.P φ 153 [.slice leftA leftn leftc] H (fun v H_ => ∃ (x : Int), ∃ (x2 : Int), ∃ (x3 : Int), v = .tuple #[.int .i64 x, .int .i64 x2, .int .i64 x3] ∧ (∃ M_ : Bool → Hp → Prop, (((decide (x3 = 0)) = true → (∃ (x4 : Int), cel H_ b o = some (.int .i64 x4) ∧ (M_ (decide (x4 < x)) H_))) ∧
        ((decide (x3 = 0)) = false → (M_ false H_))) ∧
      (∀ (x5 : Bool) (j_ : Nat → Value) (H_2 : Hp), M_ x5 H_2 → (∃ M_2 : Int → Hp → Prop, ((x5 = true → (M_2 23 H_2)) ∧
            (x5 = false → (M_2 x3 H_2))) ∧
          (∀ (e_ : Int) (j_2 : Nat → Value) (H_3 : Hp), M_2 e_ H_3 → (∃ M_3 : Hp → Prop, (((decide (e_ = 0)) = true → (canPut H_3 b2 o2 [.int .i64 x] ∧
                    (let H_4 : Hp := hput H_3 b2 o2 [.int .i64 x];
                      (M_3 H_4)))) ∧
                ((decide (e_ = 0)) = false → (M_3 H_3))) ∧
              (∀  (j_3 : Nat → Value) (H_5 : Hp), M_3 H_5 → (R (.tuple #[.int .i64 x2, .int .i64 e_]) H_5))))))))
theorem f152.vc (φ : Fx) (leftA : Option Addr) (leftn leftc : Nat) (b o : Nat) (b2 o2 : Nat) (H : Hp) (R : Value → Hp → Prop) : fnW cx φ Try.f152 f152.an [.slice leftA leftn leftc, .pointer (some ⟨b, o, none⟩), .pointer (some ⟨b2, o2, none⟩)] H R = f152.VC φ leftA leftn leftc b o b2 o2 H R := by kernel_rfl
theorem f152.of {φ : Fx} {leftA : Option Addr} {leftn leftc : Nat} {b o : Nat} {b2 o2 : Nat} {H : Hp} {R : Value → Hp → Prop} (h : f152.VC φ leftA leftn leftc b o b2 o2 H R) : HCalls cx.P φ 152 [.slice leftA leftn leftc, .pointer (some ⟨b, o, none⟩), .pointer (some ⟨b2, o2, none⟩)] H R :=
  fnW_calls cx_ok (show cx.P.funcs[152]? = some Try.f152 by kernel_rfl) (by rw [f152.vc]; exact h)

/-! ### 151 (*winnow/nums.Cursor).reads -/
def f151.an : An := .seq (.seq (.join [(14, false, [.bool])] (.reg (.op false (.op false (.op false (.split 8 (.op false (.op false (.op false (.op false (.op false (.op false (.done))))))) (.op false (.op false (.op false (.op false (.op false (.op false (.done))))))))))))) (.cond (.nil) (.nil))) (.seq (.draw [[], [], [1], [1, 2], [1, 2, 3], [], [5], [5, 6], [5, 6, 7], [1, 2, 3, 4, 5, 6, 7, 8], [0, 1, 2, 3, 4, 5, 6, 7, 8, 9], [0, 1, 2, 3, 4, 5, 6, 7, 8, 9, 10], [0, 1, 2, 3, 4, 5, 6, 7, 8, 9, 10, 11], [0, 1, 2, 3, 4, 5, 6, 7, 8, 9, 10, 11], [0, 1, 2, 3, 4, 5, 6, 7, 8, 9, 10, 11, 12], [0, 1, 2, 3, 4, 5, 6, 7, 8, 9, 10, 11, 12, 13, 14]] (.rd 0 false (.rd 1 false (.rd 2 false (.rd 3 false (.rd 4 false (.rd 5 false (.rd 6 false (.rd 7 false (.rd 8 false (.rd 9 false (.eff 10 false (.rd 11 false (.rd 12 false (.rd 13 false (.rd 14 false (.rd 15 false (.done)))))))))))))))))) (.seq (.seq (.reg (.op false (.op false (.done)))) (.cond (.seq (.reg (.op false (.op false (.op false (.op false (.op false (.done))))))) (.nil)) (.nil))) (.reg (.op false (.op false (.op false (.op false (.op false (.op false (.op false (.op false (.op false (.done)))))))))))))
def f151.VC (φ : Fx) (c : Option Addr) (something : Value) (H : Hp) (R : Value → Hp → Prop) : Prop :=
  ∃ M_ : Bool → Hp → Prop, (((Option.isNone c) = true → (M_ true H)) ∧
    ((Option.isNone c) = false → (∃ (b o : Nat), c = some ⟨b, o, none⟩ ∧ (∃ (x : Int), cel H b (o + 2) = some (.int .i64 x) ∧ (M_ (!decide (x = 0)) H))))) ∧
  (∀ (x2 : Bool) (j_ : Nat → Value) (H_ : Hp), M_ x2 H_ → ((x2 = true → (R (.tuple #[]) H_)) ∧
      (x2 = false → (∃ (b2 o2 : Nat), c = some ⟨b2, o2, none⟩ ∧ (∃ (A : Option Addr) (n c2 : Nat), cel H_ b2 o2 = some (.slice A n c2) ∧ (∃ (b3 o3 : Nat), c = some ⟨b3, o3, none⟩ ∧ (∃ (x3 : Int), cel H_ b3 (o3 + 1) = some (.int .i64 x3) ∧ ((0 ≤ x3 ∧ x3 ≤ ((n : Nat) : Int)) ∧
                  (callW cx φ something [.slice (slA A (Int.toNat x3) c2 1) (n - Int.toNat x3) (c2 - Int.toNat x3)] H_ (fun v H_2 => ∃ (x4 : Int), ∃ (x5 : Int), v = .tuple #[.int .i64 x4, .int .i64 x5] ∧ (((!decide (x5 = 0)) = true → (∃ (b4 o4 : Nat), c = some ⟨b4, o4, none⟩ ∧ (canPut H_2 b4 (o4 + 2) [.int .i64 x5] ∧
                              (let H_3 : Hp := hput H_2 b4 (o4 + 2) [.int .i64 x5];
                                (R (.tuple #[]) H_3))))) ∧
                        ((!decide (x5 = 0)) = false → (∃ (b5 o5 : Nat), c = some ⟨b5, o5, none⟩ ∧ (∃ (x6 : Int), cel H_2 b5 (o5 + 1) = some (.int .i64 x6) ∧ (((-9223372036854775808) ≤ x6 + x4 ∧ x6 + x4 ≤ 9223372036854775807) ∧
                                (∃ (b6 o6 : Nat), c = some ⟨b6, o6, none⟩ ∧ (canPut H_2 b6 (o6 + 1) [.int .i64 (x6 + x4)] ∧
                                    (let H_4 : Hp := hput H_2 b6 (o6 + 1) [.int .i64 (x6 + x4)];
                                      (R (.tuple #[]) H_4)))))))))))))))))))
theorem f151.vc (φ : Fx) (c : Option Addr) (something : Value) (H : Hp) (R : Value → Hp → Prop) : fnW cx φ Try.f151 f151.an [.pointer c, something] H R = f151.VC φ c something H R := by kernel_rfl
theorem f151.of {φ : Fx} {c : Option Addr} {something : Value} {H : Hp} {R : Value → Hp → Prop} (h : f151.VC φ c something H R) : HCalls cx.P φ 151 [.pointer c, something] H R :=
  fnW_calls cx_ok (show cx.P.funcs[151]? = some Try.f151 by kernel_rfl) (by rw [f151.vc]; exact h)

/-! ### 100 (*winnow/nums.Cursor).Num -/
def f100.an : An := .seq (.reg (.op false (.op false (.done)))) (.seq (.reg (.op false (.done))) (.seq (.reg (.op false (.op false (.op false (.done))))) (.seq (.reg (.op false (.op false (.done)))) (.nil))))
def f100.VC (φ : Fx) (c : Option Addr) (most : Int) (H : Hp) (R : Value → Hp → Prop) : Prop :=
  let H_ : Hp := Array.push H (.cells #[.int .i64 most] 2 (0, 0));
  (let H_2 : Hp := Array.push H_ (.cells #[.int .i64 0] 2 (0, 0));
    (HCalls cx.P φ 151 [.pointer c, .func (.func 152) #[] #[.pointer (some ⟨Array.size H, 0, none⟩), .pointer (some ⟨Array.size H_, 0, none⟩)]] H_2 (fun v H_3 => v = .tuple #[] ∧ (∃ (x : Int), cel H_3 (Array.size H_) 0 = some (.int .i64 x) ∧ (R (.int .i64 x) H_3)))))
theorem f100.vc (φ : Fx) (c : Option Addr) (most : Int) (H : Hp) (R : Value → Hp → Prop) : fnW cx φ Try.f100 f100.an [.pointer c, .int .i64 most] H R = f100.VC φ c most H R := by kernel_rfl
theorem f100.of {φ : Fx} {c : Option Addr} {most : Int} {H : Hp} {R : Value → Hp → Prop} (h : f100.VC φ c most H R) : HCalls cx.P φ 100 [.pointer c, .int .i64 most] H R :=
  fnW_calls cx_ok (show cx.P.funcs[100]? = some Try.f100 by kernel_rfl) (by rw [f100.vc]; exact h)

/-! ### 154 winnow/winnowref2.Get -/
def f154.an : An := .seq (.reg (.op false (.op false (.op false (.done))))) (.seq (.reg (.op false (.done))) (.seq (.reg (.op false (.done))) (.seq (.seq (.reg (.op false (.done))) (.blk (.loop [(5, false, [.int .i64]), (6, false, [.int .i64]), (7, false, [.int .i64])] (.seq (.seq (.reg (.op false (.op false (.op false (.op false (.done)))))) (.cond (.nil) (.nil))) (.seq (.blk (.seq (.reg (.op false (.op false (.op false (.op false (.op false (.op false (.op false (.done))))))))) (.seq (.reg (.op false (.op false (.op false (.op false (.op false (.op false (.done)))))))) (.seq (.seq (.reg (.op false (.op false (.op false (.op false (.op true (.done))))))) (.cond (.seq (.seq (.join [(39, false, [.bool])] (.reg (.op false (.op false (.op false (.split 33 (.op false (.op false (.op false (.op false (.op true (.op false (.done))))))) (.op false (.op false (.op false (.op false (.op true (.op false (.done))))))))))))) (.cond (.seq (.reg (.op false (.op false (.op false (.done))))) (.nil)) (.nil))) (.seq (.reg (.op false (.op false (.op false (.op false (.op false (.op false (.done)))))))) (.nil))) (.nil))) (.seq (.seq (.reg (.op false (.op false (.done)))) (.cond (.seq (.reg (.op false (.op false (.op false (.done))))) (.nil)) (.nil))) (.reg (.op false (.op false (.op false (.done)))))))))) (.reg (.op false (.op false (.op false (.done)))))))))) (.seq (.reg (.op false (.op false (.op false (.done))))) (.nil)))))
def f154.VC (φ : Fx) (bA : Option Addr) (bn bc : Nat) (H : Hp) (R : Value → Hp → Prop) : Prop :=
  ∃ (I_ : Int → Int → Int → Hp → Prop) (m_ : Int → Int → Int → Hp → Nat), I_ 0 1 0 H ∧
  (∀ (v : Int) (unit : Int) (i : Int) (j_ : Nat → Value) (H_ : Hp), I_ v unit i H_ → (((decide (i < ((bn : Nat) : Int))) = true → (∃ (b o : Nat), bA = some ⟨b, o, none⟩ ∧ (0 ≤ i ∧ i < ((bn : Nat) : Int)) ∧
          (∃ (x : Int), cel H_ b (o + Int.toNat i * 1) = some (.int .u8 x) ∧ (((-9223372036854775808) ≤ x ∧ x ≤ 9223372036854775807) ∧
              ((0 ≤ x ∧ (0 : Int) < 128) ∧
                (((-9223372036854775808) ≤ (x % 128) * unit ∧ (x % 128) * unit ≤ 9223372036854775807) ∧
                  (((-9223372036854775808) ≤ v + ((x % 128) * unit) ∧ v + ((x % 128) * unit) ≤ 9223372036854775807) ∧
                    (∃ (b2 o2 : Nat), bA = some ⟨b2, o2, none⟩ ∧ (0 ≤ i ∧ i < ((bn : Nat) : Int)) ∧
                      (∃ (x2 : Int), cel H_ b2 (o2 + Int.toNat i * 1) = some (.int .u8 x2) ∧ (((decide (x2 < 128)) = true → (∃ M_ : Bool → Hp → Prop, (((decide (0 < i)) = true → (∃ (b3 o3 : Nat), bA = some ⟨b3, o3, none⟩ ∧ (0 ≤ i ∧ i < ((bn : Nat) : Int)) ∧
                                    (∃ (x3 : Int), cel H_ b3 (o3 + Int.toNat i * 1) = some (.int .u8 x3) ∧ (M_ (decide (x3 = 0)) H_)))) ∧
                                ((decide (0 < i)) = false → (M_ false H_))) ∧
                              (∀ (x4 : Bool) (j_2 : Nat → Value) (H_2 : Hp), M_ x4 H_2 → ((x4 = true → (R (.tuple #[.int .i64 0, .int .i64 0, .int .i64 21]) H_2)) ∧
                                  (x4 = false → (((-9223372036854775808) ≤ i + 1 ∧ i + 1 ≤ 9223372036854775807) ∧
                                      (R (.tuple #[.int .i64 (v + ((x % 128) * unit)), .int .i64 (i + 1), .int .i64 0]) H_2))))))) ∧
                          ((decide (x2 < 128)) = false → (((decide (i = 8)) = true → (R (.tuple #[.int .i64 0, .int .i64 0, .int .i64 21]) H_)) ∧
                              ((decide (i = 8)) = false → (((-9223372036854775808) ≤ unit * 128 ∧ unit * 128 ≤ 9223372036854775807) ∧
                                  (((-9223372036854775808) ≤ i + 1 ∧ i + 1 ≤ 9223372036854775807) ∧
                                    (I_ (v + ((x % 128) * unit)) (unit * 128) (i + 1) H_ ∧ m_ (v + ((x % 128) * unit)) (unit * 128) (i + 1) H_ < m_ v unit i H_)))))))))))))))) ∧
      ((decide (i < ((bn : Nat) : Int))) = false → (R (.tuple #[.int .i64 0, .int .i64 0, .int .i64 20]) H_))))
theorem f154.vc (φ : Fx) (bA : Option Addr) (bn bc : Nat) (H : Hp) (R : Value → Hp → Prop) : fnW cx φ Try.f154 f154.an [.slice bA bn bc] H R = f154.VC φ bA bn bc H R := by kernel_rfl
theorem f154.of {φ : Fx} {bA : Option Addr} {bn bc : Nat} {H : Hp} {R : Value → Hp → Prop} (h : f154.VC φ bA bn bc H R) : HCalls cx.P φ 154 [.slice bA bn bc] H R :=
  fnW_calls cx_ok (show cx.P.funcs[154]? = some Try.f154 by kernel_rfl) (by rw [f154.vc]; exact h)

/-! ### 111 (*winnow/winnowref2.Cursor).Fail -/
def f111.an : An := .seq (.seq (.join [(15, false, [.bool])] (.reg (.op false (.op false (.op false (.split 6 (.op false (.op false (.op false (.op false (.op false (.op false (.op false (.op false (.op false (.done)))))))))) (.op false (.op false (.op false (.op false (.op false (.op false (.split 12 (.op false (.op false (.op false (.done)))) (.op false (.op false (.op false (.done))))))))))))))))) (.cond (.nil) (.nil))) (.seq (.reg (.op false (.op false (.op false (.op false (.done)))))) (.reg (.op false (.op false (.op false (.op false (.op false (.op false (.op false (.op false (.op false (.op false (.done)))))))))))))
def f111.VC (φ : Fx) (c : Option Addr) (e_ : Int) (H : Hp) (R : Value → Hp → Prop) : Prop :=
  ∃ M_ : Bool → Hp → Prop, (((Option.isNone c) = true → (M_ true H)) ∧
    ((Option.isNone c) = false → (∃ (b o : Nat), c = some ⟨b, o, none⟩ ∧ (∃ (x : Bool), cel H b (o + 2) = some (.bool x) ∧ ((x = true → (M_ true H)) ∧
            (x = false → (M_ (decide (e_ = 0)) H))))))) ∧
  (∀ (x2 : Bool) (j_ : Nat → Value) (H_ : Hp), M_ x2 H_ → ((x2 = true → (R (.tuple #[]) H_)) ∧
      (x2 = false → (∃ (b2 o2 : Nat), c = some ⟨b2, o2, none⟩ ∧ (canPut H_ b2 (o2 + 2) [.bool true] ∧
            (let H_2 : Hp := hput H_ b2 (o2 + 2) [.bool true];
              (∃ (b3 o3 : Nat), c = some ⟨b3, o3, none⟩ ∧ (∃ (x3 : Int), cel H_2 b3 (o3 + 1) = some (.int .i64 x3) ∧ (∃ (b4 o4 : Nat), c = some ⟨b4, o4, none⟩ ∧ (canPut H_2 b4 (o4 + 3) [.int .i64 e_, .int .i64 x3] ∧
                      (let H_3 : Hp := hput H_2 b4 (o4 + 3) [.int .i64 e_, .int .i64 x3];
                        (R (.tuple #[]) H_3))))))))))))
theorem f111.vc (φ : Fx) (c : Option Addr) (e_ : Int) (H : Hp) (R : Value → Hp → Prop) : fnW cx φ Try.f111 f111.an [.pointer c, .int .i64 e_] H R = f111.VC φ c e_ H R := by kernel_rfl
theorem f111.of {φ : Fx} {c : Option Addr} {e_ : Int} {H : Hp} {R : Value → Hp → Prop} (h : f111.VC φ c e_ H R) : HCalls cx.P φ 111 [.pointer c, .int .i64 e_] H R :=
  fnW_calls cx_ok (show cx.P.funcs[111]? = some Try.f111 by kernel_rfl) (by rw [f111.vc]; exact h)

/-! ### 101 (*winnow/winnowref2.Cursor).Num -/
def f101.an : An := .seq (.reg (.op false (.done))) (.seq (.seq (.join [(15, false, [.bool])] (.reg (.op false (.op false (.op false (.split 10 (.op false (.op false (.op false (.op false (.op false (.done)))))) (.op false (.op false (.op false (.op false (.op false (.done)))))))))))) (.cond (.seq (.reg (.op false (.done))) (.nil)) (.nil))) (.seq (.draw [[], [0], [0, 1], [0, 1, 2], [], [4], [4, 5], [4, 5, 6], [0, 1, 2, 3, 4, 5, 6, 7], [0, 1, 2, 3, 4, 5, 6, 7, 8], [0, 1, 2, 3, 4, 5, 6, 7, 8, 9], [0, 1, 2, 3, 4, 5, 6, 7, 8, 9, 10], [0, 1, 2, 3, 4, 5, 6, 7, 8, 9, 10], [0, 1, 2, 3, 4, 5, 6, 7, 8, 9, 10], [0, 1, 2, 3, 4, 5, 6, 7, 8, 9, 10, 11], [0, 1, 2, 3, 4, 5, 6, 7, 8, 9, 10, 11, 12, 14], [0, 1, 2, 3, 4, 5, 6, 7, 8, 9, 10, 11, 12, 13, 14, 15]] (.rd 0 false (.rd 1 false (.rd 2 false (.rd 3 false (.rd 4 false (.rd 5 false (.rd 6 false (.rd 7 false (.rd 8 false (.eff 9 false (.rd 10 false (.rd 11 false (.rd 12 false (.rd 13 false (.rd 14 false (.rd 15 false (.rd 16 false (.done))))))))))))))))))) (.seq (.seq (.join [(36, false, [.bool])] (.reg (.op false (.op false (.op false (.split 32 (.op false (.op false (.op false (.op false (.done))))) (.op false (.op false (.op false (.op false (.done))))))))))) (.join [(7, false, [.int .i64])] (.cond (.reg (.op false (.done))) (.nil)))) (.seq (.seq (.reg (.op false (.op false (.done)))) (.cond (.seq (.reg (.op false (.op false (.op false (.done))))) (.seq (.reg (.op false (.done))) (.nil))) (.nil))) (.seq (.reg (.op false (.op false (.op false (.op false (.op false (.op false (.op false (.op false (.op false (.op false (.done)))))))))))) (.seq (.reg (.op false (.op false (.done)))) (.nil)))))))
def f101.VC (φ : Fx) (c : Option Addr) (most : Int) (H : Hp) (R : Value → Hp → Prop) : Prop :=
  ∃ M_ : Bool → Hp → Prop, (((Option.isNone c) = true → (M_ true H)) ∧
    ((Option.isNone c) = false → (∃ (b o : Nat), c = some ⟨b, o, none⟩ ∧ (∃ (x : Bool), cel H b (o + 2) = some (.bool x) ∧ (M_ x H))))) ∧
  (∀ (x2 : Bool) (j_ : Nat → Value) (H_ : Hp), M_ x2 H_ → ((x2 = true → (R (.int .i64 0) H_)) ∧
      (x2 = false → (∃ (b2 o2 : Nat), c = some ⟨b2, o2, none⟩ ∧ (∃ (A : Option Addr) (n c2 : Nat), cel H_ b2 o2 = some (.slice A n c2) ∧ (∃ (b3 o3 : Nat), c = some ⟨b3, o3, none⟩ ∧ (∃ (x3 : Int), cel H_ b3 (o3 + 1) = some (.int .i64 x3) ∧ ((0 ≤ x3 ∧ x3 ≤ ((n : Nat) : Int)) ∧
                  (HCalls cx.P φ 154 [.slice (slA A (Int.toNat x3) c2 1) (n - Int.toNat x3) (c2 - Int.toNat x3)] H_ (fun v H_2 => ∃ (x4 : Int), ∃ (x5 : Int), ∃ (x6 : Int), v = .tuple #[.int .i64 x4, .int .i64 x5, .int .i64 x6] ∧ (∃ M_2 : Bool → Hp → Prop, (((decide (x6 = 0)) = true → (M_2 (decide (most < x4)) H_2)) ∧
                          ((decide (x6 = 0)) = false → (M_2 false H_2))) ∧
                        (∀ (x7 : Bool) (j_2 : Nat → Value) (H_3 : Hp), M_2 x7 H_3 → (∃ M_3 : Int → Hp → Prop, ((x7 = true → (M_3 23 H_3)) ∧
                              (x7 = false → (M_3 x6 H_3))) ∧
                            (∀ (e_ : Int) (j_3 : Nat → Value) (H_4 : Hp), M_3 e_ H_4 → (((!decide (e_ = 0)) = true → (HCalls cx.P φ 111 [.pointer c, .int .i64 e_] H_4 (fun v2 H_5 => v2 = .tuple #[] ∧ (R (.int .i64 0) H_5)))) ∧
                                ((!decide (e_ = 0)) = false → (∃ (b4 o4 : Nat), c = some ⟨b4, o4, none⟩ ∧ (∃ (x8 : Int), cel H_4 b4 (o4 + 1) = some (.int .i64 x8) ∧ (((-9223372036854775808) ≤ x8 + x5 ∧ x8 + x5 ≤ 9223372036854775807) ∧
                                        (∃ (b5 o5 : Nat), c = some ⟨b5, o5, none⟩ ∧ (canPut H_4 b5 (o5 + 1) [.int .i64 (x8 + x5)] ∧
                                            (let H_6 : Hp := hput H_4 b5 (o5 + 1) [.int .i64 (x8 + x5)];
                                              (R (.int .i64 x4) H_6)))))))))))))))))))))))
theorem f101.vc (φ : Fx) (c : Option Addr) (most : Int) (H : Hp) (R : Value → Hp → Prop) : fnW cx φ Try.f101 f101.an [.pointer c, .int .i64 most] H R = f101.VC φ c most H R := by kernel_rfl
theorem f101.of {φ : Fx} {c : Option Addr} {most : Int} {H : Hp} {R : Value → Hp → Prop} (h : f101.VC φ c most H R) : HCalls cx.P φ 101 [.pointer c, .int .i64 most] H R :=
  fnW_calls cx_ok (show cx.P.funcs[101]? = some Try.f101 by kernel_rfl) (by rw [f101.vc]; exact h)

/-! ### 147 winnow/nums.Word -/
def f147.an : An := .seq (.reg (.op false (.done))) (.seq (.reg (.op false (.done))) (.seq (.seq (.reg (.op false (.op false (.op false (.op false (.done)))))) (.blk (.loop [(3, false, [.int .u64]), (8, false, [.int .i64])] (.seq (.reg (.op false (.done))) (.seq (.cond (.nil) (.nil)) (.seq (.blk (.seq (.reg (.op false (.op false (.done)))) (.reg (.op false (.op false (.op false (.op false (.op false (.op false (.op false (.op false (.op true (.op true (.op false (.done))))))))))))))) (.reg (.op false (.op false (.done)))))))))) (.seq (.reg (.op false (.op false (.done)))) (.nil))))
def f147.VC (φ : Fx) (bA : Option Addr) (bn bc : Nat) (H : Hp) (R : Value → Hp → Prop) : Prop :=
  ∃ (I_ : Int → Int → Hp → Prop) (m_ : Int → Int → Hp → Nat), I_ 0 0 H ∧
  (∀ (v : Int) (x : Int) (j_ : Nat → Value) (H_ : Hp), I_ v x H_ → (((decide (x < (min ((bn : Nat) : Int) 8))) = true → (∃ (b o : Nat), bA = some ⟨b, o, none⟩ ∧ (0 ≤ x ∧ x < ((bn : Nat) : Int)) ∧
          (∃ (x2 : Int), cel H_ b (o + Int.toNat x * 1) = some (.int .u8 x2) ∧ ((0 ≤ x2 ∧ x2 ≤ 18446744073709551615) ∧
              (((-9223372036854775808) ≤ 8 * x ∧ 8 * x ≤ 9223372036854775807) ∧
                ((0 : Int) ≤ (8 * x) ∧ (((-9223372036854775808) ≤ x + 1 ∧ x + 1 ≤ 9223372036854775807) ∧
                    (I_ (bOr .u64 v (IntKind.wrap .u64 (x2 * 2 ^ (min (Int.toNat (8 * x)) 64)))) (x + 1) H_ ∧ m_ (bOr .u64 v (IntKind.wrap .u64 (x2 * 2 ^ (min (Int.toNat (8 * x)) 64)))) (x + 1) H_ < m_ v x H_)))))))) ∧
      ((decide (x < (min ((bn : Nat) : Int) 8))) = false → (R (.int .u64 v) H_))))
theorem f147.vc (φ : Fx) (bA : Option Addr) (bn bc : Nat) (H : Hp) (R : Value → Hp → Prop) : fnW cx φ Try.f147 f147.an [.slice bA bn bc] H R = f147.VC φ bA bn bc H R := by kernel_rfl
theorem f147.of {φ : Fx} {bA : Option Addr} {bn bc : Nat} {H : Hp} {R : Value → Hp → Prop} (h : f147.VC φ bA bn bc H R) : HCalls cx.P φ 147 [.slice bA bn bc] H R :=
  fnW_calls cx_ok (show cx.P.funcs[147]? = some Try.f147 by kernel_rfl) (by rw [f147.vc]; exact h)

/-! ### 155 (*winnow/nums.Cursor).Fixed$1 -/
def f155.an : An := .seq (.reg (.op false (.op false (.done)))) (.seq (.blk (.seq (.join [(6, false, [.bool])] (.reg (.op false (.op false (.op false (.split 9 (.op false (.op false (.op false (.op false (.done))))) (.op false (.op false (.op false (.op false (.done))))))))))) (.cond (.seq (.reg (.op false (.op false (.done)))) (.nil)) (.seq (.reg (.op false (.op false (.op false (.op false (.op false (.done))))))) (.cond (.seq (.reg (.op false (.op false (.done)))) (.nil)) (.nil)))))) (.seq (.reg (.op false (.op false (.op false (.op false (.op false (.done))))))) (.seq (.reg (.op false (.op false (.op false (.done))))) (.nil))))
def f155.VC (φ : Fx) (leftA : Option Addr) (leftn leftc : Nat) (b o : Nat) (b2 o2 : Nat) (H : Hp) (R : Value → Hp → Prop) : Prop :=
  ∃ M_ : Bool → Hp → Prop, (∃ (x : Int), cel H b o = some (.int .i64 x) ∧ (((decide (x < 1)) = true → (M_ true H)) ∧
      ((decide (x < 1)) = false → (∃ (x2 : Int), cel H b o = some (.int .i64 x2) ∧ (M_ (decide (8 < x2)) H))))) ∧
  (∀ (x3 : Bool) (j_ : Nat → Value) (H_ : Hp), M_ x3 H_ → ((x3 = true → (R (.tuple #[.int .i64 0, .int .i64 23]) H_)) ∧
      (x3 = false → (∃ (x4 : Int), cel H_ b o = some (.int .i64 x4) ∧ (((decide (((leftn : Nat) : Int) < x4)) = true → (R (.tuple #[.int .i64 0, .int .i64 20]) H_)) ∧
            ((decide (((leftn : Nat) : Int) < x4)) = false → (∃ (x5 : Int), cel H_ b o = some (.int .i64 x5) ∧ ((0 ≤ x5 ∧ x5 ≤ ((leftc : Nat) : Int)) ∧
                  (HCalls cx.P φ 147 [.slice leftA (Int.toNat x5) leftc] H_ (fun v H_2 => ∃ (x6 : Int), v = .int .u64 x6 ∧ (canPut H_2 b2 o2 [.int .u64 x6] ∧
                        (let H_3 : Hp := hput H_2 b2 o2 [.int .u64 x6];
                          (∃ (x7 : Int), cel H_3 b o = some (.int .i64 x7) ∧ (R (.tuple #[.int .i64 x7, .int .i64 0]) H_3))))))))))))))
theorem f155.vc (φ : Fx) (leftA : Option Addr) (leftn leftc : Nat) (b o : Nat) (b2 o2 : Nat) (H : Hp) (R : Value → Hp → Prop) : fnW cx φ Try.f155 f155.an [.slice leftA leftn leftc, .pointer (some ⟨b, o, none⟩), .pointer (some ⟨b2, o2, none⟩)] H R = f155.VC φ leftA leftn leftc b o b2 o2 H R := by kernel_rfl
theorem f155.of {φ : Fx} {leftA : Option Addr} {leftn leftc : Nat} {b o : Nat} {b2 o2 : Nat} {H : Hp} {R : Value → Hp → Prop} (h : f155.VC φ leftA leftn leftc b o b2 o2 H R) : HCalls cx.P φ 155 [.slice leftA leftn leftc, .pointer (some ⟨b, o, none⟩), .pointer (some ⟨b2, o2, none⟩)] H R :=
  fnW_calls cx_ok (show cx.P.funcs[155]? = some Try.f155 by kernel_rfl) (by rw [f155.vc]; exact h)

/-! ### 102 (*winnow/nums.Cursor).Fixed -/
def f102.an : An := .seq (.reg (.op false (.op false (.done)))) (.seq (.reg (.op false (.done))) (.seq (.reg (.op false (.op false (.op false (.done))))) (.seq (.reg (.op false (.op false (.done)))) (.nil))))
def f102.VC (φ : Fx) (c : Option Addr) (n : Int) (H : Hp) (R : Value → Hp → Prop) : Prop :=
  let H_ : Hp := Array.push H (.cells #[.int .i64 n] 3 (0, 0));
  (let H_2 : Hp := Array.push H_ (.cells #[.int .u64 0] 164 (0, 0));
    (HCalls cx.P φ 151 [.pointer c, .func (.func 155) #[] #[.pointer (some ⟨Array.size H, 0, none⟩), .pointer (some ⟨Array.size H_, 0, none⟩)]] H_2 (fun v H_3 => v = .tuple #[] ∧ (∃ (x : Int), cel H_3 (Array.size H_) 0 = some (.int .u64 x) ∧ (R (.int .u64 x) H_3)))))
theorem f102.vc (φ : Fx) (c : Option Addr) (n : Int) (H : Hp) (R : Value → Hp → Prop) : fnW cx φ Try.f102 f102.an [.pointer c, .int .i64 n] H R = f102.VC φ c n H R := by kernel_rfl
theorem f102.of {φ : Fx} {c : Option Addr} {n : Int} {H : Hp} {R : Value → Hp → Prop} (h : f102.VC φ c n H R) : HCalls cx.P φ 102 [.pointer c, .int .i64 n] H R :=
  fnW_calls cx_ok (show cx.P.funcs[102]? = some Try.f102 by kernel_rfl) (by rw [f102.vc]; exact h)

/-! ### 106 (*winnow/winnowref2.Cursor).Take -/
def f106.an : An := .seq (.reg (.op false (.done))) (.seq (.reg (.op false (.done))) (.seq (.seq (.join [(13, false, [.bool])] (.reg (.op false (.op false (.op false (.split 8 (.op false (.op false (.op false (.op false (.op false (.done)))))) (.op false (.op false (.op false (.op false (.op false (.done)))))))))))) (.cond (.seq (.reg (.op false (.op false (.done)))) (.nil)) (.nil))) (.seq (.seq (.reg (.op false (.op false (.done)))) (.cond (.seq (.reg (.op false (.op false (.done)))) (.seq (.reg (.op false (.op false (.done)))) (.nil))) (.nil))) (.seq (.seq (.reg (.op false (.op false (.op false (.op false (.done)))))) (.cond (.seq (.reg (.op false (.op false (.done)))) (.seq (.reg (.op false (.op false (.done)))) (.nil))) (.nil))) (.seq (.draw [[], [], [1], [1, 2], [1, 2, 3], [], [5], [5, 6], [5, 6, 7], [], [9], [9, 10], [9, 10, 11], [], [9, 10, 11, 12, 13], [1, 2, 3, 4, 5, 6, 7, 8, 9, 10, 11, 12, 13, 14], [0, 1, 2, 3, 4, 5, 6, 7, 8, 9, 10, 11, 12, 13, 14, 15], [0, 1, 2, 3, 4, 5, 6, 7, 8, 9, 10, 11, 12, 13, 14, 15, 16]] (.rd 0 false (.rd 1 false (.rd 2 false (.rd 3 false (.rd 4 false (.rd 5 false (.rd 6 false (.rd 7 false (.rd 8 false (.rd 9 false (.rd 10 false (.rd 11 false (.rd 12 false (.rd 13 false (.rd 14 false (.rd 15 false (.eff 16 false (.rd 17 false (.done)))))))))))))))))))) (.seq (.reg (.op false (.op false (.op false (.op false (.op false (.op false (.op false (.op false (.op false (.op false (.done)))))))))))) (.seq (.reg (.op false (.op false (.done)))) (.nil))))))))
def f106.VC (φ : Fx) (c : Option Addr) (n : Int) (H : Hp) (R : Value → Hp → Prop) : Prop :=
  ∃ M_ : Bool → Hp → Prop, (((Option.isNone c) = true → (M_ true H)) ∧
    ((Option.isNone c) = false → (∃ (b o : Nat), c = some ⟨b, o, none⟩ ∧ (∃ (x : Bool), cel H b (o + 2) = some (.bool x) ∧ (M_ x H))))) ∧
  (∀ (x2 : Bool) (j_ : Nat → Value) (H_ : Hp), M_ x2 H_ → ((x2 = true → (R (.slice none 0 0) H_)) ∧
      (x2 = false → (((decide (n < 0)) = true → (HCalls cx.P φ 111 [.pointer c, .int .i64 23] H_ (fun v H_2 => v = .tuple #[] ∧ (R (.slice none 0 0) H_2)))) ∧
          ((decide (n < 0)) = false → (HCalls cx.P φ 41 [.pointer c] H_ (fun v2 H_3 => ∃ (x3 : Int), v2 = .int .i64 x3 ∧ (((decide (x3 < n)) = true → (HCalls cx.P φ 111 [.pointer c, .int .i64 20] H_3 (fun v3 H_4 => v3 = .tuple #[] ∧ (R (.slice none 0 0) H_4)))) ∧
                  ((decide (x3 < n)) = false → (∃ (b2 o2 : Nat), c = some ⟨b2, o2, none⟩ ∧ (∃ (A : Option Addr) (n2 c2 : Nat), cel H_3 b2 o2 = some (.slice A n2 c2) ∧ (∃ (b3 o3 : Nat), c = some ⟨b3, o3, none⟩ ∧ (∃ (x4 : Int), cel H_3 b3 (o3 + 1) = some (.int .i64 x4) ∧ (∃ (b4 o4 : Nat), c = some ⟨b4, o4, none⟩ ∧ (∃ (x5 : Int), cel H_3 b4 (o4 + 1) = some (.int .i64 x5) ∧ (((-9223372036854775808) ≤ x5 + n ∧ x5 + n ≤ 9223372036854775807) ∧
                                  ((0 ≤ x4 ∧ x4 ≤ (x5 + n) ∧ (x5 + n) ≤ ((c2 : Nat) : Int)) ∧
                                    (appW cx 59 59 (Value.slice none 0 0) (Value.slice (slA A (Int.toNat x4) c2 1) (Int.toNat (x5 + n) - Int.toNat x4) (c2 - Int.toNat x4)) H_3 (fun v4 H_5 => ∃ (A2 : Option Addr) (n3 c3 : Nat), v4 = .slice A2 n3 c3 ∧ (∃ (b5 o5 : Nat), c = some ⟨b5, o5, none⟩ ∧ (∃ (x6 : Int), cel H_5 b5 (o5 + 1) = some (.int .i64 x6) ∧ (((-9223372036854775808) ≤ x6 + n ∧ x6 + n ≤ 9223372036854775807) ∧
                                              (∃ (b6 o6 : Nat), c = some ⟨b6, o6, none⟩ ∧ (canPut H_5 b6 (o6 + 1) [.int .i64 (x6 + n)] ∧
                                                  (let H_6 : Hp := hput H_5 b6 (o6 + 1) [.int .i64 (x6 + n)];
                                                    (R (.slice A2 n3 c3) H_6))))))))))))))))))))))))))
theorem f106.vc (φ : Fx) (c : Option Addr) (n : Int) (H : Hp) (R : Value → Hp → Prop) : fnW cx φ Try.f106 f106.an [.pointer c, .int .i64 n] H R = f106.VC φ c n H R := by kernel_rfl
theorem f106.of {φ : Fx} {c : Option Addr} {n : Int} {H : Hp} {R : Value → Hp → Prop} (h : f106.VC φ c n H R) : HCalls cx.P φ 106 [.pointer c, .int .i64 n] H R :=
  fnW_calls cx_ok (show cx.P.funcs[106]? = some Try.f106 by kernel_rfl) (by rw [f106.vc]; exact h)

/-! ### 156 winnow/winnowref2.Word -/
def f156.an : An := .seq (.reg (.op false (.done))) (.seq (.reg (.op false (.done))) (.seq (.reg (.op false (.done))) (.seq (.seq (.reg (.op false (.done))) (.blk (.loop [(3, false, [.int .u64]), (4, false, [.int .u64]), (5, false, [.int .i64])] (.seq (.seq (.join [(13, false, [.bool])] (.reg (.op false (.op false (.op false (.op false (.op false (.split 10 (.op false (.op false (.op false (.done)))) (.op false (.op false (.op false (.done)))))))))))) (.cond (.nil) (.nil))) (.seq (.blk (.seq (.reg (.op false (.op false (.op false (.op false (.op false (.op false (.op false (.op true (.op true (.op false (.done)))))))))))) (.reg (.op false (.op true (.op false (.done))))))) (.reg (.op false (.op false (.op false (.done)))))))))) (.seq (.reg (.op false (.op false (.done)))) (.nil)))))
def f156.VC (φ : Fx) (bA : Option Addr) (bn bc : Nat) (H : Hp) (R : Value → Hp → Prop) : Prop :=
  ∃ (I_ : Int → Int → Int → Hp → Prop) (m_ : Int → Int → Int → Hp → Nat), I_ 0 1 0 H ∧
  (∀ (v : Int) (unit : Int) (i : Int) (j_ : Nat → Value) (H_ : Hp), I_ v unit i H_ → (∃ M_ : Bool → Hp → Prop, (((decide (i < ((bn : Nat) : Int))) = true → (M_ (decide (i < 8)) H_)) ∧
        ((decide (i < ((bn : Nat) : Int))) = false → (M_ false H_))) ∧
      (∀ (x : Bool) (j_2 : Nat → Value) (H_2 : Hp), M_ x H_2 → ((x = true → (∃ (b o : Nat), bA = some ⟨b, o, none⟩ ∧ (0 ≤ i ∧ i < ((bn : Nat) : Int)) ∧
              (∃ (x2 : Int), cel H_2 b (o + Int.toNat i * 1) = some (.int .u8 x2) ∧ ((0 ≤ x2 ∧ x2 ≤ 18446744073709551615) ∧
                  (((-9223372036854775808) ≤ i + 1 ∧ i + 1 ≤ 9223372036854775807) ∧
                    (I_ (IntKind.wrap .u64 (v + (IntKind.wrap .u64 (x2 * unit)))) (IntKind.wrap .u64 (unit * 256)) (i + 1) H_2 ∧ m_ (IntKind.wrap .u64 (v + (IntKind.wrap .u64 (x2 * unit)))) (IntKind.wrap .u64 (unit * 256)) (i + 1) H_2 < m_ v unit i H_)))))) ∧
          (x = false → (R (.int .u64 v) H_2))))))
theorem f156.vc (φ : Fx) (bA : Option Addr) (bn bc : Nat) (H : Hp) (R : Value → Hp → Prop) : fnW cx φ Try.f156 f156.an [.slice bA bn bc] H R = f156.VC φ bA bn bc H R := by kernel_rfl
theorem f156.of {φ : Fx} {bA : Option Addr} {bn bc : Nat} {H : Hp} {R : Value → Hp → Prop} (h : f156.VC φ bA bn bc H R) : HCalls cx.P φ 156 [.slice bA bn bc] H R :=
  fnW_calls cx_ok (show cx.P.funcs[156]? = some Try.f156 by kernel_rfl) (by rw [f156.vc]; exact h)

/-! ### 103 (*winnow/winnowref2.Cursor).Fixed -/
def f103.an : An := .seq (.reg (.op false (.done))) (.seq (.seq (.join [(13, false, [.bool])] (.reg (.op false (.op false (.op false (.split 8 (.op false (.op false (.op false (.op false (.op false (.done)))))) (.op false (.op false (.op false (.op false (.op false (.done)))))))))))) (.cond (.seq (.reg (.op false (.done))) (.nil)) (.nil))) (.seq (.seq (.join [(19, false, [.bool])] (.reg (.op false (.op false (.op false (.split 16 (.op false (.op false (.op false (.done)))) (.op false (.op false (.op false (.done)))))))))) (.cond (.seq (.reg (.op false (.op false (.done)))) (.seq (.reg (.op false (.done))) (.nil))) (.nil))) (.seq (.reg (.op false (.op false (.op false (.op false (.done)))))) (.seq (.reg (.op false (.op false (.op false (.done))))) (.nil)))))
def f103.VC (φ : Fx) (c : Option Addr) (n : Int) (H : Hp) (R : Value → Hp → Prop) : Prop :=
  ∃ M_ : Bool → Hp → Prop, (((Option.isNone c) = true → (M_ true H)) ∧
    ((Option.isNone c) = false → (∃ (b o : Nat), c = some ⟨b, o, none⟩ ∧ (∃ (x : Bool), cel H b (o + 2) = some (.bool x) ∧ (M_ x H))))) ∧
  (∀ (x2 : Bool) (j_ : Nat → Value) (H_ : Hp), M_ x2 H_ → ((x2 = true → (R (.int .u64 0) H_)) ∧
      (x2 = false → (∃ M_2 : Bool → Hp → Prop, (((decide (n < 1)) = true → (M_2 true H_)) ∧
            ((decide (n < 1)) = false → (M_2 (decide (8 < n)) H_))) ∧
          (∀ (x3 : Bool) (j_2 : Nat → Value) (H_2 : Hp), M_2 x3 H_2 → ((x3 = true → (HCalls cx.P φ 111 [.pointer c, .int .i64 23] H_2 (fun v H_3 => v = .tuple #[] ∧ (R (.int .u64 0) H_3)))) ∧
              (x3 = false → (HCalls cx.P φ 106 [.pointer c, .int .i64 n] H_2 (fun v2 H_4 => ∃ (A : Option Addr) (n2 c2 : Nat), v2 = .slice A n2 c2 ∧ (HCalls cx.P φ 156 [.slice A n2 c2] H_4 (fun v3 H_5 => ∃ (x4 : Int), v3 = .int .u64 x4 ∧ (R (.int .u64 x4) H_5))))))))))))
theorem f103.vc (φ : Fx) (c : Option Addr) (n : Int) (H : Hp) (R : Value → Hp → Prop) : fnW cx φ Try.f103 f103.an [.pointer c, .int .i64 n] H R = f103.VC φ c n H R := by kernel_rfl
theorem f103.of {φ : Fx} {c : Option Addr} {n : Int} {H : Hp} {R : Value → Hp → Prop} (h : f103.VC φ c n H R) : HCalls cx.P φ 103 [.pointer c, .int .i64 n] H R :=
  fnW_calls cx_ok (show cx.P.funcs[103]? = some Try.f103 by kernel_rfl) (by rw [f103.vc]; exact h)

/-! ### 157 (*winnow/nums.Cursor).Take$1 -/
def f157.an : An := .seq (.reg (.op false (.op false (.done)))) (.seq (.blk (.seq (.reg (.op false (.op false (.op false (.done))))) (.cond (.seq (.reg (.op false (.op false (.done)))) (.nil)) (.seq (.reg (.op false (.op false (.op false (.op false (.op false (.done))))))) (.cond (.seq (.reg (.op false (.op false (.done)))) (.nil)) (.nil)))))) (.seq (.draw [[], [], [], [1, 2], [0, 1, 2, 3], [0, 1, 2, 3, 4]] (.rd 0 false (.rd 1 false (.rd 2 false (.rd 3 false (.eff 4 false (.eff 5 false (.done)))))))) (.seq (.reg (.op false (.op false (.op false (.done))))) (.nil))))
def f157.VC (φ : Fx) (leftA : Option Addr) (leftn leftc : Nat) (b o : Nat) (b2 o2 : Nat) (H : Hp) (R : Value → Hp → Prop) : Prop :=
  ∃ (x : Int), cel H b o = some (.int .i64 x) ∧ (((decide (x < 0)) = true → (R (.tuple #[.int .i64 0, .int .i64 23]) H)) ∧
    ((decide (x < 0)) = false → (∃ (x2 : Int), cel H b o = some (.int .i64 x2) ∧ (((decide (((leftn : Nat) : Int) < x2)) = true → (R (.tuple #[.int .i64 0, .int .i64 20]) H)) ∧
          ((decide (((leftn : Nat) : Int) < x2)) = false → (∃ (A : Option Addr) (n c : Nat), cel H b2 o2 = some (.slice A n c) ∧ (∃ (x3 : Int), cel H b o = some (.int .i64 x3) ∧ ((0 ≤ x3 ∧ x3 ≤ ((leftc : Nat) : Int)) ∧
                  (appW cx 59 59 (Value.slice A n c) (Value.slice leftA (Int.toNat x3) leftc) H (fun v H_ => ∃ (A2 : Option Addr) (n2 c2 : Nat), v = .slice A2 n2 c2 ∧ (canPut H_ b2 o2 [.slice A2 n2 c2] ∧
                        (let H_2 : Hp := hput H_ b2 o2 [.slice A2 n2 c2];
                          (∃ (x4 : Int), cel H_2 b o = some (.int .i64 x4) ∧ (R (.tuple #[.int .i64 x4, .int .i64 0]) H_2))))))))))))))
theorem f157.vc (φ : Fx) (leftA : Option Addr) (leftn leftc : Nat) (b o : Nat) (b2 o2 : Nat) (H : Hp) (R : Value → Hp → Prop) : fnW cx φ Try.f157 f157.an [.slice leftA leftn leftc, .pointer (some ⟨b, o, none⟩), .pointer (some ⟨b2, o2, none⟩)] H R = f157.VC φ leftA leftn leftc b o b2 o2 H R := by kernel_rfl
theorem f157.of {φ : Fx} {leftA : Option Addr} {leftn leftc : Nat} {b o : Nat} {b2 o2 : Nat} {H : Hp} {R : Value → Hp → Prop} (h : f157.VC φ leftA leftn leftc b o b2 o2 H R) : HCalls cx.P φ 157 [.slice leftA leftn leftc, .pointer (some ⟨b, o, none⟩), .pointer (some ⟨b2, o2, none⟩)] H R :=
  fnW_calls cx_ok (show cx.P.funcs[157]? = some Try.f157 by kernel_rfl) (by rw [f157.vc]; exact h)

/-! ### 104 (*winnow/nums.Cursor).Take -/
def f104.an : An := .seq (.reg (.op false (.op false (.done)))) (.seq (.reg (.op false (.done))) (.seq (.reg (.op false (.op false (.op false (.done))))) (.seq (.reg (.op false (.op false (.done)))) (.nil))))
def f104.VC (φ : Fx) (c : Option Addr) (n : Int) (H : Hp) (R : Value → Hp → Prop) : Prop :=
  let H_ : Hp := Array.push H (.cells #[.int .i64 n] 3 (0, 0));
  (let H_2 : Hp := Array.push H_ (.cells #[.slice none 0 0] 59 (0, 0));
    (HCalls cx.P φ 151 [.pointer c, .func (.func 157) #[] #[.pointer (some ⟨Array.size H, 0, none⟩), .pointer (some ⟨Array.size H_, 0, none⟩)]] H_2 (fun v H_3 => v = .tuple #[] ∧ (∃ (A : Option Addr) (n2 c2 : Nat), cel H_3 (Array.size H_) 0 = some (.slice A n2 c2) ∧ (R (.slice A n2 c2) H_3)))))
theorem f104.vc (φ : Fx) (c : Option Addr) (n : Int) (H : Hp) (R : Value → Hp → Prop) : fnW cx φ Try.f104 f104.an [.pointer c, .int .i64 n] H R = f104.VC φ c n H R := by kernel_rfl
theorem f104.of {φ : Fx} {c : Option Addr} {n : Int} {H : Hp} {R : Value → Hp → Prop} (h : f104.VC φ c n H R) : HCalls cx.P φ 104 [.pointer c, .int .i64 n] H R :=
  fnW_calls cx_ok (show cx.P.funcs[104]? = some Try.f104 by kernel_rfl) (by rw [f104.vc]; exact h)

/-! ### 105 winnow/winnowlaw2.same -/
def f105.an : An := .seq (.reg (.op false (.done))) (.seq (.seq (.reg (.op false (.op false (.op false (.op false (.op false (.done))))))) (.cond (.seq (.reg (.op false (.done))) (.nil)) (.nil))) (.seq (.seq (.reg (.op false (.done))) (.blk (.loop [(5, false, [.int .i64])] (.seq (.seq (.reg (.op false (.op false (.op false (.op false (.done)))))) (.cond (.nil) (.nil))) (.seq (.blk (.seq (.draw [[], [], [0, 1], [0, 1, 2], [], [], [4, 5], [4, 5, 6], [0, 1, 2, 3, 4, 5, 6, 7]] (.rd 0 false (.rd 1 false (.rd 2 false (.rd 3 false (.rd 4 false (.rd 5 false (.rd 6 false (.rd 7 false (.rd 8 true (.done))))))))))) (.cond (.seq (.reg (.op false (.done))) (.nil)) (.nil)))) (.reg (.op false (.op false (.op false (.done)))))))))) (.seq (.reg (.op false (.done))) (.nil))))
def f105.VC (φ : Fx) (aA : Option Addr) (an ac : Nat) (bA : Option Addr) (bn bc : Nat) (H : Hp) (R : Value → Hp → Prop) : Prop :=
  ((!decide (((an : Nat) : Int) = ((bn : Nat) : Int))) = true → (R (.bool false) H)) ∧
  ((!decide (((an : Nat) : Int) = ((bn : Nat) : Int))) = false → (∃ (I_ : Int → Hp → Prop) (m_ : Int → Hp → Nat), I_ 0 H ∧
      (∀ (i : Int) (j_ : Nat → Value) (H_ : Hp), I_ i H_ → (((decide (i < ((an : Nat) : Int))) = true → (∃ (b o : Nat), aA = some ⟨b, o, none⟩ ∧ (0 ≤ i ∧ i < ((an : Nat) : Int)) ∧
              (∃ (x : Int), cel H_ b (o + Int.toNat i * 1) = some (.int .u8 x) ∧ (∃ (b2 o2 : Nat), bA = some ⟨b2, o2, none⟩ ∧ (0 ≤ i ∧ i < ((bn : Nat) : Int)) ∧
                  (∃ (x2 : Int), cel H_ b2 (o2 + Int.toNat i * 1) = some (.int .u8 x2) ∧ (((!decide (x = x2)) = true → (R (.bool false) H_)) ∧
                      ((!decide (x = x2)) = false → (((-9223372036854775808) ≤ i + 1 ∧ i + 1 ≤ 9223372036854775807) ∧
                          (I_ (i + 1) H_ ∧ m_ (i + 1) H_ < m_ i H_))))))))) ∧
          ((decide (i < ((an : Nat) : Int))) = false → (R (.bool true) H_))))))
theorem f105.vc (φ : Fx) (aA : Option Addr) (an ac : Nat) (bA : Option Addr) (bn bc : Nat) (H : Hp) (R : Value → Hp → Prop) : fnW cx φ Try.f105 f105.an [.slice aA an ac, .slice bA bn bc] H R = f105.VC φ aA an ac bA bn bc H R := by kernel_rfl
theorem f105.of {φ : Fx} {aA : Option Addr} {an ac : Nat} {bA : Option Addr} {bn bc : Nat} {H : Hp} {R : Value → Hp → Prop} (h : f105.VC φ aA an ac bA bn bc H R) : HCalls cx.P φ 105 [.slice aA an ac, .slice bA bn bc] H R :=
  fnW_calls cx_ok (show cx.P.funcs[105]? = some Try.f105 by kernel_rfl) (by rw [f105.vc]; exact h)

/-! ### 112 (*winnow/winnowlaw2.Taken).mark -/
def f112.an : An := .seq (.reg (.op false (.op false (.op false (.op false (.op false (.op false (.op false (.op false (.done)))))))))) (.seq (.seq (.reg (.op false (.done))) (.blk (.loop [(5, false, [.int .i64])] (.seq (.seq (.reg (.op false (.op false (.op false (.op false (.done)))))) (.cond (.nil) (.nil))) (.seq (.blk (.seq (.reg (.op false (.op false (.op false (.op false (.op true (.op false (.op false (.done))))))))) (.reg (.op false (.op false (.op false (.op false (.op false (.op false (.op false (.op false (.op false (.op false (.op true (.op false (.op false (.done))))))))))))))))) (.reg (.op false (.op false (.op false (.done)))))))))) (.seq (.seq (.reg (.op false (.done))) (.blk (.loop [(4, false, [.slc]), (6, false, [.int .i64])] (.seq (.seq (.reg (.op false (.op false (.done)))) (.cond (.nil) (.nil))) (.seq (.blk (.reg (.op false (.op false (.op false (.op false (.op true (.op false (.op false (.op false (.done))))))))))) (.reg (.op false (.op false (.op false (.done)))))))))) (.reg (.op false (.op false (.op false (.op false (.op false (.op false (.op false (.op false (.done))))))))))))
def f112.VC (φ : Fx) (t : Option Addr) (n : Int) (H : Hp) (R : Value → Hp → Prop) : Prop :=
  ∃ (b o : Nat), t = some ⟨b, o, none⟩ ∧ (∃ (A : Option Addr) (n2 c : Nat), cel H b o = some (.slice A n2 c) ∧ (∃ (b2 o2 : Nat), A = some ⟨b2, o2, none⟩ ∧ (0 ≤ n ∧ n < ((n2 : Nat) : Int)) ∧
      (∃ (A2 : Option Addr) (n3 c2 : Nat), cel H b2 (o2 + Int.toNat n * 1) = some (.slice A2 n3 c2) ∧ (∃ (I_ : Int → Hp → Prop) (m_ : Int → Hp → Nat), I_ 0 H ∧
          (∀ (i : Int) (j_ : Nat → Value) (H_ : Hp), I_ i H_ → (((decide (i < ((n3 : Nat) : Int))) = true → ((0 ≤ n ∧ (0 : Int) < 199) ∧
                  (∃ (b3 o3 : Nat), A2 = some ⟨b3, o3, none⟩ ∧ (0 ≤ i ∧ i < ((n3 : Nat) : Int)) ∧
                    (canPut H_ b3 (o3 + Int.toNat i * 1) [.int .u8 (IntKind.wrap .u8 (n % 199))] ∧
                      (let H_2 : Hp := hput H_ b3 (o3 + Int.toNat i * 1) [.int .u8 (IntKind.wrap .u8 (n % 199))];
                        (∃ (b4 o4 : Nat), t = some ⟨b4, o4, none⟩ ∧ (∃ (A3 : Option Addr) (n4 c3 : Nat), cel H_2 b4 (o4 + 1) = some (.slice A3 n4 c3) ∧ (∃ (b5 o5 : Nat), A3 = some ⟨b5, o5, none⟩ ∧ (0 ≤ n ∧ n < ((n4 : Nat) : Int)) ∧
                              (∃ (A4 : Option Addr) (n5 c4 : Nat), cel H_2 b5 (o5 + Int.toNat n * 1) = some (.slice A4 n5 c4) ∧ ((0 ≤ n ∧ (0 : Int) < 199) ∧
                                  (∃ (b6 o6 : Nat), A4 = some ⟨b6, o6, none⟩ ∧ (0 ≤ i ∧ i < ((n5 : Nat) : Int)) ∧
                                    (canPut H_2 b6 (o6 + Int.toNat i * 1) [.int .u8 (IntKind.wrap .u8 (n % 199))] ∧
                                      (let H_3 : Hp := hput H_2 b6 (o6 + Int.toNat i * 1) [.int .u8 (IntKind.wrap .u8 (n % 199))];
                                        (((-9223372036854775808) ≤ i + 1 ∧ i + 1 ≤ 9223372036854775807) ∧
                                          (I_ (i + 1) H_3 ∧ m_ (i + 1) H_3 < m_ i H_))))))))))))))) ∧
              ((decide (i < ((n3 : Nat) : Int))) = false → (∃ (I_2 : Option Addr → Nat → Nat → Int → Hp → Prop) (m_2 : Option Addr → Nat → Nat → Int → Hp → Nat), I_2 A2 n3 c2 0 H_ ∧
                  (∀ (bA : Option Addr) (bn bc : Nat) (i2 : Int) (j_2 : Nat → Value) (H_4 : Hp), I_2 bA bn bc i2 H_4 → (((decide (i2 < 64)) = true → ((0 ≤ n ∧ (0 : Int) < 55) ∧
                          (((-9223372036854775808) ≤ 200 + (n % 55) ∧ 200 + (n % 55) ≤ 9223372036854775807) ∧
                            (let H_5 : Hp := Array.push H_4 (.cells #[.int .u8 (IntKind.wrap .u8 (200 + (n % 55)))] 5 (0, 0));
                              (appW cx 59 59 (Value.slice bA bn bc) (Value.slice (some (⟨Array.size H_4, 0, none⟩ : Addr)) 1 1) H_5 (fun v H_6 => ∃ (A5 : Option Addr) (n6 c5 : Nat), v = .slice A5 n6 c5 ∧ (((-9223372036854775808) ≤ i2 + 1 ∧ i2 + 1 ≤ 9223372036854775807) ∧
                                    (I_2 A5 n6 c5 (i2 + 1) H_6 ∧ m_2 A5 n6 c5 (i2 + 1) H_6 < m_2 bA bn bc i2 H_4)))))))) ∧
                      ((decide (i2 < 64)) = false → (∃ (b7 o7 : Nat), t = some ⟨b7, o7, none⟩ ∧ (∃ (A6 : Option Addr) (n7 c6 : Nat), cel H_4 b7 (o7 + 2) = some (.slice A6 n7 c6) ∧ (∃ (b8 o8 : Nat), A6 = some ⟨b8, o8, none⟩ ∧ (0 ≤ n ∧ n < ((n7 : Nat) : Int)) ∧
                              (canPut H_4 b8 (o8 + Int.toNat n * 1) [.slice bA bn bc] ∧
                                (let H_7 : Hp := hput H_4 b8 (o8 + Int.toNat n * 1) [.slice bA bn bc];
                                  (R (.tuple #[]) H_7)))))))))))))))))
theorem f112.vc (φ : Fx) (t : Option Addr) (n : Int) (H : Hp) (R : Value → Hp → Prop) : fnW cx φ Try.f112 f112.an [.pointer t, .int .i64 n] H R = f112.VC φ t n H R := by kernel_rfl
theorem f112.of {φ : Fx} {t : Option Addr} {n : Int} {H : Hp} {R : Value → Hp → Prop} (h : f112.VC φ t n H R) : HCalls cx.P φ 112 [.pointer t, .int .i64 n] H R :=
  fnW_calls cx_ok (show cx.P.funcs[112]? = some Try.f112 by kernel_rfl) (by rw [f112.vc]; exact h)

/-! ### 107 (*winnow/winnowlaw2.Taken).keep -/
def f107.an : An := .seq (.reg (.op false (.done))) (.seq (.reg (.op false (.op false (.op false (.op false (.done)))))) (.seq (.reg (.op false (.op false (.op false (.op false (.op false (.op false (.op false (.op false (.op false (.op false (.op false (.done))))))))))))) (.seq (.reg (.op false (.op false (.op false (.op false (.op false (.op false (.op false (.op false (.op false (.op false (.op false (.done))))))))))))) (.seq (.reg (.op false (.op false (.op false (.op false (.op false (.op false (.op false (.op false (.op false (.op false (.done)))))))))))) (.seq (.reg (.op false (.op false (.op false (.op false (.op false (.op false (.op false (.done))))))))) (.join [] (.cond (.reg (.op false (.op false (.op false (.op false (.op false (.op false (.op false (.op false (.done)))))))))) (.nil))))))))
def f107.VC (φ : Fx) (t : Option Addr) (bA : Option Addr) (bn bc : Nat) (H : Hp) (R : Value → Hp → Prop) : Prop :=
  appW cx 59 59 (Value.slice none 0 0) (Value.slice bA bn bc) H (fun v H_ => ∃ (A : Option Addr) (n c : Nat), v = .slice A n c ∧ (∃ (b o : Nat), t = some ⟨b, o, none⟩ ∧ (∃ (A2 : Option Addr) (n2 c2 : Nat), cel H_ b o = some (.slice A2 n2 c2) ∧ (let H_2 : Hp := Array.push H_ (.cells #[.slice bA bn bc] 59 (0, 0));
          (appW cx 76 76 (Value.slice A2 n2 c2) (Value.slice (some (⟨Array.size H_, 0, none⟩ : Addr)) 1 1) H_2 (fun v2 H_3 => ∃ (A3 : Option Addr) (n3 c3 : Nat), v2 = .slice A3 n3 c3 ∧ (∃ (b2 o2 : Nat), t = some ⟨b2, o2, none⟩ ∧ (canPut H_3 b2 o2 [.slice A3 n3 c3] ∧
                  (let H_4 : Hp := hput H_3 b2 o2 [.slice A3 n3 c3];
                    (∃ (b3 o3 : Nat), t = some ⟨b3, o3, none⟩ ∧ (∃ (A4 : Option Addr) (n4 c4 : Nat), cel H_4 b3 (o3 + 1) = some (.slice A4 n4 c4) ∧ (let H_5 : Hp := Array.push H_4 (.cells #[.slice A n c] 59 (0, 0));
                          (appW cx 76 76 (Value.slice A4 n4 c4) (Value.slice (some (⟨Array.size H_4, 0, none⟩ : Addr)) 1 1) H_5 (fun v3 H_6 => ∃ (A5 : Option Addr) (n5 c5 : Nat), v3 = .slice A5 n5 c5 ∧ (∃ (b4 o4 : Nat), t = some ⟨b4, o4, none⟩ ∧ (canPut H_6 b4 (o4 + 1) [.slice A5 n5 c5] ∧
                                  (let H_7 : Hp := hput H_6 b4 (o4 + 1) [.slice A5 n5 c5];
                                    (∃ (b5 o5 : Nat), t = some ⟨b5, o5, none⟩ ∧ (∃ (A6 : Option Addr) (n6 c6 : Nat), cel H_7 b5 (o5 + 2) = some (.slice A6 n6 c6) ∧ (let H_8 : Hp := Array.push H_7 (.cells #[.slice none 0 0] 59 (0, 0));
                                          (appW cx 76 76 (Value.slice A6 n6 c6) (Value.slice (some (⟨Array.size H_7, 0, none⟩ : Addr)) 1 1) H_8 (fun v4 H_9 => ∃ (A7 : Option Addr) (n7 c7 : Nat), v4 = .slice A7 n7 c7 ∧ (∃ (b6 o6 : Nat), t = some ⟨b6, o6, none⟩ ∧ (canPut H_9 b6 (o6 + 2) [.slice A7 n7 c7] ∧
                                                  (let H_10 : Hp := hput H_9 b6 (o6 + 2) [.slice A7 n7 c7];
                                                    (∃ (b7 o7 : Nat), t = some ⟨b7, o7, none⟩ ∧ (∃ (A8 : Option Addr) (n8 c8 : Nat), cel H_10 b7 o7 = some (.slice A8 n8 c8) ∧ ((0 ≤ ((n8 : Nat) : Int) ∧ (0 : Int) < 2) ∧
                                                          (∃ M_ : Hp → Prop, (((decide ((((n8 : Nat) : Int) % 2) = 0)) = true → (∃ (b8 o8 : Nat), t = some ⟨b8, o8, none⟩ ∧ (∃ (A9 : Option Addr) (n9 c9 : Nat), cel H_10 b8 o8 = some (.slice A9 n9 c9) ∧ (((-9223372036854775808) ≤ ((n9 : Nat) : Int) - 1 ∧ ((n9 : Nat) : Int) - 1 ≤ 9223372036854775807) ∧
                                                                      (HCalls cx.P φ 112 [.pointer t, .int .i64 (((n9 : Nat) : Int) - 1)] H_10 (fun v5 H_11 => v5 = .tuple #[] ∧ (M_ H_11))))))) ∧
                                                              ((decide ((((n8 : Nat) : Int) % 2) = 0)) = false → (M_ H_10))) ∧
                                                            (∀  (j_ : Nat → Value) (H_12 : Hp), M_ H_12 → (R (.tuple #[]) H_12)))))))))))))))))))))))))))))))
theorem f107.vc (φ : Fx) (t : Option Addr) (bA : Option Addr) (bn bc : Nat) (H : Hp) (R : Value → Hp → Prop) : fnW cx φ Try.f107 f107.an [.pointer t, .slice bA bn bc] H R = f107.VC φ t bA bn bc H R := by kernel_rfl
theorem f107.of {φ : Fx} {t : Option Addr} {bA : Option Addr} {bn bc : Nat} {H : Hp} {R : Value → Hp → Prop} (h : f107.VC φ t bA bn bc H R) : HCalls cx.P φ 107 [.pointer t, .slice bA bn bc] H R :=
  fnW_calls cx_ok (show cx.P.funcs[107]? = some Try.f107 by kernel_rfl) (by rw [f107.vc]; exact h)

/-! ### 158 (*winnow/nums.Cursor).Text$1 -/
def f158.an : An := .seq (.reg (.op false (.op false (.done)))) (.seq (.reg (.op false (.op false (.op false (.op false (.op false (.op false (.op false (.op false (.op false (.done))))))))))) (.seq (.blk (.seq (.reg (.op false (.op false (.op false (.done))))) (.cond (.seq (.reg (.op false (.op false (.op false (.done))))) (.nil)) (.seq (.reg (.op false (.op false (.op false (.op false (.done)))))) (.cond (.seq (.reg (.op false (.op false (.done)))) (.nil)) (.seq (.reg (.op false (.op false (.op false (.op false (.op false (.op false (.op false (.done))))))))) (.cond (.seq (.reg (.op false (.op false (.done)))) (.nil)) (.nil)))))))) (.seq (.reg (.op false (.op false (.op false (.op false (.op false (.op false (.op false (.op false (.done)))))))))) (.seq (.reg (.op false (.op false (.op false (.op false (.op false (.done))))))) (.nil)))))
def f158.VC (φ : Fx) (leftA : Option Addr) (leftn leftc : Nat) (b o : Nat) (b2 o2 : Nat) (H : Hp) (R : Value → Hp → Prop) : Prop :=
  HCalls cx.P φ 153 [.slice leftA leftn leftc] H (fun v H_ => ∃ (x : Int), ∃ (x2 : Int), ∃ (x3 : Int), v = .tuple #[.int .i64 x, .int .i64 x2, .int .i64 x3] ∧ (((!decide (x3 = 0)) = true → (R (.tuple #[.int .i64 0, .int .i64 x3]) H_)) ∧
      ((!decide (x3 = 0)) = false → (∃ (x4 : Int), cel H_ b o = some (.int .i64 x4) ∧ (((decide (x4 < x)) = true → (R (.tuple #[.int .i64 0, .int .i64 23]) H_)) ∧
            ((decide (x4 < x)) = false → (((-9223372036854775808) ≤ ((leftn : Nat) : Int) - x2 ∧ ((leftn : Nat) : Int) - x2 ≤ 9223372036854775807) ∧
                (((decide ((((leftn : Nat) : Int) - x2) < x)) = true → (R (.tuple #[.int .i64 0, .int .i64 20]) H_)) ∧
                  ((decide ((((leftn : Nat) : Int) - x2) < x)) = false → (((-9223372036854775808) ≤ x2 + x ∧ x2 + x ≤ 9223372036854775807) ∧
                      ((0 ≤ x2 ∧ x2 ≤ (x2 + x) ∧ (x2 + x) ≤ ((leftc : Nat) : Int)) ∧
                        (∃ ys : List Int, rdC H_ (slA leftA (Int.toNat x2) leftc 1) (Int.toNat (x2 + x) - Int.toNat x2) (List.map (Value.int .u8) ys) ∧ (canPut H_ b2 o2 [.string (bytesOf ys)] ∧
                            (let H_2 : Hp := hput H_ b2 o2 [.string (bytesOf ys)];
                              (((-9223372036854775808) ≤ x2 + x ∧ x2 + x ≤ 9223372036854775807) ∧
                                (R (.tuple #[.int .i64 (x2 + x), .int .i64 0]) H_2))))))))))))))))
theorem f158.vc (φ : Fx) (leftA : Option Addr) (leftn leftc : Nat) (b o : Nat) (b2 o2 : Nat) (H : Hp) (R : Value → Hp → Prop) : fnW cx φ Try.f158 f158.an [.slice leftA leftn leftc, .pointer (some ⟨b, o, none⟩), .pointer (some ⟨b2, o2, none⟩)] H R = f158.VC φ leftA leftn leftc b o b2 o2 H R := by kernel_rfl
theorem f158.of {φ : Fx} {leftA : Option Addr} {leftn leftc : Nat} {b o : Nat} {b2 o2 : Nat} {H : Hp} {R : Value → Hp → Prop} (h : f158.VC φ leftA leftn leftc b o b2 o2 H R) : HCalls cx.P φ 158 [.slice leftA leftn leftc, .pointer (some ⟨b, o, none⟩), .pointer (some ⟨b2, o2, none⟩)] H R :=
  fnW_calls cx_ok (show cx.P.funcs[158]? = some Try.f158 by kernel_rfl) (by rw [f158.vc]; exact h)

/-! ### 108 (*winnow/nums.Cursor).Text -/
def f108.an : An := .seq (.reg (.op false (.op false (.done)))) (.seq (.reg (.op false (.done))) (.seq (.reg (.op false (.op false (.op false (.done))))) (.seq (.reg (.op false (.op false (.done)))) (.nil))))
def f108.VC (φ : Fx) (c : Option Addr) (most : Int) (H : Hp) (R : Value → Hp → Prop) : Prop :=
  let H_ : Hp := Array.push H (.cells #[.int .i64 most] 3 (0, 0));
  (let H_2 : Hp := Array.push H_ (.cells #[.string ⟨#[]⟩] 9 (0, 0));
    (HCalls cx.P φ 151 [.pointer c, .func (.func 158) #[] #[.pointer (some ⟨Array.size H, 0, none⟩), .pointer (some ⟨Array.size H_, 0, none⟩)]] H_2 (fun v H_3 => v = .tuple #[] ∧ (∃ (x : ByteArray), cel H_3 (Array.size H_) 0 = some (.string x) ∧ (R (.string x) H_3)))))
theorem f108.vc (φ : Fx) (c : Option Addr) (most : Int) (H : Hp) (R : Value → Hp → Prop) : fnW cx φ Try.f108 f108.an [.pointer c, .int .i64 most] H R = f108.VC φ c most H R := by kernel_rfl
theorem f108.of {φ : Fx} {c : Option Addr} {most : Int} {H : Hp} {R : Value → Hp → Prop} (h : f108.VC φ c most H R) : HCalls cx.P φ 108 [.pointer c, .int .i64 most] H R :=
  fnW_calls cx_ok (show cx.P.funcs[108]? = some Try.f108 by kernel_rfl) (by rw [f108.vc]; exact h)

/-! ### 109 (*winnow/winnowref2.Cursor).Text -/
def f109.an : An := .seq (.reg (.op false (.done))) (.seq (.seq (.join [(15, false, [.bool])] (.reg (.op false (.op false (.op false (.split 10 (.op false (.op false (.op false (.op false (.op false (.done)))))) (.op false (.op false (.op false (.op false (.op false (.done)))))))))))) (.cond (.seq (.reg (.op false (.done))) (.nil)) (.nil))) (.seq (.reg (.op false (.op false (.op false (.op false (.op false (.done))))))) (.seq (.reg (.op false (.op false (.op false (.op false (.done)))))) (.seq (.seq (.reg (.op false (.op false (.op false (.op false (.done)))))) (.cond (.seq (.reg (.op false (.done))) (.nil)) (.nil))) (.seq (.seq (.reg (.op false (.op false (.op false (.op false (.done)))))) (.cond (.seq (.reg (.op false (.op false (.op false (.op false (.op false (.done))))))) (.seq (.reg (.op false (.op false (.done)))) (.seq (.reg (.op false (.done))) (.nil)))) (.nil))) (.seq (.reg (.op false (.op false (.op false (.op false (.done)))))) (.seq (.reg (.op false (.op false (.op false (.done))))) (.nil))))))))
def f109.VC (φ : Fx) (c : Option Addr) (most : Int) (H : Hp) (R : Value → Hp → Prop) : Prop :=
  ∃ M_ : Bool → Hp → Prop, (((Option.isNone c) = true → (M_ true H)) ∧
    ((Option.isNone c) = false → (∃ (b o : Nat), c = some ⟨b, o, none⟩ ∧ (∃ (x : Bool), cel H b (o + 2) = some (.bool x) ∧ (M_ x H))))) ∧
  (∀ (x2 : Bool) (j_ : Nat → Value) (H_ : Hp), M_ x2 H_ → ((x2 = true → (R (.string ⟨#[]⟩) H_)) ∧
      (x2 = false → (∃ (b2 o2 : Nat), c = some ⟨b2, o2, none⟩ ∧ (∃ (x3 : Int), cel H_ b2 (o2 + 1) = some (.int .i64 x3) ∧ (HCalls cx.P φ 101 [.pointer c, .int .i64 most] H_ (fun v H_2 => ∃ (x4 : Int), v = .int .i64 x4 ∧ (∃ (b3 o3 : Nat), c = some ⟨b3, o3, none⟩ ∧ (∃ (x5 : Bool), cel H_2 b3 (o3 + 2) = some (.bool x5) ∧ ((x5 = true → (R (.string ⟨#[]⟩) H_2)) ∧
                      (x5 = false → (HCalls cx.P φ 41 [.pointer c] H_2 (fun v2 H_3 => ∃ (x6 : Int), v2 = .int .i64 x6 ∧ (((decide (x6 < x4)) = true → (∃ (b4 o4 : Nat), c = some ⟨b4, o4, none⟩ ∧ (canPut H_3 b4 (o4 + 1) [.int .i64 x3] ∧
                                    (let H_4 : Hp := hput H_3 b4 (o4 + 1) [.int .i64 x3];
                                      (HCalls cx.P φ 111 [.pointer c, .int .i64 20] H_4 (fun v3 H_5 => v3 = .tuple #[] ∧ (R (.string ⟨#[]⟩) H_5))))))) ∧
                              ((decide (x6 < x4)) = false → (HCalls cx.P φ 106 [.pointer c, .int .i64 x4] H_3 (fun v4 H_6 => ∃ (A : Option Addr) (n c2 : Nat), v4 = .slice A n c2 ∧ (∃ ys : List Int, rdC H_6 A n (List.map (Value.int .u8) ys) ∧ (R (.string (bytesOf ys)) H_6)))))))))))))))))))
theorem f109.vc (φ : Fx) (c : Option Addr) (most : Int) (H : Hp) (R : Value → Hp → Prop) : fnW cx φ Try.f109 f109.an [.pointer c, .int .i64 most] H R = f109.VC φ c most H R := by kernel_rfl
theorem f109.of {φ : Fx} {c : Option Addr} {most : Int} {H : Hp} {R : Value → Hp → Prop} (h : f109.VC φ c most H R) : HCalls cx.P φ 109 [.pointer c, .int .i64 most] H R :=
  fnW_calls cx_ok (show cx.P.funcs[109]? = some Try.f109 by kernel_rfl) (by rw [f109.vc]; exact h)

/-! ### 159 (*winnow/nums.Cursor).Fail$1 -/
def f159.an : An := .seq (.reg (.op false (.op false (.done)))) (.seq (.draw [[], [], [0, 1]] (.rd 0 false (.rd 1 false (.rd 2 false (.done))))) (.nil))
def f159.VC (φ : Fx) (aA : Option Addr) (an ac : Nat) (b o : Nat) (H : Hp) (R : Value → Hp → Prop) : Prop :=
  ∃ (x : Int), cel H b o = some (.int .i64 x) ∧ (R (.tuple #[.int .i64 0, .int .i64 x]) H)
theorem f159.vc (φ : Fx) (aA : Option Addr) (an ac : Nat) (b o : Nat) (H : Hp) (R : Value → Hp → Prop) : fnW cx φ Try.f159 f159.an [.slice aA an ac, .pointer (some ⟨b, o, none⟩)] H R = f159.VC φ aA an ac b o H R := by kernel_rfl
theorem f159.of {φ : Fx} {aA : Option Addr} {an ac : Nat} {b o : Nat} {H : Hp} {R : Value → Hp → Prop} (h : f159.VC φ aA an ac b o H R) : HCalls cx.P φ 159 [.slice aA an ac, .pointer (some ⟨b, o, none⟩)] H R :=
  fnW_calls cx_ok (show cx.P.funcs[159]? = some Try.f159 by kernel_rfl) (by rw [f159.vc]; exact h)

/-! ### 110 (*winnow/nums.Cursor).Fail -/
def f110.an : An := .seq (.reg (.op false (.done))) (.reg (.op false (.op false (.op false (.done)))))
def f110.VC (φ : Fx) (c : Option Addr) (e_ : Int) (H : Hp) (R : Value → Hp → Prop) : Prop :=
  let H_ : Hp := Array.push H (.cells #[.int .i64 e_] 25 (0, 0));
  (HCalls cx.P φ 151 [.pointer c, .func (.func 159) #[] #[.pointer (some ⟨Array.size H, 0, none⟩)]] H_ (fun v H_2 => v = .tuple #[] ∧ (R (.tuple #[]) H_2)))
theorem f110.vc (φ : Fx) (c : Option Addr) (e_ : Int) (H : Hp) (R : Value → Hp → Prop) : fnW cx φ Try.f110 f110.an [.pointer c, .int .i64 e_] H R = f110.VC φ c e_ H R := by kernel_rfl
theorem f110.of {φ : Fx} {c : Option Addr} {e_ : Int} {H : Hp} {R : Value → Hp → Prop} (h : f110.VC φ c e_ H R) : HCalls cx.P φ 110 [.pointer c, .int .i64 e_] H R :=
  fnW_calls cx_ok (show cx.P.funcs[110]? = some Try.f110 by kernel_rfl) (by rw [f110.vc]; exact h)

/-! ### 44 (*winnow/winnowlaw2.Taken).told -/
def f44.an : An := .seq (.reg (.op false (.op false (.done)))) (.seq (.seq (.reg (.op false (.op false (.done)))) (.blk (.seq (.reg (.op false (.op false (.done)))) (.join [] (.cond (.seq (.draw [[], [], [1], [0, 1, 2], [], [], [5], [0, 1, 2, 3, 4, 5, 6], [0, 1, 2, 3, 4, 5, 6, 7]] (.rd 0 false (.rd 1 false (.rd 2 false (.rd 4 false (.rd 5 false (.rd 6 false (.eff 3 false (.eff 7 false (.rd 8 false (.done))))))))))) (.cond (.seq (.reg (.op false (.done))) (.nil)) (.nil))) (.seq (.reg (.op false (.op false (.done)))) (.join [] (.cond (.seq (.draw [[], [], [1], [0, 1, 2], [], [], [5], [0, 1, 2, 3, 4, 5, 6], [0, 1, 2, 3, 4, 5, 6, 7]] (.rd 0 false (.rd 1 false (.rd 2 false (.rd 4 false (.rd 5 false (.rd 6 false (.eff 3 false (.eff 7 false (.rd 8 true (.done))))))))))) (.cond (.seq (.reg (.op false (.done))) (.nil)) (.nil))) (.seq (.reg (.op false (.op false (.done)))) (.join [] (.cond (.seq (.reg (.op false (.op false (.op false (.op false (.op false (.done))))))) (.seq (.reg (.op false (.op false (.op false (.op false (.op false (.op false (.op false (.done))))))))) (.seq (.reg (.op false (.op false (.op false (.done))))) (.seq (.reg (.op false (.op false (.done)))) (.cond (.seq (.reg (.op false (.done))) (.nil)) (.nil)))))) (.seq (.reg (.op false (.op false (.done)))) (.join [] (.cond (.seq (.draw [[], [], [1], [0, 1, 2], [], [], [5], [0, 1, 2, 3, 4, 5, 6], [0, 1, 2, 3, 4, 5, 6, 7]] (.rd 0 false (.rd 1 false (.rd 2 false (.rd 4 false (.rd 5 false (.rd 6 false (.eff 3 false (.eff 7 false (.rd 8 false (.done))))))))))) (.cond (.seq (.reg (.op false (.done))) (.nil)) (.nil))) (.seq (.reg (.op false (.op false (.done)))) (.join [] (.cond (.seq (.reg (.op false (.op false (.op false (.op false (.done)))))) (.reg (.op false (.op false (.op false (.op false (.done))))))) (.nil)))))))))))))))))) (.seq (.join [(8, false, [.bool])] (.reg (.op false (.op false (.op false (.op false (.op false (.op false (.split 78 (.op false (.op false (.op false (.op false (.op false (.op false (.op false (.done)))))))) (.op false (.op false (.op false (.op false (.op false (.op false (.op false (.done))))))))))))))))) (.nil)))
def f44.VC (φ : Fx) (t : Option Addr) (c : Option Addr) (r : Option Addr) (s : Int) (s2 : Int) (H : Hp) (R : Value → Hp → Prop) : Prop :=
  let H_ : Hp := Array.push H (.cells #[.int .i64 s, .int .i64 s2] 81 (0, 0));
  (∃ (x : Int), cel H_ (Array.size H) 0 = some (.int .i64 x) ∧ (∃ M_ : Hp → Prop, (((decide (x = 0)) = true → (∃ (x2 : Int), cel H_ (Array.size H) (0 + 1) = some (.int .i64 x2) ∧ (∃ (x3 : Int), cel H_ (Array.size H) (0 + 1) = some (.int .i64 x3) ∧ (HCalls cx.P φ 100 [.pointer c, .int .i64 x2] H_ (fun v H_2 => ∃ (x4 : Int), v = .int .i64 x4 ∧ (held H_2 (Array.size H) (0 + 1) [.int .i64 x3] ∧ (HCalls cx.P φ 101 [.pointer r, .int .i64 x3] H_2 (fun v2 H_3 => ∃ (x5 : Int), v2 = .int .i64 x5 ∧ (((!decide (x4 = x5)) = true → (R (.bool false) H_3)) ∧
                          ((!decide (x4 = x5)) = false → (M_ H_3))))))))))) ∧
        ((decide (x = 0)) = false → (∃ M_2 : Hp → Prop, (((decide (x = 1)) = true → (∃ (x6 : Int), cel H_ (Array.size H) (0 + 1) = some (.int .i64 x6) ∧ (∃ (x7 : Int), cel H_ (Array.size H) (0 + 1) = some (.int .i64 x7) ∧ (HCalls cx.P φ 102 [.pointer c, .int .i64 x6] H_ (fun v3 H_4 => ∃ (x8 : Int), v3 = .int .u64 x8 ∧ (held H_4 (Array.size H) (0 + 1) [.int .i64 x7] ∧ (HCalls cx.P φ 103 [.pointer r, .int .i64 x7] H_4 (fun v4 H_5 => ∃ (x9 : Int), v4 = .int .u64 x9 ∧ (((!decide (x8 = x9)) = true → (R (.bool false) H_5)) ∧
                                ((!decide (x8 = x9)) = false → (M_2 H_5))))))))))) ∧
              ((decide (x = 1)) = false → (∃ M_3 : Hp → Prop, (((decide (x = 2)) = true → (∃ (x10 : Int), cel H_ (Array.size H) (0 + 1) = some (.int .i64 x10) ∧ (HCalls cx.P φ 104 [.pointer c, .int .i64 x10] H_ (fun v5 H_6 => ∃ (A : Option Addr) (n c2 : Nat), v5 = .slice A n c2 ∧ (∃ (x11 : Int), cel H_6 (Array.size H) (0 + 1) = some (.int .i64 x11) ∧ (HCalls cx.P φ 106 [.pointer r, .int .i64 x11] H_6 (fun v6 H_7 => ∃ (A2 : Option Addr) (n2 c3 : Nat), v6 = .slice A2 n2 c3 ∧ (HCalls cx.P φ 105 [.slice A n c2, .slice A2 n2 c3] H_7 (fun v7 H_8 => ∃ (x12 : Bool), v7 = .bool x12 ∧ (HCalls cx.P φ 107 [.pointer t, .slice A n c2] H_8 (fun v8 H_9 => v8 = .tuple #[] ∧ (((!x12) = true → (R (.bool false) H_9)) ∧
                                            ((!x12) = false → (M_3 H_9)))))))))))))) ∧
                    ((decide (x = 2)) = false → (∃ M_4 : Hp → Prop, (((decide (x = 3)) = true → (∃ (x13 : Int), cel H_ (Array.size H) (0 + 1) = some (.int .i64 x13) ∧ (∃ (x14 : Int), cel H_ (Array.size H) (0 + 1) = some (.int .i64 x14) ∧ (HCalls cx.P φ 108 [.pointer c, .int .i64 x13] H_ (fun v9 H_10 => ∃ (x15 : ByteArray), v9 = .string x15 ∧ (held H_10 (Array.size H) (0 + 1) [.int .i64 x14] ∧ (HCalls cx.P φ 109 [.pointer r, .int .i64 x14] H_10 (fun v10 H_11 => ∃ (x16 : ByteArray), v10 = .string x16 ∧ (((!decide (x15 = x16)) = true → (R (.bool false) H_11)) ∧
                                            ((!decide (x15 = x16)) = false → (M_4 H_11))))))))))) ∧
                          ((decide (x = 3)) = false → (∃ M_5 : Hp → Prop, (((decide (x = 4)) = true → (∃ (x17 : Int), cel H_ (Array.size H) (0 + 1) = some (.int .i64 x17) ∧ (HCalls cx.P φ 110 [.pointer c, .int .i64 x17] H_ (fun v11 H_12 => v11 = .tuple #[] ∧ (∃ (x18 : Int), cel H_12 (Array.size H) (0 + 1) = some (.int .i64 x18) ∧ (HCalls cx.P φ 111 [.pointer r, .int .i64 x18] H_12 (fun v12 H_13 => v12 = .tuple #[] ∧ (M_5 H_13)))))))) ∧
                                ((decide (x = 4)) = false → (M_5 H_))) ∧
                              (∀  (j_ : Nat → Value) (H_14 : Hp), M_5 H_14 → (M_4 H_14))))) ∧
                        (∀  (j_2 : Nat → Value) (H_15 : Hp), M_4 H_15 → (M_3 H_15))))) ∧
                  (∀  (j_3 : Nat → Value) (H_16 : Hp), M_3 H_16 → (M_2 H_16))))) ∧
            (∀  (j_4 : Nat → Value) (H_17 : Hp), M_2 H_17 → (M_ H_17))))) ∧
      (∀  (j_5 : Nat → Value) (H_18 : Hp), M_ H_18 → (∃ M_6 : Bool → Hp → Prop, (HCalls cx.P φ 40 [.pointer c] H_18 (fun v13 H_19 => ∃ (x19 : Int), v13 = .int .i64 x19 ∧ (HCalls cx.P φ 41 [.pointer r] H_19 (fun v14 H_20 => ∃ (x20 : Int), v14 = .int .i64 x20 ∧ (((decide (x19 = x20)) = true → (HCalls cx.P φ 42 [.pointer c] H_20 (fun v15 H_21 => ∃ (x21 : Int), ∃ (x22 : Int), v15 = .agg #[.int .i64 x21, .int .i64 x22] ∧ (HCalls cx.P φ 43 [.pointer r] H_21 (fun v16 H_22 => ∃ (x23 : Int), ∃ (x24 : Int), v16 = .agg #[.int .i64 x23, .int .i64 x24] ∧ (fitW cx 70 [.int .i64 x21, .int .i64 x22] [.int .i64 x23, .int .i64 x24] ∧ (M_6 (decide (x21 = x23) && (decide (x22 = x24) && true)) H_22))))))) ∧
                    ((decide (x19 = x20)) = false → (M_6 false H_20))))))) ∧
          (∀ (x25 : Bool) (j_6 : Nat → Value) (H_23 : Hp), M_6 x25 H_23 → (R (.bool x25) H_23))))))
theorem f44.vc (φ : Fx) (t : Option Addr) (c : Option Addr) (r : Option Addr) (s : Int) (s2 : Int) (H : Hp) (R : Value → Hp → Prop) : fnW cx φ Try.f44 f44.an [.pointer t, .pointer c, .pointer r, .agg #[.int .i64 s, .int .i64 s2]] H R = f44.VC φ t c r s s2 H R := by kernel_rfl
theorem f44.of {φ : Fx} {t : Option Addr} {c : Option Addr} {r : Option Addr} {s : Int} {s2 : Int} {H : Hp} {R : Value → Hp → Prop} (h : f44.VC φ t c r s s2 H R) : HCalls cx.P φ 44 [.pointer t, .pointer c, .pointer r, .agg #[.int .i64 s, .int .i64 s2]] H R :=
  fnW_calls cx_ok (show cx.P.funcs[44]? = some Try.f44 by kernel_rfl) (by rw [f44.vc]; exact h)

/-! ### 45 (*winnow/winnowlaw2.Taken).stands -/
def f45.an : An := .seq (.reg (.op false (.done))) (.seq (.seq (.reg (.op false (.done))) (.blk (.loop [(3, false, [.int .i64])] (.seq (.seq (.reg (.op false (.op false (.op false (.op false (.op false (.op false (.op false (.done))))))))) (.cond (.nil) (.nil))) (.seq (.blk (.seq (.seq (.draw [[], [0], [0, 1], [0, 1, 2], [], [0, 1, 2, 3, 4], [0, 1, 2, 3, 4, 5], [], [7], [7, 8], [7, 8, 9], [], [7, 8, 9, 10, 11], [7, 8, 9, 10, 11, 12], [0, 1, 2, 3, 4, 5, 6, 7, 8, 9, 10, 11, 12, 13], [0, 1, 2, 3, 4, 5, 6, 7, 8, 9, 10, 11, 12, 13, 14]] (.rd 0 false (.rd 1 false (.rd 2 false (.rd 3 false (.rd 4 false (.rd 5 false (.rd 6 false (.rd 7 false (.rd 8 false (.rd 9 false (.rd 10 false (.rd 11 false (.rd 12 false (.rd 13 false (.eff 14 false (.rd 15 false (.done)))))))))))))))))) (.cond (.seq (.reg (.op false (.done))) (.nil)) (.nil))) (.seq (.reg (.op false (.op false (.op false (.op false (.op false (.op false (.op false (.op false (.op false (.done))))))))))) (.blk (.loop [(4, false, [.int .i64])] (.seq (.seq (.reg (.op false (.op false (.op false (.op false (.op false (.op false (.op false (.op false (.op false (.op false (.done)))))))))))) (.cond (.nil) (.nil))) (.seq (.blk (.seq (.reg (.op false (.op false (.op false (.op false (.op false (.op false (.op false (.op false (.op false (.op false (.op false (.op false (.op false (.op true (.op true (.done))))))))))))))))) (.cond (.seq (.reg (.op false (.done))) (.nil)) (.nil)))) (.reg (.op false (.op false (.op false (.done)))))))))))) (.reg (.op false (.op false (.op false (.done)))))))))) (.seq (.reg (.op false (.done))) (.nil)))
def f45.VC (φ : Fx) (t : Option Addr) (H : Hp) (R : Value → Hp → Prop) : Prop :=
  ∃ (I_ : Int → Hp → Prop) (m_ : Int → Hp → Nat), I_ 0 H ∧
  (∀ (n : Int) (j_ : Nat → Value) (H_ : Hp), I_ n H_ → (∃ (b o : Nat), t = some ⟨b, o, none⟩ ∧ (∃ (A : Option Addr) (n2 c : Nat), cel H_ b o = some (.slice A n2 c) ∧ (((decide (n < ((n2 : Nat) : Int))) = true → (∃ (b2 o2 : Nat), t = some ⟨b2, o2, none⟩ ∧ (∃ (A2 : Option Addr) (n3 c2 : Nat), cel H_ b2 o2 = some (.slice A2 n3 c2) ∧ (∃ (b3 o3 : Nat), A2 = some ⟨b3, o3, none⟩ ∧ (0 ≤ n ∧ n < ((n3 : Nat) : Int)) ∧
                  (∃ (A3 : Option Addr) (n4 c3 : Nat), cel H_ b3 (o3 + Int.toNat n * 1) = some (.slice A3 n4 c3) ∧ (∃ (b4 o4 : Nat), t = some ⟨b4, o4, none⟩ ∧ (∃ (A4 : Option Addr) (n5 c4 : Nat), cel H_ b4 (o4 + 1) = some (.slice A4 n5 c4) ∧ (∃ (b5 o5 : Nat), A4 = some ⟨b5, o5, none⟩ ∧ (0 ≤ n ∧ n < ((n5 : Nat) : Int)) ∧
                          (∃ (A5 : Option Addr) (n6 c5 : Nat), cel H_ b5 (o5 + Int.toNat n * 1) = some (.slice A5 n6 c5) ∧ (HCalls cx.P φ 105 [.slice A3 n4 c3, .slice A5 n6 c5] H_ (fun v H_2 => ∃ (x : Bool), v = .bool x ∧ (((!x) = true → (R (.bool false) H_2)) ∧
                                  ((!x) = false → (∃ (b6 o6 : Nat), t = some ⟨b6, o6, none⟩ ∧ (∃ (A6 : Option Addr) (n7 c6 : Nat), cel H_2 b6 o6 = some (.slice A6 n7 c6) ∧ (∃ (b7 o7 : Nat), A6 = some ⟨b7, o7, none⟩ ∧ (0 ≤ n ∧ n < ((n7 : Nat) : Int)) ∧
                                          (∃ (A7 : Option Addr) (n8 c7 : Nat), cel H_2 b7 (o7 + Int.toNat n * 1) = some (.slice A7 n8 c7) ∧ (∃ (I_2 : Int → Hp → Prop) (m_2 : Int → Hp → Nat), I_2 ((n8 : Nat) : Int) H_2 ∧
                                              (∀ (i : Int) (j_2 : Nat → Value) (H_3 : Hp), I_2 i H_3 → (∃ (b8 o8 : Nat), t = some ⟨b8, o8, none⟩ ∧ (∃ (A8 : Option Addr) (n9 c8 : Nat), cel H_3 b8 (o8 + 2) = some (.slice A8 n9 c8) ∧ (∃ (b9 o9 : Nat), A8 = some ⟨b9, o9, none⟩ ∧ (0 ≤ n ∧ n < ((n9 : Nat) : Int)) ∧
                                                      (∃ (A9 : Option Addr) (n10 c9 : Nat), cel H_3 b9 (o9 + Int.toNat n * 1) = some (.slice A9 n10 c9) ∧ (((decide (i < ((n10 : Nat) : Int))) = true → (∃ (b10 o10 : Nat), t = some ⟨b10, o10, none⟩ ∧ (∃ (A10 : Option Addr) (n11 c10 : Nat), cel H_3 b10 (o10 + 2) = some (.slice A10 n11 c10) ∧ (∃ (b11 o11 : Nat), A10 = some ⟨b11, o11, none⟩ ∧ (0 ≤ n ∧ n < ((n11 : Nat) : Int)) ∧
                                                                  (∃ (A11 : Option Addr) (n12 c11 : Nat), cel H_3 b11 (o11 + Int.toNat n * 1) = some (.slice A11 n12 c11) ∧ (∃ (b12 o12 : Nat), A11 = some ⟨b12, o12, none⟩ ∧ (0 ≤ i ∧ i < ((n12 : Nat) : Int)) ∧
                                                                      (∃ (x2 : Int), cel H_3 b12 (o12 + Int.toNat i * 1) = some (.int .u8 x2) ∧ ((0 ≤ n ∧ (0 : Int) < 55) ∧
                                                                          (((-9223372036854775808) ≤ 200 + (n % 55) ∧ 200 + (n % 55) ≤ 9223372036854775807) ∧
                                                                            (((!decide (x2 = (IntKind.wrap .u8 (200 + (n % 55))))) = true → (R (.bool false) H_3)) ∧
                                                                              ((!decide (x2 = (IntKind.wrap .u8 (200 + (n % 55))))) = false → (((-9223372036854775808) ≤ i + 1 ∧ i + 1 ≤ 9223372036854775807) ∧
                                                                                (I_2 (i + 1) H_3 ∧ m_2 (i + 1) H_3 < m_2 i H_3))))))))))))) ∧
                                                          ((decide (i < ((n10 : Nat) : Int))) = false → (((-9223372036854775808) ≤ n + 1 ∧ n + 1 ≤ 9223372036854775807) ∧
                                                              (I_ (n + 1) H_3 ∧ m_ (n + 1) H_3 < m_ n H_))))))))))))))))))))))))))) ∧
          ((decide (n < ((n2 : Nat) : Int))) = false → (R (.bool true) H_))))))
theorem f45.vc (φ : Fx) (t : Option Addr) (H : Hp) (R : Value → Hp → Prop) : fnW cx φ Try.f45 f45.an [.pointer t] H R = f45.VC φ t H R := by kernel_rfl
theorem f45.of {φ : Fx} {t : Option Addr} {H : Hp} {R : Value → Hp → Prop} (h : f45.VC φ t H R) : HCalls cx.P φ 45 [.pointer t] H R :=
  fnW_calls cx_ok (show cx.P.funcs[45]? = some Try.f45 by kernel_rfl) (by rw [f45.vc]; exact h)

/-! ### 46 (*winnow/winnowlaw2.Taken).ends -/
def f46.an : An := .seq (.reg (.op false (.done))) (.seq (.seq (.reg (.op false (.done))) (.blk (.loop [(3, false, [.int .i64])] (.seq (.seq (.reg (.op false (.op false (.op false (.op false (.op false (.op false (.op false (.done))))))))) (.cond (.nil) (.nil))) (.seq (.blk (.reg (.op false (.op false (.op false (.done)))))) (.reg (.op false (.op false (.op false (.done)))))))))) (.seq (.reg (.op false (.op false (.op false (.done))))) (.nil)))
def f46.VC (φ : Fx) (t : Option Addr) (H : Hp) (R : Value → Hp → Prop) : Prop :=
  ∃ (I_ : Int → Hp → Prop) (m_ : Int → Hp → Nat), I_ 0 H ∧
  (∀ (n : Int) (j_ : Nat → Value) (H_ : Hp), I_ n H_ → (∃ (b o : Nat), t = some ⟨b, o, none⟩ ∧ (∃ (A : Option Addr) (n2 c : Nat), cel H_ b o = some (.slice A n2 c) ∧ (((decide (n < ((n2 : Nat) : Int))) = true → (HCalls cx.P φ 112 [.pointer t, .int .i64 n] H_ (fun v H_2 => v = .tuple #[] ∧ (((-9223372036854775808) ≤ n + 2 ∧ n + 2 ≤ 9223372036854775807) ∧
                  (I_ (n + 2) H_2 ∧ m_ (n + 2) H_2 < m_ n H_))))) ∧
          ((decide (n < ((n2 : Nat) : Int))) = false → (HCalls cx.P φ 45 [.pointer t] H_ (fun v2 H_3 => ∃ (x : Bool), v2 = .bool x ∧ (R (.bool x) H_3))))))))
theorem f46.vc (φ : Fx) (t : Option Addr) (H : Hp) (R : Value → Hp → Prop) : fnW cx φ Try.f46 f46.an [.pointer t] H R = f46.VC φ t H R := by kernel_rfl
theorem f46.of {φ : Fx} {t : Option Addr} {H : Hp} {R : Value → Hp → Prop} (h : f46.VC φ t H R) : HCalls cx.P φ 46 [.pointer t] H R :=
  fnW_calls cx_ok (show cx.P.funcs[46]? = some Try.f46 by kernel_rfl) (by rw [f46.vc]; exact h)

/-! ### 5 winnow/winnowlaw2.NumsCursor -/
def f5.an : An := .seq (.reg (.op false (.done))) (.seq (.reg (.op false (.op false (.op false (.done))))) (.seq (.reg (.op false (.op false (.op false (.op false (.op false (.op false (.done)))))))) (.seq (.seq (.join [(32, false, [.bool])] (.reg (.op false (.op false (.op false (.split 27 (.op false (.op false (.op false (.op false (.op false (.done)))))) (.op false (.op false (.op false (.op false (.op false (.done)))))))))))) (.cond (.seq (.reg (.op false (.done))) (.nil)) (.nil))) (.seq (.reg (.op false (.op false (.op false (.done))))) (.seq (.seq (.reg (.op false (.done))) (.blk (.loop [(8, false, [.int .i64])] (.seq (.seq (.reg (.op false (.op false (.op false (.op false (.done)))))) (.cond (.nil) (.nil))) (.seq (.blk (.reg (.op false (.op false (.op false (.op false (.done))))))) (.reg (.op false (.op false (.op false (.done)))))))))) (.seq (.reg (.op false (.done))) (.seq (.reg (.op false (.done))) (.seq (.reg (.op false (.op false (.op false (.done))))) (.seq (.reg (.op false (.op false (.op false (.done))))) (.seq (.seq (.join [(73, false, [.bool])] (.reg (.op false (.op false (.op false (.op false (.op false (.op false (.split 53 (.op false (.op false (.op false (.op false (.op false (.op false (.op false (.op false (.op false (.op false (.op false (.op false (.op false (.op false (.op false (.op false (.op false (.op false (.op false (.op false (.done))))))))))))))))))))) (.op false (.op false (.op false (.op false (.op false (.op false (.op false (.split 60 (.op false (.op false (.op false (.op false (.op false (.op false (.op false (.op false (.op false (.op false (.op false (.op false (.op false (.done)))))))))))))) (.op false (.op false (.op false (.op false (.op false (.op false (.op false (.split 67 (.op false (.op false (.op false (.op false (.op false (.op false (.done))))))) (.op false (.op false (.op false (.op false (.op false (.op false (.done)))))))))))))))))))))))))))))))) (.cond (.seq (.reg (.op false (.done))) (.nil)) (.nil))) (.seq (.reg (.op false (.op false (.op false (.done))))) (.seq (.seq (.reg (.op false (.done))) (.blk (.loop [(14, false, [.int .i64])] (.seq (.seq (.reg (.op false (.op false (.op false (.op false (.done)))))) (.cond (.nil) (.nil))) (.seq (.blk (.seq (.reg (.op false (.op false (.op false (.op false (.op false (.op false (.op false (.op false (.op false (.done))))))))))) (.seq (.reg (.op false (.op false (.op false (.op false (.op false (.op false (.op false (.op false (.op false (.done))))))))))) (.seq (.reg (.op false (.op false (.op false (.op false (.op false (.op false (.op false (.op false (.op false (.done))))))))))) (.seq (.join [(120, false, [.bool])] (.reg (.op false (.op false (.op false (.split 108 (.op false (.op false (.op false (.op false (.op false (.op false (.op false (.op false (.op false (.op false (.op false (.op false (.done))))))))))))) (.op false (.op false (.op false (.op false (.split 112 (.op false (.op false (.op false (.op false (.op false (.op false (.op false (.op false (.done))))))))) (.op false (.op false (.op false (.op false (.split 116 (.op false (.op false (.op false (.op false (.done))))) (.op false (.op false (.op false (.op false (.done))))))))))))))))))))) (.cond (.seq (.reg (.op false (.done))) (.nil)) (.nil))))))) (.reg (.op false (.op false (.op false (.done)))))))))) (.seq (.reg (.op false (.op false (.op false (.done))))) (.nil))))))))))))))
def f5.VC (φ : Fx) (bA : Option Addr) (bn bc : Nat) (stepsA : Option Addr) (stepsn stepsc : Nat) (H : Hp) (R : Value → Hp → Prop) : Prop :=
  HCalls cx.P φ 36 [.slice bA bn bc] H (fun v H_ => ∃ (A : Option Addr) (n c : Nat), v = .slice A n c ∧ ((0 ≤ ((bn : Nat) : Int) ∧ ((bn : Nat) : Int) ≤ ((c : Nat) : Int)) ∧
      (HCalls cx.P φ 37 [.slice A (Int.toNat ((bn : Nat) : Int)) c] H_ (fun v2 H_2 => ∃ (x : Option Addr), v2 = .pointer x ∧ (∃ M_ : Bool → Hp → Prop, (((Option.isNone x) = true → (M_ true H_2)) ∧
              ((Option.isNone x) = false → (HCalls cx.P φ 38 [.slice A n c, .slice bA bn bc] H_2 (fun v3 H_3 => ∃ (x2 : Bool), v3 = .bool x2 ∧ (M_ (!x2) H_3))))) ∧
            (∀ (x3 : Bool) (j_ : Nat → Value) (H_4 : Hp), M_ x3 H_4 → ((x3 = true → (R (.bool false) H_4)) ∧
                (x3 = false → (HCalls cx.P φ 39 [.slice bA bn bc] H_4 (fun v4 H_5 => ∃ (x4 : Option Addr), v4 = .pointer x4 ∧ (∃ (I_ : Int → Hp → Prop) (m_ : Int → Hp → Nat), I_ 0 H_5 ∧
                        (∀ (i : Int) (j_2 : Nat → Value) (H_6 : Hp), I_ i H_6 → (((decide (i < ((n : Nat) : Int))) = true → (∃ (b o : Nat), A = some ⟨b, o, none⟩ ∧ (0 ≤ i ∧ i < ((n : Nat) : Int)) ∧
                                (canPut H_6 b (o + Int.toNat i * 1) [.int .u8 255] ∧
                                  (let H_7 : Hp := hput H_6 b (o + Int.toNat i * 1) [.int .u8 255];
                                    (((-9223372036854775808) ≤ i + 1 ∧ i + 1 ≤ 9223372036854775807) ∧
                                      (I_ (i + 1) H_7 ∧ m_ (i + 1) H_7 < m_ i H_6)))))) ∧
                            ((decide (i < ((n : Nat) : Int))) = false → (let H_8 : Hp := Array.push H_6 (.cells #[.slice none 0 0, .int .i64 0, .int .i64 0] 68 (0, 0));
                                (let H_9 : Hp := Array.push H_8 (.cells #[.slice none 0 0, .int .i64 0, .bool false, .int .i64 0, .int .i64 0] 72 (0, 0));
                                  (∃ M_2 : Bool → Hp → Prop, (HCalls cx.P φ 40 [.pointer x] H_9 (fun v5 H_10 => ∃ (x5 : Int), v5 = .int .i64 x5 ∧ (HCalls cx.P φ 41 [.pointer x4] H_10 (fun v6 H_11 => ∃ (x6 : Int), v6 = .int .i64 x6 ∧ (((!decide (x5 = x6)) = true → (M_2 true H_11)) ∧
                                              ((!decide (x5 = x6)) = false → (HCalls cx.P φ 42 [.pointer x] H_11 (fun v7 H_12 => ∃ (x7 : Int), ∃ (x8 : Int), v7 = .agg #[.int .i64 x7, .int .i64 x8] ∧ (HCalls cx.P φ 43 [.pointer x4] H_12 (fun v8 H_13 => ∃ (x9 : Int), ∃ (x10 : Int), v8 = .agg #[.int .i64 x9, .int .i64 x10] ∧ (fitW cx 70 [.int .i64 x7, .int .i64 x8] [.int .i64 x9, .int .i64 x10] ∧ (((!((decide (x7 = x9) && (decide (x8 = x10) && true)))) = true → (M_2 true H_13)) ∧
                                                            ((!((decide (x7 = x9) && (decide (x8 = x10) && true)))) = false → (HCalls cx.P φ 42 [.pointer none] H_13 (fun v9 H_14 => ∃ (x11 : Int), ∃ (x12 : Int), v9 = .agg #[.int .i64 x11, .int .i64 x12] ∧ (HCalls cx.P φ 43 [.pointer none] H_14 (fun v10 H_15 => ∃ (x13 : Int), ∃ (x14 : Int), v10 = .agg #[.int .i64 x13, .int .i64 x14] ∧ (fitW cx 70 [.int .i64 x11, .int .i64 x12] [.int .i64 x13, .int .i64 x14] ∧ (((!((decide (x11 = x13) && (decide (x12 = x14) && true)))) = true → (M_2 true H_15)) ∧
                                                                          ((!((decide (x11 = x13) && (decide (x12 = x14) && true)))) = false → (HCalls cx.P φ 42 [.pointer (some ⟨Array.size H_6, 0, none⟩)] H_15 (fun v11 H_16 => ∃ (x15 : Int), ∃ (x16 : Int), v11 = .agg #[.int .i64 x15, .int .i64 x16] ∧ (HCalls cx.P φ 43 [.pointer (some ⟨Array.size H_8, 0, none⟩)] H_16 (fun v12 H_17 => ∃ (x17 : Int), ∃ (x18 : Int), v12 = .agg #[.int .i64 x17, .int .i64 x18] ∧ (fitW cx 70 [.int .i64 x15, .int .i64 x16] [.int .i64 x17, .int .i64 x18] ∧ (M_2 (!((decide (x15 = x17) && (decide (x16 = x18) && true)))) H_17)))))))))))))))))))))))))) ∧
                                    (∀ (x19 : Bool) (j_3 : Nat → Value) (H_18 : Hp), M_2 x19 H_18 → ((x19 = true → (R (.bool false) H_18)) ∧
                                        (x19 = false → (let H_19 : Hp := Array.push H_18 (.cells #[.slice none 0 0, .slice none 0 0, .slice none 0 0] 78 (0, 0));
                                            (∃ (I_2 : Int → Hp → Prop) (m_2 : Int → Hp → Nat), I_2 0 H_19 ∧
                                              (∀ (i2 : Int) (j_4 : Nat → Value) (H_20 : Hp), I_2 i2 H_20 → (((decide (i2 < ((stepsn : Nat) : Int))) = true → (∃ (b2 o2 : Nat), stepsA = some ⟨b2, o2, none⟩ ∧ (0 ≤ i2 ∧ i2 < ((stepsn : Nat) : Int)) ∧
                                                      (∃ (Op : Int), cel H_20 b2 (o2 + Int.toNat i2 * 2) = some (.int .i64 Op) ∧
                                                        ∃ (N : Int), cel H_20 b2 (o2 + Int.toNat i2 * 2 + 1) = some (.int .i64 N) ∧ (HCalls cx.P φ 44 [.pointer (some ⟨Array.size H_18, 0, none⟩), .pointer x, .pointer x4, .agg #[.int .i64 Op, .int .i64 N]] H_20 (fun v13 H_21 => ∃ (x20 : Bool), v13 = .bool x20 ∧ (∃ (b3 o3 : Nat), stepsA = some ⟨b3, o3, none⟩ ∧ (0 ≤ i2 ∧ i2 < ((stepsn : Nat) : Int)) ∧
                                                              (∃ (Op2 : Int), cel H_21 b3 (o3 + Int.toNat i2 * 2) = some (.int .i64 Op2) ∧
                                                                ∃ (N2 : Int), cel H_21 b3 (o3 + Int.toNat i2 * 2 + 1) = some (.int .i64 N2) ∧ (HCalls cx.P φ 44 [.pointer (some ⟨Array.size H_18, 0, none⟩), .pointer none, .pointer none, .agg #[.int .i64 Op2, .int .i64 N2]] H_21 (fun v14 H_22 => ∃ (x21 : Bool), v14 = .bool x21 ∧ (∃ (b4 o4 : Nat), stepsA = some ⟨b4, o4, none⟩ ∧ (0 ≤ i2 ∧ i2 < ((stepsn : Nat) : Int)) ∧
                                                                      (∃ (Op3 : Int), cel H_22 b4 (o4 + Int.toNat i2 * 2) = some (.int .i64 Op3) ∧
                                                                        ∃ (N3 : Int), cel H_22 b4 (o4 + Int.toNat i2 * 2 + 1) = some (.int .i64 N3) ∧ (HCalls cx.P φ 44 [.pointer (some ⟨Array.size H_18, 0, none⟩), .pointer (some ⟨Array.size H_6, 0, none⟩), .pointer (some ⟨Array.size H_8, 0, none⟩), .agg #[.int .i64 Op3, .int .i64 N3]] H_22 (fun v15 H_23 => ∃ (x22 : Bool), v15 = .bool x22 ∧ (∃ M_3 : Bool → Hp → Prop, (((!x20) = true → (M_3 true H_23)) ∧
                                                                                ((!x20) = false → (((!x21) = true → (M_3 true H_23)) ∧
                                                                                ((!x21) = false → (((!x22) = true → (M_3 true H_23)) ∧
                                                                                ((!x22) = false → (HCalls cx.P φ 45 [.pointer (some ⟨Array.size H_18, 0, none⟩)] H_23 (fun v16 H_24 => ∃ (x23 : Bool), v16 = .bool x23 ∧ (M_3 (!x23) H_24))))))))) ∧
                                                                              (∀ (x24 : Bool) (j_5 : Nat → Value) (H_25 : Hp), M_3 x24 H_25 → ((x24 = true → (R (.bool false) H_25)) ∧
                                                                                (x24 = false → (((-9223372036854775808) ≤ i2 + 1 ∧ i2 + 1 ≤ 9223372036854775807) ∧
                                                                                (I_2 (i2 + 1) H_25 ∧ m_2 (i2 + 1) H_25 < m_2 i2 H_20))))))))))))))))))) ∧
                                                  ((decide (i2 < ((stepsn : Nat) : Int))) = false → (HCalls cx.P φ 46 [.pointer (some ⟨Array.size H_18, 0, none⟩)] H_20 (fun v17 H_26 => ∃ (x25 : Bool), v17 = .bool x25 ∧ (R (.bool x25) H_26))))))))))))))))))))))))))))
theorem f5.vc (φ : Fx) (bA : Option Addr) (bn bc : Nat) (stepsA : Option Addr) (stepsn stepsc : Nat) (H : Hp) (R : Value → Hp → Prop) : fnW cx φ Try.f5 f5.an [.slice bA bn bc, .slice stepsA stepsn stepsc] H R = f5.VC φ bA bn bc stepsA stepsn stepsc H R := by kernel_rfl
theorem f5.of {φ : Fx} {bA : Option Addr} {bn bc : Nat} {stepsA : Option Addr} {stepsn stepsc : Nat} {H : Hp} {R : Value → Hp → Prop} (h : f5.VC φ bA bn bc stepsA stepsn stepsc H R) : HCalls cx.P φ 5 [.slice bA bn bc, .slice stepsA stepsn stepsc] H R :=
  fnW_calls cx_ok (show cx.P.funcs[5]? = some Try.f5 by kernel_rfl) (by rw [f5.vc]; exact h)
end Go.Proofs.Ytkkjjjgcfnhabaa.Eng

