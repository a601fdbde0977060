/- Part HTb of the proof of the claim in this folder: a way to walk code, and the contracts of the functions that the law reaches. Conditions: none. -/
import Derived.Test.YtkkjjjgcfnhabaaHTa
import Derived.Test.YtkkjjjgcfnhabaaEngB
set_option linter.unusedVariables false
set_option maxRecDepth 100000
set_option linter.unusedSimpArgs false
set_option maxRecDepth 10000
namespace Go.Proofs.Ytkkjjjgcfnhabaa.Eng
open Go Go.Proofs
def f123.an : An := .seq (.reg (.op false (.done))) (.seq (.reg (.op false (.done))) (.seq (.seq (.reg (.op false (.op false (.op false (.op false (.done)))))) (.blk (.loop [(3, false, [.slc]), (4, false, [.int .i64])] (.seq (.seq (.reg (.op false (.op false (.done)))) (.cond (.nil) (.nil))) (.seq (.blk (.seq (.reg (.op false (.op false (.op false (.op false (.op false (.done))))))) (.join [(3, false, [.slc])] (.cond (.seq (.reg (.op false (.op false (.op false (.op false (.op false (.op false (.op false (.done))))))))) (.seq (.reg (.op false (.op false (.op false (.op false (.done)))))) (.reg (.op false (.op false (.op false (.op false (.op false (.done))))))))) (.nil))))) (.reg (.op false (.op false (.op false (.done)))))))))) (.seq (.reg (.op false (.op false (.done)))) (.seq (.reg (.op false (.op false (.done)))) (.nil)))))
def f123.VC (φ : Fx) (countsA : Option Addr) (countsn countsc : Nat) (H : Hp) (R : Value → Hp → Prop) : Prop :=
  ((-9223372036854775808) ≤ ((countsn : Nat) : Int) - 1 ∧ ((countsn : Nat) : Int) - 1 ≤ 9223372036854775807) ∧
  (∃ (I_ : Option Addr → Nat → Nat → Int → Hp → Prop) (m_ : Option Addr → Nat → Nat → Int → Hp → Nat), I_ none 0 0 (((countsn : Nat) : Int) - 1) H ∧
    (∀ (lA : Option Addr) (ln lc : Nat) (i : Int) (j_ : Nat → Value) (H_ : Hp), I_ lA ln lc i H_ → (((decide (0 ≤ i)) = true → (∃ (b o : Nat), countsA = some ⟨b, o, none⟩ ∧ (0 ≤ i ∧ i < ((countsn : Nat) : Int)) ∧
            (∃ (x : Int), cel H_ b (o + Int.toNat i * 1) = some (.int .i64 x) ∧ (∃ M_ : Option Addr → Nat → Nat → Hp → Prop, (((decide (0 < x)) = true → (∃ (b2 o2 : Nat), countsA = some ⟨b2, o2, none⟩ ∧ (0 ≤ i ∧ i < ((countsn : Nat) : Int)) ∧
                      (∃ (x2 : Int), cel H_ b2 (o2 + Int.toNat i * 1) = some (.int .i64 x2) ∧ (let H_2 : Hp := Array.push H_ (.cells #[.int .i64 0, .int .u8 0, .int .u8 0, .int .u8 0, .int .u8 0, .int .u8 0, .int .u8 0, .int .u8 0, .int .u8 0, .int .u8 0, .int .u8 0, .int .u8 0, .int .u8 0, .int .u8 0, .int .u8 0, .int .u8 0, .int .u8 0, .int .u8 0, .int .u8 0, .int .u8 0, .int .u8 0, .int .u8 0, .int .u8 0, .int .u8 0, .int .u8 0, .int .u8 0, .int .u8 0, .int .u8 0, .int .u8 0, .int .u8 0, .int .u8 0, .int .u8 0, .int .u8 0, .int .u8 0, .int .u8 0, .int .u8 0, .int .u8 0, .int .u8 0, .int .u8 0, .int .u8 0, .int .u8 0, .int .u8 0, .int .u8 0, .int .u8 0, .int .u8 0, .int .u8 0, .int .u8 0, .int .u8 0, .int .u8 0, .int .u8 0, .int .u8 0, .int .u8 0, .int .u8 0, .int .u8 0, .int .u8 0, .int .u8 0, .int .u8 0, .int .u8 0, .int .u8 0, .int .u8 0, .int .u8 0, .int .u8 0, .int .u8 0, .int .u8 0, .int .u8 0, .int .u8 0, .int .u8 0, .int .u8 0, .int .u8 0, .int .u8 0, .int .u8 0, .int .u8 0, .int .u8 0, .int .u8 0, .int .u8 0, .int .u8 0, .int .u8 0, .int .u8 0, .int .u8 0, .int .u8 0, .int .u8 0, .int .u8 0, .int .u8 0, .int .u8 0, .int .u8 0, .int .u8 0, .int .u8 0, .int .u8 0, .int .u8 0, .int .u8 0, .int .u8 0, .int .u8 0, .int .u8 0, .int .u8 0, .int .u8 0, .int .u8 0, .int .u8 0, .int .u8 0, .int .u8 0, .int .u8 0, .int .u8 0, .int .u8 0, .int .u8 0, .int .u8 0, .int .u8 0, .int .u8 0, .int .u8 0, .int .u8 0, .int .u8 0, .int .u8 0, .int .u8 0, .int .u8 0, .int .u8 0, .int .u8 0, .int .u8 0, .int .u8 0, .int .u8 0, .int .u8 0, .int .u8 0, .int .u8 0, .int .u8 0, .int .u8 0, .int .u8 0, .int .u8 0, .int .u8 0, .int .u8 0, .int .u8 0, .int .u8 0, .int .u8 0, .int .u8 0, .int .u8 0, .int .u8 0, .int .u8 0, .int .u8 0, .int .u8 0, .int .u8 0, .int .u8 0, .int .u8 0, .int .u8 0, .int .u8 0, .int .u8 0, .int .u8 0, .int .u8 0, .int .u8 0, .int .u8 0, .int .u8 0, .int .u8 0, .int .u8 0, .int .u8 0, .int .u8 0, .int .u8 0, .int .u8 0, .int .u8 0, .int .u8 0, .int .u8 0, .int .u8 0, .int .u8 0, .int .u8 0, .int .u8 0, .int .u8 0, .int .u8 0, .int .u8 0, .int .u8 0, .int .u8 0, .int .u8 0, .int .u8 0, .int .u8 0, .int .u8 0, .int .u8 0, .int .u8 0, .int .u8 0, .int .u8 0, .int .u8 0, .int .u8 0, .int .u8 0, .int .u8 0, .int .u8 0, .int .u8 0, .int .u8 0, .int .u8 0, .int .u8 0, .int .u8 0, .int .u8 0, .int .u8 0, .int .u8 0, .int .u8 0, .int .u8 0, .int .u8 0, .int .u8 0, .int .u8 0, .int .u8 0, .int .u8 0, .int .u8 0, .int .u8 0, .int .u8 0, .int .u8 0, .int .u8 0, .int .u8 0, .int .u8 0, .int .u8 0, .int .u8 0, .int .u8 0, .int .u8 0, .int .u8 0, .int .u8 0, .int .u8 0, .int .u8 0, .int .u8 0, .int .u8 0, .int .u8 0, .int .u8 0, .int .u8 0, .int .u8 0, .int .u8 0, .int .u8 0, .int .u8 0, .int .u8 0, .int .u8 0, .int .u8 0, .int .u8 0, .int .u8 0, .int .u8 0, .int .u8 0, .int .u8 0, .int .u8 0, .int .u8 0, .int .u8 0, .int .u8 0, .int .u8 0, .int .u8 0, .int .u8 0, .int .u8 0, .int .u8 0, .int .u8 0, .int .u8 0, .int .u8 0, .int .u8 0, .int .u8 0, .int .u8 0, .int .u8 0, .int .u8 0, .int .u8 0, .int .u8 0, .int .u8 0, .int .u8 0, .int .u8 0, .int .u8 0, .int .u8 0, .int .u8 0, .int .u8 0, .int .u8 0, .int .u8 0, .int .u8 0, .int .u8 0, .int .u8 0, .int .u8 0, .int .u8 0] 180 (0, 0));
                          (canPut H_2 (Array.size H_) 0 [.int .i64 x2, .int .u8 0, .int .u8 0, .int .u8 0, .int .u8 0, .int .u8 0, .int .u8 0, .int .u8 0, .int .u8 0, .int .u8 0, .int .u8 0, .int .u8 0, .int .u8 0, .int .u8 0, .int .u8 0, .int .u8 0, .int .u8 0, .int .u8 0, .int .u8 0, .int .u8 0, .int .u8 0, .int .u8 0, .int .u8 0, .int .u8 0, .int .u8 0, .int .u8 0, .int .u8 0, .int .u8 0, .int .u8 0, .int .u8 0, .int .u8 0, .int .u8 0, .int .u8 0, .int .u8 0, .int .u8 0, .int .u8 0, .int .u8 0, .int .u8 0, .int .u8 0, .int .u8 0, .int .u8 0, .int .u8 0, .int .u8 0, .int .u8 0, .int .u8 0, .int .u8 0, .int .u8 0, .int .u8 0, .int .u8 0, .int .u8 0, .int .u8 0, .int .u8 0, .int .u8 0, .int .u8 0, .int .u8 0, .int .u8 0, .int .u8 0, .int .u8 0, .int .u8 0, .int .u8 0, .int .u8 0, .int .u8 0, .int .u8 0, .int .u8 0, .int .u8 0, .int .u8 0, .int .u8 0, .int .u8 0, .int .u8 0, .int .u8 0, .int .u8 0, .int .u8 0, .int .u8 0, .int .u8 0, .int .u8 0, .int .u8 0, .int .u8 0, .int .u8 0, .int .u8 0, .int .u8 0, .int .u8 0, .int .u8 0, .int .u8 0, .int .u8 0, .int .u8 0, .int .u8 0, .int .u8 0, .int .u8 0, .int .u8 0, .int .u8 0, .int .u8 0, .int .u8 0, .int .u8 0, .int .u8 0, .int .u8 0, .int .u8 0, .int .u8 0, .int .u8 0, .int .u8 0, .int .u8 0, .int .u8 0, .int .u8 0, .int .u8 0, .int .u8 0, .int .u8 0, .int .u8 0, .int .u8 0, .int .u8 0, .int .u8 0, .int .u8 0, .int .u8 0, .int .u8 0, .int .u8 0, .int .u8 0, .int .u8 0, .int .u8 0, .int .u8 0, .int .u8 0, .int .u8 0, .int .u8 0, .int .u8 0, .int .u8 0, .int .u8 0, .int .u8 0, .int .u8 0, .int .u8 0, .int .u8 0, .int .u8 0, .int .u8 0, .int .u8 0, .int .u8 0, .int .u8 0, .int .u8 0, .int .u8 0, .int .u8 0, .int .u8 0, .int .u8 0, .int .u8 0, .int .u8 0, .int .u8 0, .int .u8 0, .int .u8 0, .int .u8 0, .int .u8 0, .int .u8 0, .int .u8 0, .int .u8 0, .int .u8 0, .int .u8 0, .int .u8 0, .int .u8 0, .int .u8 0, .int .u8 0, .int .u8 0, .int .u8 0, .int .u8 0, .int .u8 0, .int .u8 0, .int .u8 0, .int .u8 0, .int .u8 0, .int .u8 0, .int .u8 0, .int .u8 0, .int .u8 0, .int .u8 0, .int .u8 0, .int .u8 0, .int .u8 0, .int .u8 0, .int .u8 0, .int .u8 0, .int .u8 0, .int .u8 0, .int .u8 0, .int .u8 0, .int .u8 0, .int .u8 0, .int .u8 0, .int .u8 0, .int .u8 0, .int .u8 0, .int .u8 0, .int .u8 0, .int .u8 0, .int .u8 0, .int .u8 0, .int .u8 0, .int .u8 0, .int .u8 0, .int .u8 0, .int .u8 0, .int .u8 0, .int .u8 0, .int .u8 0, .int .u8 0, .int .u8 0, .int .u8 0, .int .u8 0, .int .u8 0, .int .u8 0, .int .u8 0, .int .u8 0, .int .u8 0, .int .u8 0, .int .u8 0, .int .u8 0, .int .u8 0, .int .u8 0, .int .u8 0, .int .u8 0, .int .u8 0, .int .u8 0, .int .u8 0, .int .u8 0, .int .u8 0, .int .u8 0, .int .u8 0, .int .u8 0, .int .u8 0, .int .u8 0, .int .u8 0, .int .u8 0, .int .u8 0, .int .u8 0, .int .u8 0, .int .u8 0, .int .u8 0, .int .u8 0, .int .u8 0, .int .u8 0, .int .u8 0, .int .u8 0, .int .u8 0, .int .u8 0, .int .u8 0, .int .u8 0, .int .u8 0, .int .u8 0, .int .u8 0, .int .u8 0, .int .u8 0, .int .u8 0, .int .u8 0, .int .u8 0, .int .u8 0, .int .u8 0, .int .u8 0, .int .u8 0, .int .u8 0, .int .u8 0, .int .u8 0, .int .u8 0, .int .u8 0, .int .u8 0, .int .u8 0, .int .u8 0] ∧
                            (let H_3 : Hp := hput H_2 (Array.size H_) 0 [.int .i64 x2, .int .u8 0, .int .u8 0, .int .u8 0, .int .u8 0, .int .u8 0, .int .u8 0, .int .u8 0, .int .u8 0, .int .u8 0, .int .u8 0, .int .u8 0, .int .u8 0, .int .u8 0, .int .u8 0, .int .u8 0, .int .u8 0, .int .u8 0, .int .u8 0, .int .u8 0, .int .u8 0, .int .u8 0, .int .u8 0, .int .u8 0, .int .u8 0, .int .u8 0, .int .u8 0, .int .u8 0, .int .u8 0, .int .u8 0, .int .u8 0, .int .u8 0, .int .u8 0, .int .u8 0, .int .u8 0, .int .u8 0, .int .u8 0, .int .u8 0, .int .u8 0, .int .u8 0, .int .u8 0, .int .u8 0, .int .u8 0, .int .u8 0, .int .u8 0, .int .u8 0, .int .u8 0, .int .u8 0, .int .u8 0, .int .u8 0, .int .u8 0, .int .u8 0, .int .u8 0, .int .u8 0, .int .u8 0, .int .u8 0, .int .u8 0, .int .u8 0, .int .u8 0, .int .u8 0, .int .u8 0, .int .u8 0, .int .u8 0, .int .u8 0, .int .u8 0, .int .u8 0, .int .u8 0, .int .u8 0, .int .u8 0, .int .u8 0, .int .u8 0, .int .u8 0, .int .u8 0, .int .u8 0, .int .u8 0, .int .u8 0, .int .u8 0, .int .u8 0, .int .u8 0, .int .u8 0, .int .u8 0, .int .u8 0, .int .u8 0, .int .u8 0, .int .u8 0, .int .u8 0, .int .u8 0, .int .u8 0, .int .u8 0, .int .u8 0, .int .u8 0, .int .u8 0, .int .u8 0, .int .u8 0, .int .u8 0, .int .u8 0, .int .u8 0, .int .u8 0, .int .u8 0, .int .u8 0, .int .u8 0, .int .u8 0, .int .u8 0, .int .u8 0, .int .u8 0, .int .u8 0, .int .u8 0, .int .u8 0, .int .u8 0, .int .u8 0, .int .u8 0, .int .u8 0, .int .u8 0, .int .u8 0, .int .u8 0, .int .u8 0, .int .u8 0, .int .u8 0, .int .u8 0, .int .u8 0, .int .u8 0, .int .u8 0, .int .u8 0, .int .u8 0, .int .u8 0, .int .u8 0, .int .u8 0, .int .u8 0, .int .u8 0, .int .u8 0, .int .u8 0, .int .u8 0, .int .u8 0, .int .u8 0, .int .u8 0, .int .u8 0, .int .u8 0, .int .u8 0, .int .u8 0, .int .u8 0, .int .u8 0, .int .u8 0, .int .u8 0, .int .u8 0, .int .u8 0, .int .u8 0, .int .u8 0, .int .u8 0, .int .u8 0, .int .u8 0, .int .u8 0, .int .u8 0, .int .u8 0, .int .u8 0, .int .u8 0, .int .u8 0, .int .u8 0, .int .u8 0, .int .u8 0, .int .u8 0, .int .u8 0, .int .u8 0, .int .u8 0, .int .u8 0, .int .u8 0, .int .u8 0, .int .u8 0, .int .u8 0, .int .u8 0, .int .u8 0, .int .u8 0, .int .u8 0, .int .u8 0, .int .u8 0, .int .u8 0, .int .u8 0, .int .u8 0, .int .u8 0, .int .u8 0, .int .u8 0, .int .u8 0, .int .u8 0, .int .u8 0, .int .u8 0, .int .u8 0, .int .u8 0, .int .u8 0, .int .u8 0, .int .u8 0, .int .u8 0, .int .u8 0, .int .u8 0, .int .u8 0, .int .u8 0, .int .u8 0, .int .u8 0, .int .u8 0, .int .u8 0, .int .u8 0, .int .u8 0, .int .u8 0, .int .u8 0, .int .u8 0, .int .u8 0, .int .u8 0, .int .u8 0, .int .u8 0, .int .u8 0, .int .u8 0, .int .u8 0, .int .u8 0, .int .u8 0, .int .u8 0, .int .u8 0, .int .u8 0, .int .u8 0, .int .u8 0, .int .u8 0, .int .u8 0, .int .u8 0, .int .u8 0, .int .u8 0, .int .u8 0, .int .u8 0, .int .u8 0, .int .u8 0, .int .u8 0, .int .u8 0, .int .u8 0, .int .u8 0, .int .u8 0, .int .u8 0, .int .u8 0, .int .u8 0, .int .u8 0, .int .u8 0, .int .u8 0, .int .u8 0, .int .u8 0, .int .u8 0, .int .u8 0, .int .u8 0, .int .u8 0, .int .u8 0, .int .u8 0, .int .u8 0, .int .u8 0, .int .u8 0, .int .u8 0, .int .u8 0, .int .u8 0, .int .u8 0, .int .u8 0, .int .u8 0, .int .u8 0, .int .u8 0, .int .u8 0];
                              ((0 ≤ i ∧ i < ((256 : Nat) : Int)) ∧
                                (canPut H_3 (Array.size H_) (0 + 1 + Int.toNat i * 1) [.int .u8 1] ∧
                                  (let H_4 : Hp := hput H_3 (Array.size H_) (0 + 1 + Int.toNat i * 1) [.int .u8 1];
                                    (∃ (weight : Int), cel H_4 (Array.size H_) 0 = some (.int .i64 weight) ∧
                                      ∃ often : List Int, (often.length = 256 ∧ ∀ j, j < 256 → cel H_4 (Array.size H_) (0 + 1 + j) = some (.int .u8 (often.getD j 0))) ∧ (fitsN ((List.map (Value.int .u8) often ++ []) : List Value) 256
                                        (let H_5 : Hp := Array.push H_4 (.cells ((Value.int .i64 weight :: (List.map (Value.int .u8) often ++ []))).toArray 180 (0, 0));
                                          (appW cx 175 175 (Value.slice lA ln lc) (Value.slice (some (⟨Array.size H_4, 0, none⟩ : Addr)) 1 1) H_5 (fun v H_6 => ∃ (A : Option Addr) (n c : Nat), v = .slice A n c ∧ (M_ A n c H_6))))))))))))))) ∧
                  ((decide (0 < x)) = false → (M_ lA ln lc H_))) ∧
                (∀ (lA2 : Option Addr) (ln2 lc2 : Nat) (j_2 : Nat → Value) (H_7 : Hp), M_ lA2 ln2 lc2 H_7 → (((-9223372036854775808) ≤ i - 1 ∧ i - 1 ≤ 9223372036854775807) ∧
                    (I_ lA2 ln2 lc2 (i - 1) H_7 ∧ m_ lA2 ln2 lc2 (i - 1) H_7 < m_ lA ln lc i H_))))))) ∧
        ((decide (0 ≤ i)) = false → (HCalls cx.P φ 170 [.slice lA ln lc, .func (.func 171) #[] #[]] H_ (fun v2 H_8 => v2 = .tuple #[] ∧ (R (.slice lA ln lc) H_8)))))))
theorem f123.vc (φ : Fx) (countsA : Option Addr) (countsn countsc : Nat) (H : Hp) (R : Value → Hp → Prop) : fnW cx φ Try.f123 f123.an [.slice countsA countsn countsc] H R = f123.VC φ countsA countsn countsc H R := by kernel_rfl
theorem f123.of {φ : Fx} {countsA : Option Addr} {countsn countsc : Nat} {H : Hp} {R : Value → Hp → Prop} (h : f123.VC φ countsA countsn countsc H R) : HCalls cx.P φ 123 [.slice countsA countsn countsc] H R :=
  fnW_calls cx_ok (show cx.P.funcs[123]? = some Try.f123 by kernel_rfl) (by rw [f123.vc]; exact h)

def f172.an : An := .seq (.reg (.op false (.op false (.op false (.done))))) (.seq (.reg (.op false (.op false (.op false (.op false (.op false (.op false (.op false (.done))))))))) (.seq (.seq (.reg (.op false (.op false (.op false (.done))))) (.blk (.loop [(15, false, [.int .i64])] (.seq (.reg (.op false (.done))) (.seq (.cond (.nil) (.nil)) (.seq (.blk (.seq (.reg (.op false (.op false (.op false (.op false (.done)))))) (.reg (.op false (.op false (.op false (.op false (.op false (.op true (.op false (.op false (.op false (.done))))))))))))) (.reg (.op false (.op false (.done)))))))))) (.seq (.reg (.op false (.op false (.done)))) (.nil))))
def f172.VC (φ : Fx) (a : Int) (a2 : List Int) (b : Int) (b2 : List Int) (H : Hp) (R : Value → Hp → Prop) : Prop :=
  let H_ : Hp := Array.push H (.cells ((Value.int .i64 a :: (List.map (Value.int .u8) a2 ++ []))).toArray 180 (0, 0));
  (let H_2 : Hp := Array.push H_ (.cells ((Value.int .i64 b :: (List.map (Value.int .u8) b2 ++ []))).toArray 180 (0, 0));
    (let H_3 : Hp := Array.push H_2 (.cells #[.int .i64 0, .int .u8 0, .int .u8 0, .int .u8 0, .int .u8 0, .int .u8 0, .int .u8 0, .int .u8 0, .int .u8 0, .int .u8 0, .int .u8 0, .int .u8 0, .int .u8 0, .int .u8 0, .int .u8 0, .int .u8 0, .int .u8 0, .int .u8 0, .int .u8 0, .int .u8 0, .int .u8 0, .int .u8 0, .int .u8 0, .int .u8 0, .int .u8 0, .int .u8 0, .int .u8 0, .int .u8 0, .int .u8 0, .int .u8 0, .int .u8 0, .int .u8 0, .int .u8 0, .int .u8 0, .int .u8 0, .int .u8 0, .int .u8 0, .int .u8 0, .int .u8 0, .int .u8 0, .int .u8 0, .int .u8 0, .int .u8 0, .int .u8 0, .int .u8 0, .int .u8 0, .int .u8 0, .int .u8 0, .int .u8 0, .int .u8 0, .int .u8 0, .int .u8 0, .int .u8 0, .int .u8 0, .int .u8 0, .int .u8 0, .int .u8 0, .int .u8 0, .int .u8 0, .int .u8 0, .int .u8 0, .int .u8 0, .int .u8 0, .int .u8 0, .int .u8 0, .int .u8 0, .int .u8 0, .int .u8 0, .int .u8 0, .int .u8 0, .int .u8 0, .int .u8 0, .int .u8 0, .int .u8 0, .int .u8 0, .int .u8 0, .int .u8 0, .int .u8 0, .int .u8 0, .int .u8 0, .int .u8 0, .int .u8 0, .int .u8 0, .int .u8 0, .int .u8 0, .int .u8 0, .int .u8 0, .int .u8 0, .int .u8 0, .int .u8 0, .int .u8 0, .int .u8 0, .int .u8 0, .int .u8 0, .int .u8 0, .int .u8 0, .int .u8 0, .int .u8 0, .int .u8 0, .int .u8 0, .int .u8 0, .int .u8 0, .int .u8 0, .int .u8 0, .int .u8 0, .int .u8 0, .int .u8 0, .int .u8 0, .int .u8 0, .int .u8 0, .int .u8 0, .int .u8 0, .int .u8 0, .int .u8 0, .int .u8 0, .int .u8 0, .int .u8 0, .int .u8 0, .int .u8 0, .int .u8 0, .int .u8 0, .int .u8 0, .int .u8 0, .int .u8 0, .int .u8 0, .int .u8 0, .int .u8 0, .int .u8 0, .int .u8 0, .int .u8 0, .int .u8 0, .int .u8 0, .int .u8 0, .int .u8 0, .int .u8 0, .int .u8 0, .int .u8 0, .int .u8 0, .int .u8 0, .int .u8 0, .int .u8 0, .int .u8 0, .int .u8 0, .int .u8 0, .int .u8 0, .int .u8 0, .int .u8 0, .int .u8 0, .int .u8 0, .int .u8 0, .int .u8 0, .int .u8 0, .int .u8 0, .int .u8 0, .int .u8 0, .int .u8 0, .int .u8 0, .int .u8 0, .int .u8 0, .int .u8 0, .int .u8 0, .int .u8 0, .int .u8 0, .int .u8 0, .int .u8 0, .int .u8 0, .int .u8 0, .int .u8 0, .int .u8 0, .int .u8 0, .int .u8 0, .int .u8 0, .int .u8 0, .int .u8 0, .int .u8 0, .int .u8 0, .int .u8 0, .int .u8 0, .int .u8 0, .int .u8 0, .int .u8 0, .int .u8 0, .int .u8 0, .int .u8 0, .int .u8 0, .int .u8 0, .int .u8 0, .int .u8 0, .int .u8 0, .int .u8 0, .int .u8 0, .int .u8 0, .int .u8 0, .int .u8 0, .int .u8 0, .int .u8 0, .int .u8 0, .int .u8 0, .int .u8 0, .int .u8 0, .int .u8 0, .int .u8 0, .int .u8 0, .int .u8 0, .int .u8 0, .int .u8 0, .int .u8 0, .int .u8 0, .int .u8 0, .int .u8 0, .int .u8 0, .int .u8 0, .int .u8 0, .int .u8 0, .int .u8 0, .int .u8 0, .int .u8 0, .int .u8 0, .int .u8 0, .int .u8 0, .int .u8 0, .int .u8 0, .int .u8 0, .int .u8 0, .int .u8 0, .int .u8 0, .int .u8 0, .int .u8 0, .int .u8 0, .int .u8 0, .int .u8 0, .int .u8 0, .int .u8 0, .int .u8 0, .int .u8 0, .int .u8 0, .int .u8 0, .int .u8 0, .int .u8 0, .int .u8 0, .int .u8 0, .int .u8 0, .int .u8 0, .int .u8 0, .int .u8 0, .int .u8 0, .int .u8 0, .int .u8 0, .int .u8 0, .int .u8 0, .int .u8 0, .int .u8 0, .int .u8 0, .int .u8 0, .int .u8 0, .int .u8 0, .int .u8 0] 180 (0, 0));
      (∃ (x : Int), cel H_3 (Array.size H) 0 = some (.int .i64 x) ∧ (∃ (x2 : Int), cel H_3 (Array.size H_) 0 = some (.int .i64 x2) ∧ (((-9223372036854775808) ≤ x + x2 ∧ x + x2 ≤ 9223372036854775807) ∧
            (canPut H_3 (Array.size H) 0 [.int .i64 (x + x2)] ∧
              (let H_4 : Hp := hput H_3 (Array.size H) 0 [.int .i64 (x + x2)];
                (∃ x3 : List Int, (x3.length = 256 ∧ ∀ j, j < 256 → cel H_4 (Array.size H_) (0 + 1 + j) = some (.int .u8 (x3.getD j 0))) ∧ (∃ (I_ : Int → Hp → Prop) (m_ : Int → Hp → Nat), I_ 0 H_4 ∧
                    (∀ (x4 : Int) (j_ : Nat → Value) (H_5 : Hp), I_ x4 H_5 → (((decide (x4 < 256)) = true → ((0 ≤ x4 ∧ x4 < ((256 : Nat) : Int)) ∧
                            (∃ m_2 : Int, ((List.map (Value.int .u8) x3 ++ []) : List Value)[Int.toNat x4]? = some (.int .u8 m_2) ∧ ((0 ≤ x4 ∧ x4 < ((256 : Nat) : Int)) ∧
                                (∃ (x5 : Int), cel H_5 (Array.size H) (0 + 1 + Int.toNat x4 * 1) = some (.int .u8 x5) ∧ ((0 ≤ x4 ∧ x4 < ((256 : Nat) : Int)) ∧
                                    (canPut H_5 (Array.size H) (0 + 1 + Int.toNat x4 * 1) [.int .u8 (IntKind.wrap .u8 (x5 + m_2))] ∧
                                      (let H_6 : Hp := hput H_5 (Array.size H) (0 + 1 + Int.toNat x4 * 1) [.int .u8 (IntKind.wrap .u8 (x5 + m_2))];
                                        (((-9223372036854775808) ≤ x4 + 1 ∧ x4 + 1 ≤ 9223372036854775807) ∧
                                          (I_ (x4 + 1) H_6 ∧ m_ (x4 + 1) H_6 < m_ x4 H_5)))))))))) ∧
                        ((decide (x4 < 256)) = false → (∃ (weight : Int), cel H_5 (Array.size H) 0 = some (.int .i64 weight) ∧
                            ∃ often : List Int, (often.length = 256 ∧ ∀ j, j < 256 → cel H_5 (Array.size H) (0 + 1 + j) = some (.int .u8 (often.getD j 0))) ∧ (fitsN ((List.map (Value.int .u8) often ++ []) : List Value) 256
                              (canPut H_5 (Array.size H_2) 0 (Value.int .i64 weight :: (List.map (Value.int .u8) often ++ [])) ∧
                                (let H_7 : Hp := hput H_5 (Array.size H_2) 0 (Value.int .i64 weight :: (List.map (Value.int .u8) often ++ []));
                                  (∃ (r_weight : Int), cel H_7 (Array.size H_2) 0 = some (.int .i64 r_weight) ∧
                                    ∃ r_often : List Int, (r_often.length = 256 ∧ ∀ j, j < 256 → cel H_7 (Array.size H_2) (0 + 1 + j) = some (.int .u8 (r_often.getD j 0))) ∧ (R (.agg ((Value.int .i64 r_weight :: (List.map (Value.int .u8) r_often ++ []))).toArray) H_7))))))))))))))))))
theorem f172.vc (φ : Fx) (a : Int) (a2 : List Int) (b : Int) (b2 : List Int) (H : Hp) (R : Value → Hp → Prop) : fnW cx φ Try.f172 f172.an [.agg ((Value.int .i64 a :: (List.map (Value.int .u8) a2 ++ []))).toArray, .agg ((Value.int .i64 b :: (List.map (Value.int .u8) b2 ++ []))).toArray] H R = f172.VC φ a a2 b b2 H R := by kernel_rfl
theorem f172.of {φ : Fx} {a : Int} {a2 : List Int} {b : Int} {b2 : List Int} {H : Hp} {R : Value → Hp → Prop} (h : f172.VC φ a a2 b b2 H R) : HCalls cx.P φ 172 [.agg ((Value.int .i64 a :: (List.map (Value.int .u8) a2 ++ []))).toArray, .agg ((Value.int .i64 b :: (List.map (Value.int .u8) b2 ++ []))).toArray] H R :=
  fnW_calls cx_ok (show cx.P.funcs[172]? = some Try.f172 by kernel_rfl) (by rw [f172.vc]; exact h)

def f124.an : An := .seq (.reg (.op false (.done))) (.seq (.reg (.op false (.op false (.op false (.op false (.op false (.op false (.op false (.op false (.done)))))))))) (.seq (.seq (.reg (.op false (.done))) (.blk (.loop [(0, false, [.slc]), (5, false, [.slc]), (6, false, [.int .i64])] (.seq (.seq (.reg (.op false (.op false (.op false (.op false (.op false (.done))))))) (.cond (.nil) (.nil))) (.seq (.blk (.seq (.join [(7, false, [.box])] (.draw [[], [], [0, 1], [0, 1, 2], [], [], [5], [4, 5, 6], [4, 5, 6, 7], [0, 1, 2, 3, 4, 5, 6, 7, 8], [], [0, 1, 2, 3, 4, 5, 6, 7, 8, 9, 10]] (.rd 0 false (.rd 1 false (.rd 2 false (.rd 3 false (.rd 4 false (.rd 5 false (.rd 6 false (.rd 7 false (.rd 8 false (.two 9 false (.eff 10 false (.eff 11 false (.done))) 10 false (.eff 9 false (.eff 11 false (.done))))))))))))))) (.seq (.blk (.loop [(0, false, [.slc]), (5, false, [.slc])] (.seq (.seq (.join [(43, false, [.bool])] (.draw [[], [0], [0, 1], [0, 1, 2], [0, 1, 2, 3], [0, 1, 2, 3, 4], [0, 1, 2, 3, 4, 5], [0, 1, 2, 3, 4, 5, 6], [0, 1, 2, 3], [0, 1, 2, 3, 8], [0, 1, 2, 3, 4, 5, 6, 7, 8, 9], [0, 1, 2, 3, 4, 5, 6, 7, 8, 9, 10]] (.rd 0 false (.rd 1 false (.rd 2 false (.rd 3 false (.split 35 (.rd 4 false (.rd 5 false (.rd 6 false (.rd 7 false (.rd 8 false (.rd 9 false (.rd 10 false (.rd 11 false (.done))))))))) (.rd 4 false (.rd 5 false (.rd 6 false (.rd 7 false (.rd 8 false (.rd 9 false (.rd 10 false (.rd 11 false (.done)))))))))))))))) (.cond (.nil) (.nil))) (.blk (.seq (.reg (.op false (.op false (.op false (.op false (.op false (.op false (.op false (.done))))))))) (.reg (.op false (.op false (.op false (.done)))))))))) (.reg (.op false (.op false (.op false (.op false (.op false (.done)))))))))) (.reg (.op false (.op false (.op false (.done)))))))))) (.seq (.reg (.op false (.op false (.op false (.op false (.done)))))) (.nil))))
def f124.VC (φ : Fx) (firstA : Option Addr) (firstn firstc : Nat) (rowA : Option Addr) (rown rowc : Nat) (H : Hp) (R : Value → Hp → Prop) : Prop :=
  (0 ≤ ((rown : Nat) : Int) ∧ ((rown : Nat) : Int) ≤ 9223372036854775807 ∧ (0 : Int) < 2) ∧
  (((-9223372036854775808) ≤ ((firstn : Nat) : Int) + (((rown : Nat) : Int) / 2) ∧ ((firstn : Nat) : Int) + (((rown : Nat) : Int) / 2) ≤ 9223372036854775807) ∧
    ((0 ≤ (0 : Int) ∧ (0 : Int) ≤ (((firstn : Nat) : Int) + (((rown : Nat) : Int) / 2)) ∧ (((firstn : Nat) : Int) + (((rown : Nat) : Int) / 2)) * 264 ≤ 281474976710656) ∧
      (let H_ : Hp := Array.push H (.cells (zrow (Value.int .i64 0 :: List.replicate 256 (Value.int .u8 0)) (Int.toNat (((firstn : Nat) : Int) + (((rown : Nat) : Int) / 2)))).toArray 180 (0, 0));
        (∃ (I_ : Option Addr → Nat → Nat → Option Addr → Nat → Nat → Int → Hp → Prop) (m_ : Option Addr → Nat → Nat → Option Addr → Nat → Nat → Int → Hp → Nat), I_ firstA firstn firstc (some (⟨Array.size H, 0, none⟩ : Addr)) (Int.toNat (0 : Int)) (Int.toNat (((firstn : Nat) : Int) + (((rown : Nat) : Int) / 2))) 0 H_ ∧
          (∀ (firstA2 : Option Addr) (firstn2 firstc2 : Nat) (outA : Option Addr) (outn outc : Nat) (i : Int) (j_ : Nat → Value) (H_2 : Hp), I_ firstA2 firstn2 firstc2 outA outn outc i H_2 → (((-9223372036854775808) ≤ i + 1 ∧ i + 1 ≤ 9223372036854775807) ∧
              (((decide ((i + 1) < ((rown : Nat) : Int))) = true → (∃ M_ : Nat → Nat → Hp → Prop, (∃ (b o : Nat), rowA = some ⟨b, o, none⟩ ∧ (0 ≤ i ∧ i < ((rown : Nat) : Int)) ∧
                      (∃ (weight : Int), cel H_2 b (o + Int.toNat i * 257) = some (.int .i64 weight) ∧
                        ∃ often : List Int, (often.length = 256 ∧ ∀ j, j < 256 → cel H_2 b (o + Int.toNat i * 257 + 1 + j) = some (.int .u8 (often.getD j 0))) ∧ (((-9223372036854775808) ≤ i + 1 ∧ i + 1 ≤ 9223372036854775807) ∧
                          (∃ (b2 o2 : Nat), rowA = some ⟨b2, o2, none⟩ ∧ (0 ≤ (i + 1) ∧ (i + 1) < ((rown : Nat) : Int)) ∧
                            (∃ (weight2 : Int), cel H_2 b2 (o2 + Int.toNat (i + 1) * 257) = some (.int .i64 weight2) ∧
                              ∃ often2 : List Int, (often2.length = 256 ∧ ∀ j, j < 256 → cel H_2 b2 (o2 + Int.toNat (i + 1) * 257 + 1 + j) = some (.int .u8 (often2.getD j 0))) ∧ ((HCalls cx.P φ 172 [.agg ((Value.int .i64 weight :: (List.map (Value.int .u8) often ++ []))).toArray, .agg ((Value.int .i64 weight2 :: (List.map (Value.int .u8) often2 ++ []))).toArray] H_2 (fun v H_3 => ∃ (x : Int), ∃ (x2 : List Int), x2.length = 256 ∧ v = .agg ((Value.int .i64 x :: (List.map (Value.int .u8) x2 ++ []))).toArray ∧ (let H_4 : Hp := Array.push H_3 (.cells #[.int .i64 0, .int .u8 0, .int .u8 0, .int .u8 0, .int .u8 0, .int .u8 0, .int .u8 0, .int .u8 0, .int .u8 0, .int .u8 0, .int .u8 0, .int .u8 0, .int .u8 0, .int .u8 0, .int .u8 0, .int .u8 0, .int .u8 0, .int .u8 0, .int .u8 0, .int .u8 0, .int .u8 0, .int .u8 0, .int .u8 0, .int .u8 0, .int .u8 0, .int .u8 0, .int .u8 0, .int .u8 0, .int .u8 0, .int .u8 0, .int .u8 0, .int .u8 0, .int .u8 0, .int .u8 0, .int .u8 0, .int .u8 0, .int .u8 0, .int .u8 0, .int .u8 0, .int .u8 0, .int .u8 0, .int .u8 0, .int .u8 0, .int .u8 0, .int .u8 0, .int .u8 0, .int .u8 0, .int .u8 0, .int .u8 0, .int .u8 0, .int .u8 0, .int .u8 0, .int .u8 0, .int .u8 0, .int .u8 0, .int .u8 0, .int .u8 0, .int .u8 0, .int .u8 0, .int .u8 0, .int .u8 0, .int .u8 0, .int .u8 0, .int .u8 0, .int .u8 0, .int .u8 0, .int .u8 0, .int .u8 0, .int .u8 0, .int .u8 0, .int .u8 0, .int .u8 0, .int .u8 0, .int .u8 0, .int .u8 0, .int .u8 0, .int .u8 0, .int .u8 0, .int .u8 0, .int .u8 0, .int .u8 0, .int .u8 0, .int .u8 0, .int .u8 0, .int .u8 0, .int .u8 0, .int .u8 0, .int .u8 0, .int .u8 0, .int .u8 0, .int .u8 0, .int .u8 0, .int .u8 0, .int .u8 0, .int .u8 0, .int .u8 0, .int .u8 0, .int .u8 0, .int .u8 0, .int .u8 0, .int .u8 0, .int .u8 0, .int .u8 0, .int .u8 0, .int .u8 0, .int .u8 0, .int .u8 0, .int .u8 0, .int .u8 0, .int .u8 0, .int .u8 0, .int .u8 0, .int .u8 0, .int .u8 0, .int .u8 0, .int .u8 0, .int .u8 0, .int .u8 0, .int .u8 0, .int .u8 0, .int .u8 0, .int .u8 0, .int .u8 0, .int .u8 0, .int .u8 0, .int .u8 0, .int .u8 0, .int .u8 0, .int .u8 0, .int .u8 0, .int .u8 0, .int .u8 0, .int .u8 0, .int .u8 0, .int .u8 0, .int .u8 0, .int .u8 0, .int .u8 0, .int .u8 0, .int .u8 0, .int .u8 0, .int .u8 0, .int .u8 0, .int .u8 0, .int .u8 0, .int .u8 0, .int .u8 0, .int .u8 0, .int .u8 0, .int .u8 0, .int .u8 0, .int .u8 0, .int .u8 0, .int .u8 0, .int .u8 0, .int .u8 0, .int .u8 0, .int .u8 0, .int .u8 0, .int .u8 0, .int .u8 0, .int .u8 0, .int .u8 0, .int .u8 0, .int .u8 0, .int .u8 0, .int .u8 0, .int .u8 0, .int .u8 0, .int .u8 0, .int .u8 0, .int .u8 0, .int .u8 0, .int .u8 0, .int .u8 0, .int .u8 0, .int .u8 0, .int .u8 0, .int .u8 0, .int .u8 0, .int .u8 0, .int .u8 0, .int .u8 0, .int .u8 0, .int .u8 0, .int .u8 0, .int .u8 0, .int .u8 0, .int .u8 0, .int .u8 0, .int .u8 0, .int .u8 0, .int .u8 0, .int .u8 0, .int .u8 0, .int .u8 0, .int .u8 0, .int .u8 0, .int .u8 0, .int .u8 0, .int .u8 0, .int .u8 0, .int .u8 0, .int .u8 0, .int .u8 0, .int .u8 0, .int .u8 0, .int .u8 0, .int .u8 0, .int .u8 0, .int .u8 0, .int .u8 0, .int .u8 0, .int .u8 0, .int .u8 0, .int .u8 0, .int .u8 0, .int .u8 0, .int .u8 0, .int .u8 0, .int .u8 0, .int .u8 0, .int .u8 0, .int .u8 0, .int .u8 0, .int .u8 0, .int .u8 0, .int .u8 0, .int .u8 0, .int .u8 0, .int .u8 0, .int .u8 0, .int .u8 0, .int .u8 0, .int .u8 0, .int .u8 0, .int .u8 0, .int .u8 0, .int .u8 0, .int .u8 0, .int .u8 0, .int .u8 0, .int .u8 0, .int .u8 0, .int .u8 0, .int .u8 0, .int .u8 0, .int .u8 0, .int .u8 0, .int .u8 0, .int .u8 0, .int .u8 0, .int .u8 0, .int .u8 0, .int .u8 0, .int .u8 0, .int .u8 0] 180 (0, 0));
                                      (fitsN ((List.map (Value.int .u8) x2 ++ []) : List Value) 256
                                        (canPut H_4 (Array.size H_3) 0 (Value.int .i64 x :: (List.map (Value.int .u8) x2 ++ [])) ∧
                                          (let H_5 : Hp := hput H_4 (Array.size H_3) 0 (Value.int .i64 x :: (List.map (Value.int .u8) x2 ++ []));
                                            (M_ (Array.size H_3) 0 H_5))))))) ∧
                                (let H_6 : Hp := Array.push H_2 (.cells #[.int .i64 0, .int .u8 0, .int .u8 0, .int .u8 0, .int .u8 0, .int .u8 0, .int .u8 0, .int .u8 0, .int .u8 0, .int .u8 0, .int .u8 0, .int .u8 0, .int .u8 0, .int .u8 0, .int .u8 0, .int .u8 0, .int .u8 0, .int .u8 0, .int .u8 0, .int .u8 0, .int .u8 0, .int .u8 0, .int .u8 0, .int .u8 0, .int .u8 0, .int .u8 0, .int .u8 0, .int .u8 0, .int .u8 0, .int .u8 0, .int .u8 0, .int .u8 0, .int .u8 0, .int .u8 0, .int .u8 0, .int .u8 0, .int .u8 0, .int .u8 0, .int .u8 0, .int .u8 0, .int .u8 0, .int .u8 0, .int .u8 0, .int .u8 0, .int .u8 0, .int .u8 0, .int .u8 0, .int .u8 0, .int .u8 0, .int .u8 0, .int .u8 0, .int .u8 0, .int .u8 0, .int .u8 0, .int .u8 0, .int .u8 0, .int .u8 0, .int .u8 0, .int .u8 0, .int .u8 0, .int .u8 0, .int .u8 0, .int .u8 0, .int .u8 0, .int .u8 0, .int .u8 0, .int .u8 0, .int .u8 0, .int .u8 0, .int .u8 0, .int .u8 0, .int .u8 0, .int .u8 0, .int .u8 0, .int .u8 0, .int .u8 0, .int .u8 0, .int .u8 0, .int .u8 0, .int .u8 0, .int .u8 0, .int .u8 0, .int .u8 0, .int .u8 0, .int .u8 0, .int .u8 0, .int .u8 0, .int .u8 0, .int .u8 0, .int .u8 0, .int .u8 0, .int .u8 0, .int .u8 0, .int .u8 0, .int .u8 0, .int .u8 0, .int .u8 0, .int .u8 0, .int .u8 0, .int .u8 0, .int .u8 0, .int .u8 0, .int .u8 0, .int .u8 0, .int .u8 0, .int .u8 0, .int .u8 0, .int .u8 0, .int .u8 0, .int .u8 0, .int .u8 0, .int .u8 0, .int .u8 0, .int .u8 0, .int .u8 0, .int .u8 0, .int .u8 0, .int .u8 0, .int .u8 0, .int .u8 0, .int .u8 0, .int .u8 0, .int .u8 0, .int .u8 0, .int .u8 0, .int .u8 0, .int .u8 0, .int .u8 0, .int .u8 0, .int .u8 0, .int .u8 0, .int .u8 0, .int .u8 0, .int .u8 0, .int .u8 0, .int .u8 0, .int .u8 0, .int .u8 0, .int .u8 0, .int .u8 0, .int .u8 0, .int .u8 0, .int .u8 0, .int .u8 0, .int .u8 0, .int .u8 0, .int .u8 0, .int .u8 0, .int .u8 0, .int .u8 0, .int .u8 0, .int .u8 0, .int .u8 0, .int .u8 0, .int .u8 0, .int .u8 0, .int .u8 0, .int .u8 0, .int .u8 0, .int .u8 0, .int .u8 0, .int .u8 0, .int .u8 0, .int .u8 0, .int .u8 0, .int .u8 0, .int .u8 0, .int .u8 0, .int .u8 0, .int .u8 0, .int .u8 0, .int .u8 0, .int .u8 0, .int .u8 0, .int .u8 0, .int .u8 0, .int .u8 0, .int .u8 0, .int .u8 0, .int .u8 0, .int .u8 0, .int .u8 0, .int .u8 0, .int .u8 0, .int .u8 0, .int .u8 0, .int .u8 0, .int .u8 0, .int .u8 0, .int .u8 0, .int .u8 0, .int .u8 0, .int .u8 0, .int .u8 0, .int .u8 0, .int .u8 0, .int .u8 0, .int .u8 0, .int .u8 0, .int .u8 0, .int .u8 0, .int .u8 0, .int .u8 0, .int .u8 0, .int .u8 0, .int .u8 0, .int .u8 0, .int .u8 0, .int .u8 0, .int .u8 0, .int .u8 0, .int .u8 0, .int .u8 0, .int .u8 0, .int .u8 0, .int .u8 0, .int .u8 0, .int .u8 0, .int .u8 0, .int .u8 0, .int .u8 0, .int .u8 0, .int .u8 0, .int .u8 0, .int .u8 0, .int .u8 0, .int .u8 0, .int .u8 0, .int .u8 0, .int .u8 0, .int .u8 0, .int .u8 0, .int .u8 0, .int .u8 0, .int .u8 0, .int .u8 0, .int .u8 0, .int .u8 0, .int .u8 0, .int .u8 0, .int .u8 0, .int .u8 0, .int .u8 0, .int .u8 0, .int .u8 0, .int .u8 0, .int .u8 0, .int .u8 0, .int .u8 0, .int .u8 0, .int .u8 0, .int .u8 0, .int .u8 0, .int .u8 0, .int .u8 0, .int .u8 0, .int .u8 0] 180 (0, 0));
                                  (held H_6 b2 (o2 + Int.toNat (i + 1) * 257) (Value.int .i64 weight2 :: (List.map (Value.int .u8) often2 ++ [])) ∧ (held H_6 b (o + Int.toNat i * 257) (Value.int .i64 weight :: (List.map (Value.int .u8) often ++ [])) ∧ (HCalls cx.P φ 172 [.agg ((Value.int .i64 weight :: (List.map (Value.int .u8) often ++ []))).toArray, .agg ((Value.int .i64 weight2 :: (List.map (Value.int .u8) often2 ++ []))).toArray] H_6 (fun v2 H_7 => ∃ (x3 : Int), ∃ (x4 : List Int), x4.length = 256 ∧ v2 = .agg ((Value.int .i64 x3 :: (List.map (Value.int .u8) x4 ++ []))).toArray ∧ (fitsN ((List.map (Value.int .u8) x4 ++ []) : List Value) 256
                                            (canPut H_7 (Array.size H_2) 0 (Value.int .i64 x3 :: (List.map (Value.int .u8) x4 ++ [])) ∧
                                              (let H_8 : Hp := hput H_7 (Array.size H_2) 0 (Value.int .i64 x3 :: (List.map (Value.int .u8) x4 ++ []));
                                                (M_ (Array.size H_2) 0 H_8))))))))))))))) ∧
                    (∀ (pb po : Nat) (j_2 : Nat → Value) (H_9 : Hp), M_ pb po H_9 → (∃ (I_2 : Option Addr → Nat → Nat → Option Addr → Nat → Nat → Hp → Prop) (m_2 : Option Addr → Nat → Nat → Option Addr → Nat → Nat → Hp → Nat), I_2 firstA2 firstn2 firstc2 outA outn outc H_9 ∧
                        (∀ (firstA3 : Option Addr) (firstn3 firstc3 : Nat) (outA2 : Option Addr) (outn2 outc2 : Nat) (j_3 : Nat → Value) (H_10 : Hp), I_2 firstA3 firstn3 firstc3 outA2 outn2 outc2 H_10 → (∃ M_2 : Bool → Hp → Prop, (((decide (0 < ((firstn3 : Nat) : Int))) = true → (∃ (b3 o3 : Nat), firstA3 = some ⟨b3, o3, none⟩ ∧ ((0 : Int) ≤ 0 ∧ 0 < ((firstn3 : Nat) : Int)) ∧
                                  (∃ (x5 : Int), cel H_10 b3 (o3 + Int.toNat 0 * 257) = some (.int .i64 x5) ∧ (∃ (x6 : Int), cel H_10 pb po = some (.int .i64 x6) ∧ (M_2 (decide (x5 ≤ x6)) H_10))))) ∧
                              ((decide (0 < ((firstn3 : Nat) : Int))) = false → (M_2 false H_10))) ∧
                            (∀ (x7 : Bool) (j_4 : Nat → Value) (H_11 : Hp), M_2 x7 H_11 → ((x7 = true → (∃ (b4 o4 : Nat), firstA3 = some ⟨b4, o4, none⟩ ∧ ((0 : Int) ≤ 0 ∧ 0 < ((firstn3 : Nat) : Int)) ∧
                                    (∃ (weight3 : Int), cel H_11 b4 (o4 + Int.toNat 0 * 257) = some (.int .i64 weight3) ∧
                                      ∃ often3 : List Int, (often3.length = 256 ∧ ∀ j, j < 256 → cel H_11 b4 (o4 + Int.toNat 0 * 257 + 1 + j) = some (.int .u8 (often3.getD j 0))) ∧ (fitsN ((List.map (Value.int .u8) often3 ++ []) : List Value) 256
                                        (let H_12 : Hp := Array.push H_11 (.cells ((Value.int .i64 weight3 :: (List.map (Value.int .u8) often3 ++ []))).toArray 180 (0, 0));
                                          (appW cx 175 175 (Value.slice outA2 outn2 outc2) (Value.slice (some (⟨Array.size H_11, 0, none⟩ : Addr)) 1 1) H_12 (fun v3 H_13 => ∃ (A : Option Addr) (n c : Nat), v3 = .slice A n c ∧ ((0 ≤ (1 : Int) ∧ (1 : Int) ≤ ((firstn3 : Nat) : Int)) ∧
                                                (I_2 (slA firstA3 (Int.toNat (1 : Int)) firstc3 257) (firstn3 - Int.toNat (1 : Int)) (firstc3 - Int.toNat (1 : Int)) A n c H_13 ∧ m_2 (slA firstA3 (Int.toNat (1 : Int)) firstc3 257) (firstn3 - Int.toNat (1 : Int)) (firstc3 - Int.toNat (1 : Int)) A n c H_13 < m_2 firstA3 firstn3 firstc3 outA2 outn2 outc2 H_10))))))))) ∧
                                (x7 = false → (∃ (weight4 : Int), cel H_11 pb po = some (.int .i64 weight4) ∧
                                    ∃ often4 : List Int, (often4.length = 256 ∧ ∀ j, j < 256 → cel H_11 pb (po + 1 + j) = some (.int .u8 (often4.getD j 0))) ∧ (fitsN ((List.map (Value.int .u8) often4 ++ []) : List Value) 256
                                      (let H_14 : Hp := Array.push H_11 (.cells ((Value.int .i64 weight4 :: (List.map (Value.int .u8) often4 ++ []))).toArray 180 (0, 0));
                                        (appW cx 175 175 (Value.slice outA2 outn2 outc2) (Value.slice (some (⟨Array.size H_11, 0, none⟩ : Addr)) 1 1) H_14 (fun v4 H_15 => ∃ (A2 : Option Addr) (n2 c2 : Nat), v4 = .slice A2 n2 c2 ∧ (((-9223372036854775808) ≤ i + 2 ∧ i + 2 ≤ 9223372036854775807) ∧
                                              (I_ firstA3 firstn3 firstc3 A2 n2 c2 (i + 2) H_15 ∧ m_ firstA3 firstn3 firstc3 A2 n2 c2 (i + 2) H_15 < m_ firstA2 firstn2 firstc2 outA outn outc i H_2)))))))))))))))) ∧
                ((decide ((i + 1) < ((rown : Nat) : Int))) = false → (appW cx 175 175 (Value.slice outA outn outc) (Value.slice firstA2 firstn2 firstc2) H_2 (fun v5 H_16 => ∃ (A3 : Option Addr) (n3 c3 : Nat), v5 = .slice A3 n3 c3 ∧ (R (.slice A3 n3 c3) H_16)))))))))))
theorem f124.vc (φ : Fx) (firstA : Option Addr) (firstn firstc : Nat) (rowA : Option Addr) (rown rowc : Nat) (H : Hp) (R : Value → Hp → Prop) : fnW cx φ Try.f124 f124.an [.slice firstA firstn firstc, .slice rowA rown rowc] H R = f124.VC φ firstA firstn firstc rowA rown rowc H R := by kernel_rfl
theorem f124.of {φ : Fx} {firstA : Option Addr} {firstn firstc : Nat} {rowA : Option Addr} {rown rowc : Nat} {H : Hp} {R : Value → Hp → Prop} (h : f124.VC φ firstA firstn firstc rowA rown rowc H R) : HCalls cx.P φ 124 [.slice firstA firstn firstc, .slice rowA rown rowc] H R :=
  fnW_calls cx_ok (show cx.P.funcs[124]? = some Try.f124 by kernel_rfl) (by rw [f124.vc]; exact h)

def f56.an : An := .seq (.reg (.op false (.op false (.done)))) (.seq (.seq (.reg (.op false (.op false (.op false (.done))))) (.cond (.seq (.reg (.op false (.op false (.done)))) (.nil)) (.nil))) (.seq (.seq (.reg (.op false (.op false (.op false (.done))))) (.seq (.join [(30, false, [.bool])] (.reg (.op false (.op false (.op false (.split 23 (.op false (.op false (.op false (.op false (.op false (.op false (.op false (.done)))))))) (.op false (.op false (.op false (.op false (.split 27 (.op false (.op false (.op false (.done)))) (.op false (.op false (.op false (.done))))))))))))))) (.cond (.seq (.reg (.op false (.op false (.done)))) (.nil)) (.nil)))) (.seq (.reg (.op false (.op false (.op false (.done))))) (.seq (.reg (.op false (.op false (.op false (.done))))) (.seq (.seq (.reg (.op false (.op false (.op false (.op false (.done)))))) (.cond (.seq (.reg (.op false (.op false (.done)))) (.nil)) (.nil))) (.seq (.reg (.op false (.op false (.op false (.op false (.done)))))) (.seq (.seq (.reg (.op false (.op false (.done)))) (.cond (.seq (.seq (.reg (.op false (.op false (.op false (.done))))) (.blk (.loop [(46, false, [.int .i64])] (.seq (.reg (.op false (.done))) (.seq (.cond (.nil) (.nil)) (.seq (.blk (.seq (.reg (.op false (.op false (.op false (.op false (.op false (.done))))))) (.seq (.reg (.op false (.op false (.done)))) (.join [] (.cond (.reg (.op false (.op false (.op false (.op false (.done)))))) (.nil)))))) (.reg (.op false (.op false (.done)))))))))) (.seq (.reg (.op false (.op false (.op false (.done))))) (.nil))) (.nil))) (.seq (.reg (.op false (.op false (.done)))) (.seq (.seq (.reg (.op false (.op false (.op false (.done))))) (.blk (.loop [(12, false, [.slc]), (61, false, [.int .i64])] (.seq (.reg (.op false (.done))) (.seq (.cond (.nil) (.nil)) (.seq (.blk (.reg (.op false (.op false (.op false (.op false (.done))))))) (.reg (.op false (.op false (.done)))))))))) (.seq (.seq (.reg (.op false (.op false (.op false (.op false (.op false (.op false (.op false (.op false (.done)))))))))) (.blk (.loop [(74, false, [.int .i64])] (.seq (.reg (.op false (.done))) (.seq (.cond (.nil) (.nil)) (.seq (.blk (.seq (.reg (.op false (.op false (.op false (.op false (.done)))))) (.seq (.reg (.op false (.op false (.op false (.done))))) (.blk (.loop [(80, false, [.int .i64])] (.seq (.reg (.op false (.done))) (.seq (.cond (.nil) (.nil)) (.seq (.blk (.seq (.reg (.op false (.op false (.done)))) (.draw [[], [], [0, 1], [0, 1, 2], [], [], [4, 5], [4, 5, 6], [4, 5, 6, 7], [0, 1, 2, 3, 4, 5, 6, 7, 8], [0, 1, 2, 3, 4, 5, 6, 7, 8, 9], [0, 1, 2, 3, 4, 5, 6, 7, 8, 9, 10]] (.rd 0 false (.rd 1 false (.rd 2 false (.rd 3 false (.rd 4 false (.rd 5 false (.rd 6 false (.rd 7 false (.rd 8 false (.rd 9 false (.rd 10 false (.eff 11 false (.done)))))))))))))))) (.reg (.op false (.op false (.done)))))))))))) (.reg (.op false (.op false (.done)))))))))) (.seq (.reg (.op false (.op false (.op false (.done))))) (.nil))))))))))))
def f56.VC (φ : Fx) (countsA : Option Addr) (countsn countsc : Nat) (limit : Int) (H : Hp) (R : Value → Hp → Prop) : Prop :=
  ((decide (256 < ((countsn : Nat) : Int))) = true → (R (.tuple #[.slice none 0 0, .int .i64 2]) H)) ∧
  ((decide (256 < ((countsn : Nat) : Int))) = false → (HCalls cx.P φ 122 [.slice countsA countsn countsc] H (fun v H_ => ∃ (x : Int), v = .int .i64 x ∧ (∃ M_ : Bool → Hp → Prop, (((!decide (x = 0)) = true → (M_ true H_)) ∧
            ((!decide (x = 0)) = false → (((decide (limit < 1)) = true → (M_ true H_)) ∧
                ((decide (limit < 1)) = false → (M_ (decide (15 < limit)) H_))))) ∧
          (∀ (x2 : Bool) (j_ : Nat → Value) (H_2 : Hp), M_ x2 H_2 → ((x2 = true → (R (.tuple #[.slice none 0 0, .int .i64 3]) H_2)) ∧
              (x2 = false → (HCalls cx.P φ 123 [.slice countsA countsn countsc] H_2 (fun v2 H_3 => ∃ (A : Option Addr) (n c : Nat), v2 = .slice A n c ∧ ((0 : Int) ≤ limit ∧ (((-9223372036854775808) ≤ (1 : Int) * 2 ^ (min (Int.toNat limit) 64) ∧ (1 : Int) * 2 ^ (min (Int.toNat limit) 64) ≤ 9223372036854775807) ∧
                        (((decide (((1 : Int) * 2 ^ (min (Int.toNat limit) 64)) < ((n : Nat) : Int))) = true → (R (.tuple #[.slice none 0 0, .int .i64 41]) H_3)) ∧
                          ((decide (((1 : Int) * 2 ^ (min (Int.toNat limit) 64)) < ((n : Nat) : Int))) = false → ((0 ≤ ((countsn : Nat) : Int) ∧ ((countsn : Nat) : Int) ≤ ((countsn : Nat) : Int) ∧ ((countsn : Nat) : Int) * 8 ≤ 281474976710656) ∧
                              (let H_4 : Hp := Array.push H_3 (.cells (zrow [.int .i64 0] (Int.toNat ((countsn : Nat) : Int))).toArray 3 (0, 0));
                                (((decide (((n : Nat) : Int) = 1)) = true → (∃ (I_ : Int → Hp → Prop) (m_ : Int → Hp → Nat), I_ 0 H_4 ∧
                                      (∀ (x3 : Int) (j_2 : Nat → Value) (H_5 : Hp), I_ x3 H_5 → (((decide (x3 < ((countsn : Nat) : Int))) = true → (∃ (b o : Nat), countsA = some ⟨b, o, none⟩ ∧ (0 ≤ x3 ∧ x3 < ((countsn : Nat) : Int)) ∧
                                              (∃ (x4 : Int), cel H_5 b (o + Int.toNat x3 * 1) = some (.int .i64 x4) ∧ (∃ M_2 : Hp → Prop, (((decide (0 < x4)) = true → (∃ (b2 o2 : Nat), (some (⟨Array.size H_3, 0, none⟩ : Addr)) = some ⟨b2, o2, none⟩ ∧ (0 ≤ x3 ∧ x3 < ((Int.toNat ((countsn : Nat) : Int) : Nat) : Int)) ∧
                                                        (canPut H_5 b2 (o2 + Int.toNat x3 * 1) [.int .i64 1] ∧
                                                          (let H_6 : Hp := hput H_5 b2 (o2 + Int.toNat x3 * 1) [.int .i64 1];
                                                            (M_2 H_6))))) ∧
                                                    ((decide (0 < x4)) = false → (M_2 H_5))) ∧
                                                  (∀  (j_3 : Nat → Value) (H_7 : Hp), M_2 H_7 → (((-9223372036854775808) ≤ x3 + 1 ∧ x3 + 1 ≤ 9223372036854775807) ∧
                                                      (I_ (x3 + 1) H_7 ∧ m_ (x3 + 1) H_7 < m_ x3 H_5))))))) ∧
                                          ((decide (x3 < ((countsn : Nat) : Int))) = false → (R (.tuple #[.slice (some (⟨Array.size H_3, 0, none⟩ : Addr)) (Int.toNat ((countsn : Nat) : Int)) (Int.toNat ((countsn : Nat) : Int)), .int .i64 0]) H_5)))))) ∧
                                  ((decide (((n : Nat) : Int) = 1)) = false → (((-9223372036854775808) ≤ limit - 1 ∧ limit - 1 ≤ 9223372036854775807) ∧
                                      (∃ (I_2 : Option Addr → Nat → Nat → Int → Hp → Prop) (m_2 : Option Addr → Nat → Nat → Int → Hp → Nat), I_2 A n c 0 H_4 ∧
                                        (∀ (rowA : Option Addr) (rown rowc : Nat) (x5 : Int) (j_4 : Nat → Value) (H_8 : Hp), I_2 rowA rown rowc x5 H_8 → (((decide (x5 < (limit - 1))) = true → (HCalls cx.P φ 124 [.slice A n c, .slice rowA rown rowc] H_8 (fun v3 H_9 => ∃ (A2 : Option Addr) (n2 c2 : Nat), v3 = .slice A2 n2 c2 ∧ (((-9223372036854775808) ≤ x5 + 1 ∧ x5 + 1 ≤ 9223372036854775807) ∧
                                                    (I_2 A2 n2 c2 (x5 + 1) H_9 ∧ m_2 A2 n2 c2 (x5 + 1) H_9 < m_2 rowA rown rowc x5 H_8))))) ∧
                                            ((decide (x5 < (limit - 1))) = false → (((-9223372036854775808) ≤ 2 * ((n : Nat) : Int) ∧ 2 * ((n : Nat) : Int) ≤ 9223372036854775807) ∧
                                                (((-9223372036854775808) ≤ (2 * ((n : Nat) : Int)) - 2 ∧ (2 * ((n : Nat) : Int)) - 2 ≤ 9223372036854775807) ∧
                                                  ((0 ≤ (max ((2 * ((n : Nat) : Int)) - 2) 0) ∧ (max ((2 * ((n : Nat) : Int)) - 2) 0) ≤ ((rowc : Nat) : Int)) ∧
                                                    (∃ (I_3 : Int → Hp → Prop) (m_3 : Int → Hp → Nat), I_3 0 H_8 ∧
                                                      (∀ (x6 : Int) (j_5 : Nat → Value) (H_10 : Hp), I_3 x6 H_10 → (((decide (x6 < ((Int.toNat (max ((2 * ((n : Nat) : Int)) - 2) 0) : Nat) : Int))) = true → (∃ (b3 o3 : Nat), rowA = some ⟨b3, o3, none⟩ ∧ (0 ≤ x6 ∧ x6 < ((Int.toNat (max ((2 * ((n : Nat) : Int)) - 2) 0) : Nat) : Int)) ∧
                                                              (∃ (weight : Int), cel H_10 b3 (o3 + Int.toNat x6 * 257) = some (.int .i64 weight) ∧
                                                                ∃ often : List Int, (often.length = 256 ∧ ∀ j, j < 256 → cel H_10 b3 (o3 + Int.toNat x6 * 257 + 1 + j) = some (.int .u8 (often.getD j 0))) ∧ (let H_11 : Hp := Array.push H_10 (.cells #[.int .i64 0, .int .u8 0, .int .u8 0, .int .u8 0, .int .u8 0, .int .u8 0, .int .u8 0, .int .u8 0, .int .u8 0, .int .u8 0, .int .u8 0, .int .u8 0, .int .u8 0, .int .u8 0, .int .u8 0, .int .u8 0, .int .u8 0, .int .u8 0, .int .u8 0, .int .u8 0, .int .u8 0, .int .u8 0, .int .u8 0, .int .u8 0, .int .u8 0, .int .u8 0, .int .u8 0, .int .u8 0, .int .u8 0, .int .u8 0, .int .u8 0, .int .u8 0, .int .u8 0, .int .u8 0, .int .u8 0, .int .u8 0, .int .u8 0, .int .u8 0, .int .u8 0, .int .u8 0, .int .u8 0, .int .u8 0, .int .u8 0, .int .u8 0, .int .u8 0, .int .u8 0, .int .u8 0, .int .u8 0, .int .u8 0, .int .u8 0, .int .u8 0, .int .u8 0, .int .u8 0, .int .u8 0, .int .u8 0, .int .u8 0, .int .u8 0, .int .u8 0, .int .u8 0, .int .u8 0, .int .u8 0, .int .u8 0, .int .u8 0, .int .u8 0, .int .u8 0, .int .u8 0, .int .u8 0, .int .u8 0, .int .u8 0, .int .u8 0, .int .u8 0, .int .u8 0, .int .u8 0, .int .u8 0, .int .u8 0, .int .u8 0, .int .u8 0, .int .u8 0, .int .u8 0, .int .u8 0, .int .u8 0, .int .u8 0, .int .u8 0, .int .u8 0, .int .u8 0, .int .u8 0, .int .u8 0, .int .u8 0, .int .u8 0, .int .u8 0, .int .u8 0, .int .u8 0, .int .u8 0, .int .u8 0, .int .u8 0, .int .u8 0, .int .u8 0, .int .u8 0, .int .u8 0, .int .u8 0, .int .u8 0, .int .u8 0, .int .u8 0, .int .u8 0, .int .u8 0, .int .u8 0, .int .u8 0, .int .u8 0, .int .u8 0, .int .u8 0, .int .u8 0, .int .u8 0, .int .u8 0, .int .u8 0, .int .u8 0, .int .u8 0, .int .u8 0, .int .u8 0, .int .u8 0, .int .u8 0, .int .u8 0, .int .u8 0, .int .u8 0, .int .u8 0, .int .u8 0, .int .u8 0, .int .u8 0, .int .u8 0, .int .u8 0, .int .u8 0, .int .u8 0, .int .u8 0, .int .u8 0, .int .u8 0, .int .u8 0, .int .u8 0, .int .u8 0, .int .u8 0, .int .u8 0, .int .u8 0, .int .u8 0, .int .u8 0, .int .u8 0, .int .u8 0, .int .u8 0, .int .u8 0, .int .u8 0, .int .u8 0, .int .u8 0, .int .u8 0, .int .u8 0, .int .u8 0, .int .u8 0, .int .u8 0, .int .u8 0, .int .u8 0, .int .u8 0, .int .u8 0, .int .u8 0, .int .u8 0, .int .u8 0, .int .u8 0, .int .u8 0, .int .u8 0, .int .u8 0, .int .u8 0, .int .u8 0, .int .u8 0, .int .u8 0, .int .u8 0, .int .u8 0, .int .u8 0, .int .u8 0, .int .u8 0, .int .u8 0, .int .u8 0, .int .u8 0, .int .u8 0, .int .u8 0, .int .u8 0, .int .u8 0, .int .u8 0, .int .u8 0, .int .u8 0, .int .u8 0, .int .u8 0, .int .u8 0, .int .u8 0, .int .u8 0, .int .u8 0, .int .u8 0, .int .u8 0, .int .u8 0, .int .u8 0, .int .u8 0, .int .u8 0, .int .u8 0, .int .u8 0, .int .u8 0, .int .u8 0, .int .u8 0, .int .u8 0, .int .u8 0, .int .u8 0, .int .u8 0, .int .u8 0, .int .u8 0, .int .u8 0, .int .u8 0, .int .u8 0, .int .u8 0, .int .u8 0, .int .u8 0, .int .u8 0, .int .u8 0, .int .u8 0, .int .u8 0, .int .u8 0, .int .u8 0, .int .u8 0, .int .u8 0, .int .u8 0, .int .u8 0, .int .u8 0, .int .u8 0, .int .u8 0, .int .u8 0, .int .u8 0, .int .u8 0, .int .u8 0, .int .u8 0, .int .u8 0, .int .u8 0, .int .u8 0, .int .u8 0, .int .u8 0, .int .u8 0, .int .u8 0, .int .u8 0, .int .u8 0, .int .u8 0, .int .u8 0, .int .u8 0, .int .u8 0, .int .u8 0, .int .u8 0, .int .u8 0, .int .u8 0, .int .u8 0, .int .u8 0, .int .u8 0, .int .u8 0, .int .u8 0, .int .u8 0, .int .u8 0, .int .u8 0, .int .u8 0] 180 (0, 0));
                                                                  (fitsN ((List.map (Value.int .u8) often ++ []) : List Value) 256
                                                                    (canPut H_11 (Array.size H_10) 0 (Value.int .i64 weight :: (List.map (Value.int .u8) often ++ [])) ∧
                                                                      (let H_12 : Hp := hput H_11 (Array.size H_10) 0 (Value.int .i64 weight :: (List.map (Value.int .u8) often ++ []));
                                                                        (∃ (I_4 : Int → Hp → Prop) (m_4 : Int → Hp → Nat), I_4 0 H_12 ∧
                                                                          (∀ (x7 : Int) (j_6 : Nat → Value) (H_13 : Hp), I_4 x7 H_13 → (((decide (x7 < ((Int.toNat ((countsn : Nat) : Int) : Nat) : Int))) = true → (∃ (b4 o4 : Nat), (some (⟨Array.size H_3, 0, none⟩ : Addr)) = some ⟨b4, o4, none⟩ ∧ (0 ≤ x7 ∧ x7 < ((Int.toNat ((countsn : Nat) : Int) : Nat) : Int)) ∧
                                                                                (∃ (x8 : Int), cel H_13 b4 (o4 + Int.toNat x7 * 1) = some (.int .i64 x8) ∧ ((0 ≤ x7 ∧ x7 < ((256 : Nat) : Int)) ∧
                                                                                (∃ (x9 : Int), cel H_13 (Array.size H_10) (0 + 1 + Int.toNat x7 * 1) = some (.int .u8 x9) ∧ (((-9223372036854775808) ≤ x9 ∧ x9 ≤ 9223372036854775807) ∧
                                                                                (((-9223372036854775808) ≤ x8 + x9 ∧ x8 + x9 ≤ 9223372036854775807) ∧
                                                                                (∃ (b5 o5 : Nat), (some (⟨Array.size H_3, 0, none⟩ : Addr)) = some ⟨b5, o5, none⟩ ∧ (0 ≤ x7 ∧ x7 < ((Int.toNat ((countsn : Nat) : Int) : Nat) : Int)) ∧
                                                                                (canPut H_13 b5 (o5 + Int.toNat x7 * 1) [.int .i64 (x8 + x9)] ∧
                                                                                (let H_14 : Hp := hput H_13 b5 (o5 + Int.toNat x7 * 1) [.int .i64 (x8 + x9)];
                                                                                (((-9223372036854775808) ≤ x7 + 1 ∧ x7 + 1 ≤ 9223372036854775807) ∧
                                                                                (I_4 (x7 + 1) H_14 ∧ m_4 (x7 + 1) H_14 < m_4 x7 H_13)))))))))))) ∧
                                                                              ((decide (x7 < ((Int.toNat ((countsn : Nat) : Int) : Nat) : Int))) = false → (((-9223372036854775808) ≤ x6 + 1 ∧ x6 + 1 ≤ 9223372036854775807) ∧
                                                                                (I_3 (x6 + 1) H_13 ∧ m_3 (x6 + 1) H_13 < m_3 x6 H_10))))))))))))) ∧
                                                          ((decide (x6 < ((Int.toNat (max ((2 * ((n : Nat) : Int)) - 2) 0) : Nat) : Int))) = false → (R (.tuple #[.slice (some (⟨Array.size H_3, 0, none⟩ : Addr)) (Int.toNat ((countsn : Nat) : Int)) (Int.toNat ((countsn : Nat) : Int)), .int .i64 0]) H_10))))))))))))))))))))))))))))))
theorem f56.vc (φ : Fx) (countsA : Option Addr) (countsn countsc : Nat) (limit : Int) (H : Hp) (R : Value → Hp → Prop) : fnW cx φ Try.f56 f56.an [.slice countsA countsn countsc, .int .i64 limit] H R = f56.VC φ countsA countsn countsc limit H R := by kernel_rfl
theorem f56.of {φ : Fx} {countsA : Option Addr} {countsn countsc : Nat} {limit : Int} {H : Hp} {R : Value → Hp → Prop} (h : f56.VC φ countsA countsn countsc limit H R) : HCalls cx.P φ 56 [.slice countsA countsn countsc, .int .i64 limit] H R :=
  fnW_calls cx_ok (show cx.P.funcs[56]? = some Try.f56 by kernel_rfl) (by rw [f56.vc]; exact h)

def f61.an : An := .seq (.reg (.op false (.done))) (.seq (.reg (.op false (.done))) (.seq (.seq (.reg (.op false (.done))) (.blk (.loop [(3, false, [.slc]), (4, false, [.int .i64])] (.seq (.seq (.join [(13, false, [.bool])] (.reg (.op false (.op false (.op false (.op false (.op false (.split 10 (.op false (.op false (.op false (.done)))) (.op false (.op false (.op false (.done)))))))))))) (.cond (.nil) (.nil))) (.seq (.blk (.seq (.reg (.op false (.op false (.op false (.op false (.op true (.op false (.done)))))))) (.seq (.seq (.reg (.op false (.op false (.done)))) (.join [(5, false, [.int .i64])] (.cond (.reg (.op false (.op false (.op false (.done))))) (.nil)))) (.reg (.op false (.op false (.op false (.op false (.op false (.done)))))))))) (.reg (.op false (.op false (.op false (.done)))))))))) (.seq (.reg (.op false (.op false (.done)))) (.nil))))
def f61.VC (φ : Fx) (countsA : Option Addr) (countsn countsc : Nat) (H : Hp) (R : Value → Hp → Prop) : Prop :=
  ∃ (I_ : Option Addr → Nat → Nat → Int → Hp → Prop) (m_ : Option Addr → Nat → Nat → Int → Hp → Nat), I_ none 0 0 0 H ∧
  (∀ (lA : Option Addr) (ln lc : Nat) (i : Int) (j_ : Nat → Value) (H_ : Hp), I_ lA ln lc i H_ → (∃ M_ : Bool → Hp → Prop, (((decide (i < ((countsn : Nat) : Int))) = true → (M_ (decide (i < 256)) H_)) ∧
        ((decide (i < ((countsn : Nat) : Int))) = false → (M_ false H_))) ∧
      (∀ (x : Bool) (j_2 : Nat → Value) (H_2 : Hp), M_ x H_2 → ((x = true → (∃ (b o : Nat), countsA = some ⟨b, o, none⟩ ∧ (0 ≤ i ∧ i < ((countsn : Nat) : Int)) ∧
              (∃ (x2 : Int), cel H_2 b (o + Int.toNat i * 1) = some (.int .i64 x2) ∧ ((1073741824 : Int) ≠ 0 ∧ (∃ M_2 : Int → Hp → Prop, (((decide ((Int.tmod x2 1073741824) < 0)) = true → (((-9223372036854775808) ≤ -(Int.tmod x2 1073741824) ∧ -(Int.tmod x2 1073741824) ≤ 9223372036854775807) ∧
                          (M_2 (-(Int.tmod x2 1073741824)) H_2))) ∧
                      ((decide ((Int.tmod x2 1073741824) < 0)) = false → (M_2 (Int.tmod x2 1073741824) H_2))) ∧
                    (∀ (c : Int) (j_3 : Nat → Value) (H_3 : Hp), M_2 c H_3 → (let H_4 : Hp := Array.push H_3 (.cells #[.int .i64 c] 2 (0, 0));
                        (appW cx 93 93 (Value.slice lA ln lc) (Value.slice (some (⟨Array.size H_3, 0, none⟩ : Addr)) 1 1) H_4 (fun v H_5 => ∃ (A : Option Addr) (n c2 : Nat), v = .slice A n c2 ∧ (((-9223372036854775808) ≤ i + 1 ∧ i + 1 ≤ 9223372036854775807) ∧
                              (I_ A n c2 (i + 1) H_5 ∧ m_ A n c2 (i + 1) H_5 < m_ lA ln lc i H_))))))))))) ∧
          (x = false → (R (.slice lA ln lc) H_2))))))
theorem f61.vc (φ : Fx) (countsA : Option Addr) (countsn countsc : Nat) (H : Hp) (R : Value → Hp → Prop) : fnW cx φ Try.f61 f61.an [.slice countsA countsn countsc] H R = f61.VC φ countsA countsn countsc H R := by kernel_rfl
theorem f61.of {φ : Fx} {countsA : Option Addr} {countsn countsc : Nat} {H : Hp} {R : Value → Hp → Prop} (h : f61.VC φ countsA countsn countsc H R) : HCalls cx.P φ 61 [.slice countsA countsn countsc] H R :=
  fnW_calls cx_ok (show cx.P.funcs[61]? = some Try.f61 by kernel_rfl) (by rw [f61.vc]; exact h)

def f62.an : An := .seq (.reg (.op false (.done))) (.seq (.reg (.op false (.done))) (.seq (.seq (.reg (.op false (.done))) (.blk (.loop [(3, false, [.int .i64]), (4, false, [.int .i64])] (.seq (.seq (.reg (.op false (.op false (.op false (.op false (.done)))))) (.cond (.nil) (.nil))) (.seq (.blk (.seq (.reg (.op false (.op false (.op false (.op false (.op false (.done))))))) (.join [(3, false, [.int .i64])] (.cond (.reg (.op false (.op false (.op false (.done))))) (.nil))))) (.reg (.op false (.op false (.op false (.done)))))))))) (.seq (.reg (.op false (.op false (.done)))) (.nil))))
def f62.VC (φ : Fx) (countsA : Option Addr) (countsn countsc : Nat) (H : Hp) (R : Value → Hp → Prop) : Prop :=
  ∃ (I_ : Int → Int → Hp → Prop) (m_ : Int → Int → Hp → Nat), I_ 0 0 H ∧
  (∀ (n : Int) (i : Int) (j_ : Nat → Value) (H_ : Hp), I_ n i H_ → (((decide (i < ((countsn : Nat) : Int))) = true → (∃ (b o : Nat), countsA = some ⟨b, o, none⟩ ∧ (0 ≤ i ∧ i < ((countsn : Nat) : Int)) ∧
          (∃ (x : Int), cel H_ b (o + Int.toNat i * 1) = some (.int .i64 x) ∧ (∃ M_ : Int → Hp → Prop, (((decide (0 < x)) = true → (((-9223372036854775808) ≤ n + 1 ∧ n + 1 ≤ 9223372036854775807) ∧
                    (M_ (n + 1) H_))) ∧
                ((decide (0 < x)) = false → (M_ n H_))) ∧
              (∀ (n2 : Int) (j_2 : Nat → Value) (H_2 : Hp), M_ n2 H_2 → (((-9223372036854775808) ≤ i + 1 ∧ i + 1 ≤ 9223372036854775807) ∧
                  (I_ n2 (i + 1) H_2 ∧ m_ n2 (i + 1) H_2 < m_ n i H_))))))) ∧
      ((decide (i < ((countsn : Nat) : Int))) = false → (R (.int .i64 n) H_))))
theorem f62.vc (φ : Fx) (countsA : Option Addr) (countsn countsc : Nat) (H : Hp) (R : Value → Hp → Prop) : fnW cx φ Try.f62 f62.an [.slice countsA countsn countsc] H R = f62.VC φ countsA countsn countsc H R := by kernel_rfl
theorem f62.of {φ : Fx} {countsA : Option Addr} {countsn countsc : Nat} {H : Hp} {R : Value → Hp → Prop} (h : f62.VC φ countsA countsn countsc H R) : HCalls cx.P φ 62 [.slice countsA countsn countsc] H R :=
  fnW_calls cx_ok (show cx.P.funcs[62]? = some Try.f62 by kernel_rfl) (by rw [f62.vc]; exact h)

def f63.an : An := .seq (.reg (.op false (.done))) (.seq (.reg (.op false (.op true (.op false (.done))))) (.seq (.seq (.reg (.op false (.op false (.done)))) (.join [(5, false, [.int .i64])] (.cond (.reg (.op false (.op false (.op false (.done))))) (.nil)))) (.seq (.reg (.op false (.op false (.op false (.done))))) (.seq (.blk (.loop [(5, false, [.int .i64])] (.seq (.seq (.reg (.op false (.op false (.op false (.op false (.done)))))) (.cond (.nil) (.nil))) (.blk (.reg (.op false (.op false (.op false (.done))))))))) (.seq (.reg (.op false (.op false (.done)))) (.nil))))))
def f63.VC (φ : Fx) (limit : Int) (n : Int) (H : Hp) (R : Value → Hp → Prop) : Prop :=
  (15 : Int) ≠ 0 ∧ (∃ M_ : Int → Hp → Prop, (((decide ((Int.tmod limit 15) < 0)) = true → (((-9223372036854775808) ≤ (Int.tmod limit 15) + 15 ∧ (Int.tmod limit 15) + 15 ≤ 9223372036854775807) ∧
          (M_ ((Int.tmod limit 15) + 15) H))) ∧
      ((decide ((Int.tmod limit 15) < 0)) = false → (M_ (Int.tmod limit 15) H))) ∧
    (∀ (l : Int) (j_ : Nat → Value) (H_ : Hp), M_ l H_ → (((-9223372036854775808) ≤ l + 1 ∧ l + 1 ≤ 9223372036854775807) ∧
        (∃ (I_ : Int → Hp → Prop) (m_ : Int → Hp → Nat), I_ (l + 1) H_ ∧
          (∀ (l2 : Int) (j_2 : Nat → Value) (H_2 : Hp), I_ l2 H_2 → ((0 : Int) ≤ l2 ∧ (((-9223372036854775808) ≤ (1 : Int) * 2 ^ (min (Int.toNat l2) 64) ∧ (1 : Int) * 2 ^ (min (Int.toNat l2) 64) ≤ 9223372036854775807) ∧
                (((decide (((1 : Int) * 2 ^ (min (Int.toNat l2) 64)) < n)) = true → (((-9223372036854775808) ≤ l2 + 1 ∧ l2 + 1 ≤ 9223372036854775807) ∧
                      (I_ (l2 + 1) H_2 ∧ m_ (l2 + 1) H_2 < m_ l2 H_2))) ∧
                  ((decide (((1 : Int) * 2 ^ (min (Int.toNat l2) 64)) < n)) = false → (R (.int .i64 l2) H_2))))))))))
theorem f63.vc (φ : Fx) (limit : Int) (n : Int) (H : Hp) (R : Value → Hp → Prop) : fnW cx φ Try.f63 f63.an [.int .i64 limit, .int .i64 n] H R = f63.VC φ limit n H R := by kernel_rfl
theorem f63.of {φ : Fx} {limit : Int} {n : Int} {H : Hp} {R : Value → Hp → Prop} (h : f63.VC φ limit n H R) : HCalls cx.P φ 63 [.int .i64 limit, .int .i64 n] H R :=
  fnW_calls cx_ok (show cx.P.funcs[63]? = some Try.f63 by kernel_rfl) (by rw [f63.vc]; exact h)

def f129.an : An := .seq (.reg (.op false (.done))) (.seq (.seq (.reg (.op false (.op false (.op false (.done))))) (.blk (.loop [(7, false, [.int .i64])] (.seq (.reg (.op false (.done))) (.seq (.cond (.nil) (.nil)) (.seq (.blk (.seq (.reg (.op false (.op false (.op false (.done))))) (.seq (.join [(16, false, [.bool])] (.reg (.op false (.op false (.op false (.split 13 (.op false (.op false (.op false (.done)))) (.op false (.op false (.op false (.done)))))))))) (.cond (.seq (.reg (.op false (.done))) (.nil)) (.nil))))) (.reg (.op false (.op false (.done)))))))))) (.seq (.reg (.op false (.done))) (.nil)))
def f129.VC (φ : Fx) (lensA : Option Addr) (lensn lensc : Nat) (H : Hp) (R : Value → Hp → Prop) : Prop :=
  ∃ (I_ : Int → Hp → Prop) (m_ : Int → Hp → Nat), I_ 0 H ∧
  (∀ (x : Int) (j_ : Nat → Value) (H_ : Hp), I_ x H_ → (((decide (x < ((lensn : Nat) : Int))) = true → (∃ (b o : Nat), lensA = some ⟨b, o, none⟩ ∧ (0 ≤ x ∧ x < ((lensn : Nat) : Int)) ∧
          (∃ (x2 : Int), cel H_ b (o + Int.toNat x * 1) = some (.int .i64 x2) ∧ (∃ M_ : Bool → Hp → Prop, (((decide (x2 < 0)) = true → (M_ true H_)) ∧
                ((decide (x2 < 0)) = false → (M_ (decide (15 < x2)) H_))) ∧
              (∀ (x3 : Bool) (j_2 : Nat → Value) (H_2 : Hp), M_ x3 H_2 → ((x3 = true → (R (.bool false) H_2)) ∧
                  (x3 = false → (((-9223372036854775808) ≤ x + 1 ∧ x + 1 ≤ 9223372036854775807) ∧
                      (I_ (x + 1) H_2 ∧ m_ (x + 1) H_2 < m_ x H_))))))))) ∧
      ((decide (x < ((lensn : Nat) : Int))) = false → (R (.bool true) H_))))
theorem f129.vc (φ : Fx) (lensA : Option Addr) (lensn lensc : Nat) (H : Hp) (R : Value → Hp → Prop) : fnW cx φ Try.f129 f129.an [.slice lensA lensn lensc] H R = f129.VC φ lensA lensn lensc H R := by kernel_rfl
theorem f129.of {φ : Fx} {lensA : Option Addr} {lensn lensc : Nat} {H : Hp} {R : Value → Hp → Prop} (h : f129.VC φ lensA lensn lensc H R) : HCalls cx.P φ 129 [.slice lensA lensn lensc] H R :=
  fnW_calls cx_ok (show cx.P.funcs[129]? = some Try.f129 by kernel_rfl) (by rw [f129.vc]; exact h)

def f64.an : An := .seq (.reg (.op false (.op false (.done)))) (.seq (.seq (.join [(15, false, [.bool])] (.reg (.op false (.op false (.op false (.op false (.split 11 (.op false (.op false (.op false (.op false (.done))))) (.op false (.op false (.op false (.op false (.done)))))))))))) (.cond (.seq (.reg (.op false (.op false (.done)))) (.nil)) (.nil))) (.seq (.seq (.join [(23, false, [.bool])] (.reg (.op false (.op false (.op false (.op false (.split 19 (.op false (.op false (.op false (.op false (.done))))) (.op false (.op false (.op false (.op false (.done)))))))))))) (.cond (.seq (.reg (.op false (.op false (.done)))) (.nil)) (.nil))) (.seq (.reg (.op false (.done))) (.seq (.seq (.reg (.op false (.op false (.op false (.op false (.op false (.op false (.done)))))))) (.blk (.loop [(6, false, [.int .i64]), (29, false, [.int .i64])] (.seq (.reg (.op false (.done))) (.seq (.cond (.nil) (.nil)) (.seq (.blk (.seq (.reg (.op false (.op false (.done)))) (.draw [[], [], [], [1, 2], [1, 2, 3], [], [], [5, 6], [5, 6, 7], [1, 2, 3, 4, 5, 6, 7, 8], [0, 1, 2, 3, 4, 5, 6, 7, 8, 9], [0, 1, 2, 3, 4, 5, 6, 7, 8, 9, 10]] (.rd 0 false (.rd 1 false (.rd 2 false (.rd 3 false (.rd 4 false (.rd 5 false (.rd 6 false (.rd 7 false (.rd 8 false (.rd 9 false (.rd 10 false (.rd 11 false (.done)))))))))))))))) (.reg (.op false (.op false (.done)))))))))) (.seq (.reg (.op false (.op false (.op false (.done))))) (.nil))))))
def f64.VC (φ : Fx) (countsA : Option Addr) (countsn countsc : Nat) (lensA : Option Addr) (lensn lensc : Nat) (H : Hp) (R : Value → Hp → Prop) : Prop :=
  ∃ M_ : Bool → Hp → Prop, (((decide (256 < ((countsn : Nat) : Int))) = true → (M_ true H)) ∧
    ((decide (256 < ((countsn : Nat) : Int))) = false → (M_ (decide (256 < ((lensn : Nat) : Int))) H))) ∧
  (∀ (x : Bool) (j_ : Nat → Value) (H_ : Hp), M_ x H_ → ((x = true → (R (.tuple #[.int .i64 0, .int .i64 2]) H_)) ∧
      (x = false → (∃ M_2 : Bool → Hp → Prop, (HCalls cx.P φ 122 [.slice countsA countsn countsc] H_ (fun v H_2 => ∃ (x2 : Int), v = .int .i64 x2 ∧ (((!decide (x2 = 0)) = true → (M_2 true H_2)) ∧
                ((!decide (x2 = 0)) = false → (HCalls cx.P φ 129 [.slice lensA lensn lensc] H_2 (fun v2 H_3 => ∃ (x3 : Bool), v2 = .bool x3 ∧ (M_2 (!x3) H_3))))))) ∧
          (∀ (x4 : Bool) (j_2 : Nat → Value) (H_4 : Hp), M_2 x4 H_4 → ((x4 = true → (R (.tuple #[.int .i64 0, .int .i64 3]) H_4)) ∧
              (x4 = false → (∃ (I_ : Int → Int → Hp → Prop) (m_ : Int → Int → Hp → Nat), I_ 0 0 H_4 ∧
                  (∀ (sum : Int) (x5 : Int) (j_3 : Nat → Value) (H_5 : Hp), I_ sum x5 H_5 → (((decide (x5 < (min ((countsn : Nat) : Int) ((lensn : Nat) : Int)))) = true → (∃ (b o : Nat), countsA = some ⟨b, o, none⟩ ∧ (0 ≤ x5 ∧ x5 < ((countsn : Nat) : Int)) ∧
                          (∃ (x6 : Int), cel H_5 b (o + Int.toNat x5 * 1) = some (.int .i64 x6) ∧ (∃ (b2 o2 : Nat), lensA = some ⟨b2, o2, none⟩ ∧ (0 ≤ x5 ∧ x5 < ((lensn : Nat) : Int)) ∧
                              (∃ (x7 : Int), cel H_5 b2 (o2 + Int.toNat x5 * 1) = some (.int .i64 x7) ∧ (((-9223372036854775808) ≤ x6 * x7 ∧ x6 * x7 ≤ 9223372036854775807) ∧
                                  (((-9223372036854775808) ≤ sum + (x6 * x7) ∧ sum + (x6 * x7) ≤ 9223372036854775807) ∧
                                    (((-9223372036854775808) ≤ x5 + 1 ∧ x5 + 1 ≤ 9223372036854775807) ∧
                                      (I_ (sum + (x6 * x7)) (x5 + 1) H_5 ∧ m_ (sum + (x6 * x7)) (x5 + 1) H_5 < m_ sum x5 H_5))))))))) ∧
                      ((decide (x5 < (min ((countsn : Nat) : Int) ((lensn : Nat) : Int)))) = false → (R (.tuple #[.int .i64 sum, .int .i64 0]) H_5))))))))))))
theorem f64.vc (φ : Fx) (countsA : Option Addr) (countsn countsc : Nat) (lensA : Option Addr) (lensn lensc : Nat) (H : Hp) (R : Value → Hp → Prop) : fnW cx φ Try.f64 f64.an [.slice countsA countsn countsc, .slice lensA lensn lensc] H R = f64.VC φ countsA countsn countsc lensA lensn lensc H R := by kernel_rfl
theorem f64.of {φ : Fx} {countsA : Option Addr} {countsn countsc : Nat} {lensA : Option Addr} {lensn lensc : Nat} {H : Hp} {R : Value → Hp → Prop} (h : f64.VC φ countsA countsn countsc lensA lensn lensc H R) : HCalls cx.P φ 64 [.slice countsA countsn countsc, .slice lensA lensn lensc] H R :=
  fnW_calls cx_ok (show cx.P.funcs[64]? = some Try.f64 by kernel_rfl) (by rw [f64.vc]; exact h)

def f65.an : An := .seq (.reg (.op false (.done))) (.seq (.reg (.op false (.done))) (.seq (.seq (.reg (.op false (.done))) (.blk (.loop [(3, false, [.int .i64]), (4, false, [.int .i64])] (.seq (.seq (.reg (.op false (.op false (.op false (.op false (.done)))))) (.cond (.nil) (.nil))) (.seq (.blk (.seq (.join [(22, false, [.bool])] (.reg (.op false (.op false (.op false (.op false (.op false (.op false (.split 16 (.op false (.op false (.op false (.op false (.op false (.op false (.done))))))) (.op false (.op false (.op false (.op false (.op false (.op false (.done)))))))))))))))) (.join [(3, false, [.int .i64])] (.cond (.reg (.op false (.op false (.op false (.op false (.op false (.op false (.op false (.op false (.op false (.done))))))))))) (.nil))))) (.reg (.op false (.op false (.op false (.done)))))))))) (.seq (.reg (.op false (.op false (.done)))) (.nil))))
def f65.VC (φ : Fx) (lensA : Option Addr) (lensn lensc : Nat) (H : Hp) (R : Value → Hp → Prop) : Prop :=
  ∃ (I_ : Int → Int → Hp → Prop) (m_ : Int → Int → Hp → Nat), I_ 0 0 H ∧
  (∀ (sum : Int) (i : Int) (j_ : Nat → Value) (H_ : Hp), I_ sum i H_ → (((decide (i < ((lensn : Nat) : Int))) = true → (∃ M_ : Bool → Hp → Prop, (∃ (b o : Nat), lensA = some ⟨b, o, none⟩ ∧ (0 ≤ i ∧ i < ((lensn : Nat) : Int)) ∧
            (∃ (x : Int), cel H_ b (o + Int.toNat i * 1) = some (.int .i64 x) ∧ (((decide (0 < x)) = true → (∃ (b2 o2 : Nat), lensA = some ⟨b2, o2, none⟩ ∧ (0 ≤ i ∧ i < ((lensn : Nat) : Int)) ∧
                    (∃ (x2 : Int), cel H_ b2 (o2 + Int.toNat i * 1) = some (.int .i64 x2) ∧ (M_ (decide (x2 ≤ 15)) H_)))) ∧
                ((decide (0 < x)) = false → (M_ false H_))))) ∧
          (∀ (x3 : Bool) (j_2 : Nat → Value) (H_2 : Hp), M_ x3 H_2 → (∃ M_2 : Int → Hp → Prop, ((x3 = true → (∃ (b3 o3 : Nat), lensA = some ⟨b3, o3, none⟩ ∧ (0 ≤ i ∧ i < ((lensn : Nat) : Int)) ∧
                    (∃ (x4 : Int), cel H_2 b3 (o3 + Int.toNat i * 1) = some (.int .i64 x4) ∧ (((-9223372036854775808) ≤ 15 - x4 ∧ 15 - x4 ≤ 9223372036854775807) ∧
                        ((0 : Int) ≤ (15 - x4) ∧ (((-9223372036854775808) ≤ (1 : Int) * 2 ^ (min (Int.toNat (15 - x4)) 64) ∧ (1 : Int) * 2 ^ (min (Int.toNat (15 - x4)) 64) ≤ 9223372036854775807) ∧
                            (((-9223372036854775808) ≤ sum + ((1 : Int) * 2 ^ (min (Int.toNat (15 - x4)) 64)) ∧ sum + ((1 : Int) * 2 ^ (min (Int.toNat (15 - x4)) 64)) ≤ 9223372036854775807) ∧
                              (M_2 (sum + ((1 : Int) * 2 ^ (min (Int.toNat (15 - x4)) 64))) H_2)))))))) ∧
                (x3 = false → (M_2 sum H_2))) ∧
              (∀ (sum2 : Int) (j_3 : Nat → Value) (H_3 : Hp), M_2 sum2 H_3 → (((-9223372036854775808) ≤ i + 1 ∧ i + 1 ≤ 9223372036854775807) ∧
                  (I_ sum2 (i + 1) H_3 ∧ m_ sum2 (i + 1) H_3 < m_ sum i H_))))))) ∧
      ((decide (i < ((lensn : Nat) : Int))) = false → (R (.int .i64 sum) H_))))
theorem f65.vc (φ : Fx) (lensA : Option Addr) (lensn lensc : Nat) (H : Hp) (R : Value → Hp → Prop) : fnW cx φ Try.f65 f65.an [.slice lensA lensn lensc] H R = f65.VC φ lensA lensn lensc H R := by kernel_rfl
theorem f65.of {φ : Fx} {lensA : Option Addr} {lensn lensc : Nat} {H : Hp} {R : Value → Hp → Prop} (h : f65.VC φ lensA lensn lensc H R) : HCalls cx.P φ 65 [.slice lensA lensn lensc] H R :=
  fnW_calls cx_ok (show cx.P.funcs[65]? = some Try.f65 by kernel_rfl) (by rw [f65.vc]; exact h)

def f8.an : An := .seq (.reg (.op false (.done))) (.seq (.reg (.op false (.op false (.op false (.done))))) (.seq (.reg (.op false (.op false (.op false (.done))))) (.seq (.reg (.op false (.op false (.op false (.op false (.done)))))) (.seq (.reg (.op false (.op false (.op false (.op false (.op false (.op false (.op false (.op false (.done)))))))))) (.seq (.reg (.op false (.op false (.op false (.op false (.op false (.op false (.op false (.op false (.done)))))))))) (.seq (.seq (.join [(51, false, [.bool])] (.reg (.op false (.op false (.op false (.split 41 (.op false (.op false (.op false (.op false (.op false (.op false (.op false (.op false (.op false (.op false (.done))))))))))) (.op false (.op false (.op false (.op false (.split 45 (.op false (.op false (.op false (.op false (.op false (.op false (.done))))))) (.op false (.op false (.op false (.op false (.op false (.op false (.done)))))))))))))))))) (.cond (.seq (.reg (.op false (.done))) (.nil)) (.nil))) (.seq (.seq (.reg (.op false (.done))) (.blk (.loop [(14, false, [.int .i64])] (.seq (.seq (.reg (.op false (.op false (.op false (.op false (.done)))))) (.cond (.nil) (.nil))) (.seq (.blk (.seq (.join [(83, false, [.bool])] (.draw [[], [], [0, 1], [0, 1, 2], [0, 1, 2, 3], [0, 1, 2, 3, 4], [0, 1, 2, 3, 4, 5], [0, 1, 2, 3, 4, 5], [0, 1, 2, 3, 4, 5, 6, 7], [0, 1, 2, 3, 4, 5, 6, 7, 8], [0, 1, 2, 3, 4, 5], [0, 1, 2, 3, 4, 5, 6, 7, 8, 9, 10], [0, 1, 2, 3, 4, 5, 6, 7, 8, 9, 10, 11], [0, 1, 2, 3, 4, 5, 6, 7, 8, 9, 10, 11, 12], [0, 1, 2, 3, 4, 5, 6, 7, 8, 9, 10, 11, 12, 13], [0, 1, 2, 3, 4, 5, 6, 7, 8, 9, 10, 11, 12, 13], [0, 1, 2, 3, 4, 5, 6, 7, 8, 9, 10, 11, 12, 13, 14, 15], [0, 1, 2, 3, 4, 5, 6, 7, 8, 9, 10, 11, 12, 13, 14, 15, 16], [0, 1, 2, 3, 4, 5, 6, 7, 8, 9, 10, 11, 12, 13, 14, 15, 16, 17], [0, 1, 2, 3, 4, 5, 6, 7, 8, 9, 10, 11, 12, 13], [0, 1, 2, 3, 4, 5, 6, 7, 8, 9, 10, 11, 12, 13], [0, 1, 2, 3, 4, 5, 6, 7, 8, 9, 10, 11, 12, 13, 19, 20], [0, 1, 2, 3, 4, 5, 6, 7, 8, 9, 10, 11, 12, 13, 19, 20, 21], [0, 1, 2, 3, 4, 5, 6, 7, 8, 9, 10, 11, 12, 13, 19, 20, 21, 22], [0, 1, 2, 3, 4, 5, 6, 7, 8, 9, 10, 11, 12, 13, 14, 15, 16, 17, 18, 19, 20, 21, 22, 23], [0, 1, 2, 3, 4, 5, 6, 7, 8, 9, 10, 11, 12, 13, 14, 15, 16, 17, 18, 19, 20, 21, 22, 23, 24]] (.rd 0 false (.rd 1 false (.rd 2 false (.rd 3 false (.rd 4 false (.rd 5 false (.split 63 (.rd 6 false (.rd 7 false (.rd 8 false (.rd 9 false (.rd 10 false (.rd 11 false (.rd 12 false (.rd 13 false (.rd 14 false (.rd 15 false (.rd 16 false (.rd 17 false (.rd 18 false (.rd 19 false (.rd 20 false (.rd 21 false (.rd 22 false (.rd 23 false (.rd 24 false (.rd 25 false (.done))))))))))))))))))))) (.rd 6 false (.rd 7 false (.rd 8 false (.rd 9 false (.rd 10 false (.rd 11 false (.rd 12 false (.rd 13 false (.split 71 (.rd 14 false (.rd 15 false (.rd 16 false (.rd 17 false (.rd 18 false (.rd 19 false (.rd 20 false (.rd 21 false (.rd 22 false (.rd 23 false (.rd 24 false (.rd 25 false (.done))))))))))))) (.rd 14 false (.rd 15 false (.rd 16 false (.rd 17 false (.rd 18 false (.rd 19 false (.rd 20 false (.rd 21 false (.rd 22 false (.rd 23 false (.rd 24 false (.rd 25 false (.done))))))))))))))))))))))))))))))) (.cond (.seq (.reg (.op false (.done))) (.nil)) (.nil)))) (.reg (.op false (.op false (.op false (.done)))))))))) (.seq (.reg (.op false (.op false (.op false (.op false (.done)))))) (.seq (.seq (.reg (.op false (.done))) (.blk (.loop [(16, false, [.int .i64])] (.seq (.seq (.reg (.op false (.op false (.op false (.op false (.done)))))) (.cond (.nil) (.nil))) (.seq (.join [] (.blk (.seq (.seq (.reg (.op false (.op false (.op false (.op false (.op false (.done))))))) (.cond (.nil) (.nil))) (.seq (.reg (.op false (.op false (.op false (.op false (.op false (.done))))))) (.seq (.seq (.reg (.op false (.op false (.op false (.op false (.done)))))) (.join [] (.cond (.reg (.op false (.op false (.op false (.op false (.op false (.op false (.op false (.op false (.op false (.done))))))))))) (.nil)))) (.reg (.op false (.op false (.op false (.op false (.op false (.op false (.op false (.op false (.op false (.op false (.done))))))))))))))))) (.reg (.op false (.op false (.op false (.done)))))))))) (.seq (.seq (.reg (.op false (.done))) (.blk (.loop [(17, false, [.int .i64])] (.seq (.seq (.join [(131, false, [.bool])] (.reg (.op false (.op false (.op false (.op false (.op false (.split 127 (.op false (.op false (.op false (.op false (.done))))) (.op false (.op false (.op false (.op false (.done))))))))))))) (.cond (.nil) (.nil))) (.seq (.blk (.blk (.loop [] (.seq (.seq (.join [(151, false, [.bool])] (.reg (.op false (.op false (.op false (.op false (.op false (.op false (.split 139 (.op false (.op false (.op false (.op false (.op false (.op false (.op false (.op false (.split 147 (.op false (.op false (.op false (.op false (.done))))) (.op false (.op false (.op false (.op false (.done)))))))))))))) (.op false (.op false (.op false (.op false (.op false (.op false (.op false (.op false (.op false (.op false (.op false (.op false (.done)))))))))))))))))))))) (.cond (.nil) (.nil))) (.blk (.reg (.op false (.op false (.op false (.op false (.op false (.op false (.op false (.done)))))))))))))) (.reg (.op false (.op false (.op false (.done)))))))))) (.seq (.seq (.reg (.op false (.op false (.op false (.done))))) (.cond (.seq (.reg (.op false (.done))) (.nil)) (.nil))) (.seq (.reg (.op false (.done))) (.seq (.seq (.reg (.op false (.done))) (.blk (.loop [(18, false, [.int .i64]), (19, false, [.int .i64])] (.seq (.seq (.reg (.op false (.op false (.op false (.op false (.done)))))) (.cond (.nil) (.nil))) (.seq (.blk (.draw [[], [], [], [1, 2], [1, 2, 3], [], [], [5, 6], [5, 6, 7], [1, 2, 3, 4, 5, 6, 7, 8], [0, 1, 2, 3, 4, 5, 6, 7, 8, 9], [0, 1, 2, 3, 4, 5, 6, 7, 8, 9, 10]] (.rd 0 false (.rd 1 false (.rd 2 false (.rd 3 false (.rd 4 false (.rd 5 false (.rd 6 false (.rd 7 false (.rd 8 false (.rd 9 false (.rd 10 false (.rd 11 false (.done))))))))))))))) (.reg (.op false (.op false (.op false (.done)))))))))) (.seq (.join [(6, false, [.bool])] (.reg (.op false (.op false (.op false (.op false (.split 181 (.op false (.op false (.op false (.op false (.op false (.done)))))) (.op false (.op false (.op false (.op false (.op false (.done))))))))))))) (.nil)))))))))))))))
def f8.VC (φ : Fx) (countsA : Option Addr) (countsn countsc : Nat) (limit : Int) (othersA : Option Addr) (othersn othersc : Nat) (H : Hp) (R : Value → Hp → Prop) : Prop :=
  HCalls cx.P φ 61 [.slice countsA countsn countsc] H (fun v H_ => ∃ (A : Option Addr) (n c : Nat), v = .slice A n c ∧ (HCalls cx.P φ 62 [.slice A n c] H_ (fun v2 H_2 => ∃ (x : Int), v2 = .int .i64 x ∧ (HCalls cx.P φ 63 [.int .i64 limit, .int .i64 x] H_2 (fun v3 H_3 => ∃ (x2 : Int), v3 = .int .i64 x2 ∧ (HCalls cx.P φ 56 [.slice A n c, .int .i64 x2] H_3 (fun v4 H_4 => ∃ (A2 : Option Addr) (n2 c2 : Nat), ∃ (x3 : Int), v4 = .tuple #[.slice A2 n2 c2, .int .i64 x3] ∧ (HCalls cx.P φ 64 [.slice A n c, .slice A2 n2 c2] H_4 (fun v5 H_5 => ∃ (x4 : Int), ∃ (x5 : Int), v5 = .tuple #[.int .i64 x4, .int .i64 x5] ∧ (∃ M_ : Bool → Hp → Prop, (((!decide (x3 = 0)) = true → (M_ true H_5)) ∧
                        ((!decide (x3 = 0)) = false → (((!decide (x5 = 0)) = true → (M_ true H_5)) ∧
                            ((!decide (x5 = 0)) = false → (M_ (!decide (((n2 : Nat) : Int) = ((n : Nat) : Int))) H_5))))) ∧
                      (∀ (x6 : Bool) (j_ : Nat → Value) (H_6 : Hp), M_ x6 H_6 → ((x6 = true → (R (.bool false) H_6)) ∧
                          (x6 = false → (∃ (I_ : Int → Hp → Prop) (m_ : Int → Hp → Nat), I_ 0 H_6 ∧
                              (∀ (i : Int) (j_2 : Nat → Value) (H_7 : Hp), I_ i H_7 → (((decide (i < ((n : Nat) : Int))) = true → (∃ M_2 : Bool → Hp → Prop, (∃ (b o : Nat), A2 = some ⟨b, o, none⟩ ∧ (0 ≤ i ∧ i < ((n2 : Nat) : Int)) ∧
                                        (∃ (x7 : Int), cel H_7 b (o + Int.toNat i * 1) = some (.int .i64 x7) ∧ (((decide (x7 < 0)) = true → (M_2 true H_7)) ∧
                                            ((decide (x7 < 0)) = false → (∃ (b2 o2 : Nat), A2 = some ⟨b2, o2, none⟩ ∧ (0 ≤ i ∧ i < ((n2 : Nat) : Int)) ∧
                                                (∃ (x8 : Int), cel H_7 b2 (o2 + Int.toNat i * 1) = some (.int .i64 x8) ∧ (((decide (x2 < x8)) = true → (M_2 true H_7)) ∧
                                                    ((decide (x2 < x8)) = false → (∃ (b3 o3 : Nat), A2 = some ⟨b3, o3, none⟩ ∧ (0 ≤ i ∧ i < ((n2 : Nat) : Int)) ∧
                                                        (∃ (x9 : Int), cel H_7 b3 (o3 + Int.toNat i * 1) = some (.int .i64 x9) ∧ (∃ (b4 o4 : Nat), A = some ⟨b4, o4, none⟩ ∧ (0 ≤ i ∧ i < ((n : Nat) : Int)) ∧
                                                            (∃ (x10 : Int), cel H_7 b4 (o4 + Int.toNat i * 1) = some (.int .i64 x10) ∧ (M_2 (!((decide (0 < x9)) == (decide (0 < x10)))) H_7))))))))))))) ∧
                                      (∀ (x11 : Bool) (j_3 : Nat → Value) (H_8 : Hp), M_2 x11 H_8 → ((x11 = true → (R (.bool false) H_8)) ∧
                                          (x11 = false → (((-9223372036854775808) ≤ i + 1 ∧ i + 1 ≤ 9223372036854775807) ∧
                                              (I_ (i + 1) H_8 ∧ m_ (i + 1) H_8 < m_ i H_7))))))) ∧
                                  ((decide (i < ((n : Nat) : Int))) = false → ((0 ≤ ((n : Nat) : Int) ∧ ((n : Nat) : Int) ≤ ((n : Nat) : Int) ∧ ((n : Nat) : Int) * 8 ≤ 281474976710656) ∧
                                      (let H_9 : Hp := Array.push H_7 (.cells (zrow [.int .i64 0] (Int.toNat ((n : Nat) : Int))).toArray 3 (0, 0));
                                        (∃ (I_2 : Int → Hp → Prop) (m_2 : Int → Hp → Nat), I_2 0 H_9 ∧
                                          (∀ (i2 : Int) (j_4 : Nat → Value) (H_10 : Hp), I_2 i2 H_10 → (((decide (i2 < ((n : Nat) : Int))) = true → (∃ M_3 : Hp → Prop, (∃ (b5 o5 : Nat), A = some ⟨b5, o5, none⟩ ∧ (0 ≤ i2 ∧ i2 < ((n : Nat) : Int)) ∧
                                                    (∃ (x12 : Int), cel H_10 b5 (o5 + Int.toNat i2 * 1) = some (.int .i64 x12) ∧ (((decide (x12 = 0)) = true → (M_3 H_10)) ∧
                                                        ((decide (x12 = 0)) = false → (∃ (b6 o6 : Nat), (some (⟨Array.size H_7, 0, none⟩ : Addr)) = some ⟨b6, o6, none⟩ ∧ (0 ≤ i2 ∧ i2 < ((Int.toNat ((n : Nat) : Int) : Nat) : Int)) ∧
                                                            (canPut H_10 b6 (o6 + Int.toNat i2 * 1) [.int .i64 x2] ∧
                                                              (let H_11 : Hp := hput H_10 b6 (o6 + Int.toNat i2 * 1) [.int .i64 x2];
                                                                (∃ M_4 : Hp → Prop, (((decide (i2 < ((othersn : Nat) : Int))) = true → (∃ (b7 o7 : Nat), othersA = some ⟨b7, o7, none⟩ ∧ (0 ≤ i2 ∧ i2 < ((othersn : Nat) : Int)) ∧
                                                                        (∃ (x13 : Int), cel H_11 b7 (o7 + Int.toNat i2 * 1) = some (.int .i64 x13) ∧ (HCalls cx.P φ 63 [.int .i64 x13, .int .i64 0] H_11 (fun v6 H_12 => ∃ (x14 : Int), v6 = .int .i64 x14 ∧ (∃ (b8 o8 : Nat), (some (⟨Array.size H_7, 0, none⟩ : Addr)) = some ⟨b8, o8, none⟩ ∧ (0 ≤ i2 ∧ i2 < ((Int.toNat ((n : Nat) : Int) : Nat) : Int)) ∧
                                                                                (canPut H_12 b8 (o8 + Int.toNat i2 * 1) [.int .i64 x14] ∧
                                                                                (let H_13 : Hp := hput H_12 b8 (o8 + Int.toNat i2 * 1) [.int .i64 x14];
                                                                                (M_4 H_13))))))))) ∧
                                                                    ((decide (i2 < ((othersn : Nat) : Int))) = false → (M_4 H_11))) ∧
                                                                  (∀  (j_5 : Nat → Value) (H_14 : Hp), M_4 H_14 → (∃ (b9 o9 : Nat), (some (⟨Array.size H_7, 0, none⟩ : Addr)) = some ⟨b9, o9, none⟩ ∧ (0 ≤ i2 ∧ i2 < ((Int.toNat ((n : Nat) : Int) : Nat) : Int)) ∧
                                                                      (∃ (x15 : Int), cel H_14 b9 (o9 + Int.toNat i2 * 1) = some (.int .i64 x15) ∧ (∃ (b10 o10 : Nat), (some (⟨Array.size H_7, 0, none⟩ : Addr)) = some ⟨b10, o10, none⟩ ∧ (0 ≤ i2 ∧ i2 < ((Int.toNat ((n : Nat) : Int) : Nat) : Int)) ∧
                                                                          (canPut H_14 b10 (o10 + Int.toNat i2 * 1) [.int .i64 (min x15 x2)] ∧
                                                                            (let H_15 : Hp := hput H_14 b10 (o10 + Int.toNat i2 * 1) [.int .i64 (min x15 x2)];
                                                                              (M_3 H_15))))))))))))))) ∧
                                                  (∀  (j_6 : Nat → Value) (H_16 : Hp), M_3 H_16 → (((-9223372036854775808) ≤ i2 + 1 ∧ i2 + 1 ≤ 9223372036854775807) ∧
                                                      (I_2 (i2 + 1) H_16 ∧ m_2 (i2 + 1) H_16 < m_2 i2 H_10))))) ∧
                                              ((decide (i2 < ((n : Nat) : Int))) = false → (∃ (I_3 : Int → Hp → Prop) (m_3 : Int → Hp → Nat), I_3 0 H_10 ∧
                                                  (∀ (i3 : Int) (j_7 : Nat → Value) (H_17 : Hp), I_3 i3 H_17 → (∃ M_5 : Bool → Hp → Prop, (((decide (i3 < ((Int.toNat ((n : Nat) : Int) : Nat) : Int))) = true → (HCalls cx.P φ 65 [.slice (some (⟨Array.size H_7, 0, none⟩ : Addr)) (Int.toNat ((n : Nat) : Int)) (Int.toNat ((n : Nat) : Int))] H_17 (fun v7 H_18 => ∃ (x16 : Int), v7 = .int .i64 x16 ∧ (M_5 (decide (32768 < x16)) H_18)))) ∧
                                                        ((decide (i3 < ((Int.toNat ((n : Nat) : Int) : Nat) : Int))) = false → (M_5 false H_17))) ∧
                                                      (∀ (x17 : Bool) (j_8 : Nat → Value) (H_19 : Hp), M_5 x17 H_19 → ((x17 = true → (∃ (I_4 : Hp → Prop) (m_4 : Hp → Nat), I_4 H_19 ∧
                                                              (∀  (j_9 : Nat → Value) (H_20 : Hp), I_4 H_20 → (∃ M_6 : Bool → Hp → Prop, (∃ (b11 o11 : Nat), (some (⟨Array.size H_7, 0, none⟩ : Addr)) = some ⟨b11, o11, none⟩ ∧ (0 ≤ i3 ∧ i3 < ((Int.toNat ((n : Nat) : Int) : Nat) : Int)) ∧
                                                                    (∃ (x18 : Int), cel H_20 b11 (o11 + Int.toNat i3 * 1) = some (.int .i64 x18) ∧ (((decide (0 < x18)) = true → (∃ (b12 o12 : Nat), (some (⟨Array.size H_7, 0, none⟩ : Addr)) = some ⟨b12, o12, none⟩ ∧ (0 ≤ i3 ∧ i3 < ((Int.toNat ((n : Nat) : Int) : Nat) : Int)) ∧
                                                                            (∃ (x19 : Int), cel H_20 b12 (o12 + Int.toNat i3 * 1) = some (.int .i64 x19) ∧ (((decide (x19 < x2)) = true → (HCalls cx.P φ 65 [.slice (some (⟨Array.size H_7, 0, none⟩ : Addr)) (Int.toNat ((n : Nat) : Int)) (Int.toNat ((n : Nat) : Int))] H_20 (fun v8 H_21 => ∃ (x20 : Int), v8 = .int .i64 x20 ∧ (M_6 (decide (32768 < x20)) H_21)))) ∧
                                                                                ((decide (x19 < x2)) = false → (M_6 false H_20)))))) ∧
                                                                        ((decide (0 < x18)) = false → (M_6 false H_20))))) ∧
                                                                  (∀ (x21 : Bool) (j_10 : Nat → Value) (H_22 : Hp), M_6 x21 H_22 → ((x21 = true → (∃ (b13 o13 : Nat), (some (⟨Array.size H_7, 0, none⟩ : Addr)) = some ⟨b13, o13, none⟩ ∧ (0 ≤ i3 ∧ i3 < ((Int.toNat ((n : Nat) : Int) : Nat) : Int)) ∧
                                                                          (∃ (x22 : Int), cel H_22 b13 (o13 + Int.toNat i3 * 1) = some (.int .i64 x22) ∧ (((-9223372036854775808) ≤ x22 + 1 ∧ x22 + 1 ≤ 9223372036854775807) ∧
                                                                              (∃ (b14 o14 : Nat), (some (⟨Array.size H_7, 0, none⟩ : Addr)) = some ⟨b14, o14, none⟩ ∧ (0 ≤ i3 ∧ i3 < ((Int.toNat ((n : Nat) : Int) : Nat) : Int)) ∧
                                                                                (canPut H_22 b14 (o14 + Int.toNat i3 * 1) [.int .i64 (x22 + 1)] ∧
                                                                                (let H_23 : Hp := hput H_22 b14 (o14 + Int.toNat i3 * 1) [.int .i64 (x22 + 1)];
                                                                                (I_4 H_23 ∧ m_4 H_23 < m_4 H_20)))))))) ∧
                                                                      (x21 = false → (((-9223372036854775808) ≤ i3 + 1 ∧ i3 + 1 ≤ 9223372036854775807) ∧
                                                                          (I_3 (i3 + 1) H_22 ∧ m_3 (i3 + 1) H_22 < m_3 i3 H_17))))))))) ∧
                                                          (x17 = false → (HCalls cx.P φ 65 [.slice (some (⟨Array.size H_7, 0, none⟩ : Addr)) (Int.toNat ((n : Nat) : Int)) (Int.toNat ((n : Nat) : Int))] H_19 (fun v9 H_24 => ∃ (x23 : Int), v9 = .int .i64 x23 ∧ (((decide (32768 < x23)) = true → (R (.bool false) H_24)) ∧
                                                                  ((decide (32768 < x23)) = false → (∃ (I_5 : Int → Int → Hp → Prop) (m_5 : Int → Int → Hp → Nat), I_5 0 0 H_24 ∧
                                                                      (∀ (sum : Int) (i4 : Int) (j_11 : Nat → Value) (H_25 : Hp), I_5 sum i4 H_25 → (((decide (i4 < ((n : Nat) : Int))) = true → (∃ (b15 o15 : Nat), A = some ⟨b15, o15, none⟩ ∧ (0 ≤ i4 ∧ i4 < ((n : Nat) : Int)) ∧
                                                                              (∃ (x24 : Int), cel H_25 b15 (o15 + Int.toNat i4 * 1) = some (.int .i64 x24) ∧ (∃ (b16 o16 : Nat), (some (⟨Array.size H_7, 0, none⟩ : Addr)) = some ⟨b16, o16, none⟩ ∧ (0 ≤ i4 ∧ i4 < ((Int.toNat ((n : Nat) : Int) : Nat) : Int)) ∧
                                                                                (∃ (x25 : Int), cel H_25 b16 (o16 + Int.toNat i4 * 1) = some (.int .i64 x25) ∧ (((-9223372036854775808) ≤ x24 * x25 ∧ x24 * x25 ≤ 9223372036854775807) ∧
                                                                                (((-9223372036854775808) ≤ sum + (x24 * x25) ∧ sum + (x24 * x25) ≤ 9223372036854775807) ∧
                                                                                (((-9223372036854775808) ≤ i4 + 1 ∧ i4 + 1 ≤ 9223372036854775807) ∧
                                                                                (I_5 (sum + (x24 * x25)) (i4 + 1) H_25 ∧ m_5 (sum + (x24 * x25)) (i4 + 1) H_25 < m_5 sum i4 H_25))))))))) ∧
                                                                          ((decide (i4 < ((n : Nat) : Int))) = false → (∃ M_7 : Bool → Hp → Prop, (HCalls cx.P φ 65 [.slice A2 n2 c2] H_25 (fun v10 H_26 => ∃ (x26 : Int), v10 = .int .i64 x26 ∧ (((decide (x26 ≤ 32768)) = true → (M_7 (decide (x4 ≤ sum)) H_26)) ∧
                                                                                ((decide (x26 ≤ 32768)) = false → (M_7 false H_26))))) ∧
                                                                              (∀ (x27 : Bool) (j_12 : Nat → Value) (H_27 : Hp), M_7 x27 H_27 → (R (.bool x27) H_27))))))))))))))))))))))))))))))))))))))))
theorem f8.vc (φ : Fx) (countsA : Option Addr) (countsn countsc : Nat) (limit : Int) (othersA : Option Addr) (othersn othersc : Nat) (H : Hp) (R : Value → Hp → Prop) : fnW cx φ Try.f8 f8.an [.slice countsA countsn countsc, .int .i64 limit, .slice othersA othersn othersc] H R = f8.VC φ countsA countsn countsc limit othersA othersn othersc H R := by kernel_rfl
theorem f8.of {φ : Fx} {countsA : Option Addr} {countsn countsc : Nat} {limit : Int} {othersA : Option Addr} {othersn othersc : Nat} {H : Hp} {R : Value → Hp → Prop} (h : f8.VC φ countsA countsn countsc limit othersA othersn othersc H R) : HCalls cx.P φ 8 [.slice countsA countsn countsc, .int .i64 limit, .slice othersA othersn othersc] H R :=
  fnW_calls cx_ok (show cx.P.funcs[8]? = some Try.f8 by kernel_rfl) (by rw [f8.vc]; exact h)

end Go.Proofs.Ytkkjjjgcfnhabaa.Eng





namespace Go.Proofs.Ytkkjjjgcfnhabaa.Eng
open Go Go.Proofs
theorem drop_at {α : Type} {l : List α} {n : Nat} {x : α} (h : l[n]? = some x) : l.drop n = x :: l.drop (n + 1) := by
  obtain ⟨hn, e⟩ := List.getElem?_eq_some_iff.1 h
  rw [List.drop_eq_getElem_cons hn, e]
end Go.Proofs.Ytkkjjjgcfnhabaa.Eng


namespace Go.Proofs.Ytkkjjjgcfnhabaa.Eng
open Go
def ownC (H : Hp) (base : Nat) (t : TypeId) (sz : Nat) (A : Option Addr) (n c : Nat) (vs : List Value) : Prop :=
  vs.length = n * sz ∧ n ≤ c ∧ ((A = none ∧ c = 0) ∨ ∃ b cs, base ≤ b ∧ A = some ⟨b, 0, none⟩ ∧ objAt H b cs t ∧ cs.size = c * sz ∧ cs.toList.take (n * sz) = vs)
theorem ownC_nil (H : Hp) (base : Nat) (t : TypeId) (sz : Nat) : ownC H base t sz none 0 0 [] := ⟨by simp, by omega, Or.inl ⟨rfl, rfl⟩⟩
/-- What a change leaves alone. -/
def offA (A : Option Addr) (H H' : Hp) : Prop := H.size ≤ H'.size ∧ ∀ k, k < H.size → A ≠ some ⟨k, 0, none⟩ → H'[k]? = H[k]?
theorem ownC.lt {H : Hp} {base : Nat} {t : TypeId} {sz : Nat} {A : Option Addr} {n c : Nat} {vs : List Value} (h : ownC H base t sz A n c vs) {b : Nat} (hb : A = some ⟨b, 0, none⟩) : base ≤ b ∧ b < H.size := by
  obtain ⟨_, _, h | ⟨b', cs, h1, h2, h3, _⟩⟩ := h
  · rw [h.1] at hb; cases hb
  · rw [h2] at hb; cases hb; exact ⟨h1, objAt_lt h3⟩
theorem ownC.frame {H H' : Hp} {base : Nat} {t : TypeId} {sz : Nat} {A : Option Addr} {n c : Nat} {vs : List Value} (h : ownC H base t sz A n c vs) (hf : ∀ b, A = some ⟨b, 0, none⟩ → H'[b]? = H[b]?) : ownC H' base t sz A n c vs := by
  obtain ⟨h1, h2, h | ⟨b, cs, h3, h4, h5, h6⟩⟩ := h
  · exact ⟨h1, h2, Or.inl h⟩
  · refine ⟨h1, h2, Or.inr ⟨b, cs, h3, h4, ?_, h6⟩⟩
    unfold objAt at h5 ⊢; rw [hf b h4]; exact h5
theorem ownC.keeps {H H' : Hp} {base : Nat} {t : TypeId} {sz : Nat} {A : Option Addr} {n c : Nat} {vs : List Value} (h : ownC H base t sz A n c vs) (k : Keeps H H') : ownC H' base t sz A n c vs :=
  h.frame fun b hb => k.old b (h.lt hb).2
/-- Lists of other elements lie elsewhere. -/
theorem ownC.off {H H' : Hp} {base base' : Nat} {t t' : TypeId} {sz sz' : Nat} {A A' : Option Addr} {n c n' c' : Nat} {vs vs' : List Value} (h : ownC H base t sz A n c vs)
    (h' : ownC H base' t' sz' A' n' c' vs') (ht : t ≠ t') (ho : offA A' H H') : ownC H' base t sz A n c vs := by
  refine h.frame fun b hb => ho.2 b (h.lt hb).2 fun e => ?_
  obtain ⟨_, _, q | ⟨b1, cs1, _, e1, o1, _⟩⟩ := h
  · rw [q.1] at hb; cases hb
  obtain ⟨_, _, q | ⟨b2, cs2, _, e2, o2, _⟩⟩ := h'
  · rw [q.1] at e; cases e
  rw [e1] at hb; cases hb
  rw [e2] at e; cases e
  unfold objAt at o1 o2
  rw [o1] at o2; cases o2; exact ht rfl
theorem ownC.rd {H : Hp} {base : Nat} {t : TypeId} {sz : Nat} {A : Option Addr} {n c : Nat} {vs : List Value} (h : ownC H base t sz A n c vs) : rdC H A (n * sz) vs := by
  obtain ⟨h1, h2, h | ⟨b, cs, h3, h4, h5, h6, h7⟩⟩ := h
  · refine ⟨h1, fun hp => ?_⟩
    have : n = 0 := by omega
    subst this; omega
  · refine ⟨h1, fun _ => ⟨b, 0, h4, fun j v hv => ?_⟩⟩
    rw [Nat.zero_add, objAt_cel h5]
    rw [← h7, List.getElem?_take] at hv
    split at hv
    · simpa using hv
    · cases hv
theorem offA.keeps {G H H' : Hp} {A : Option Addr} (k : Keeps G H) (h : offA A H H') (hb : ∀ b, A = some ⟨b, 0, none⟩ → G.size ≤ b) : Keeps G H' :=
  ⟨Nat.le_trans k.size h.1, fun i hi => by
    rw [h.2 i (Nat.lt_of_lt_of_le hi k.size) (fun e => by have := hb i e; omega)]; exact k.old i hi⟩
theorem spl_take {c : Array Value} {o : Nat} {vs : List Value} (h : o + vs.length ≤ c.size) : (spl c o vs).toList.take (o + vs.length) = c.toList.take o ++ vs := by
  simp only [spl]
  have : (List.take o c.toList).length = o := by simp; omega
  rw [List.take_append_of_le_length (by simp; omega)]
  rw [List.take_of_length_le (by simp; omega)]
end Go.Proofs.Ytkkjjjgcfnhabaa.Eng

namespace Go.Proofs.Ytkkjjjgcfnhabaa.Eng
open Go Go.Proofs
theorem rdC_new (H : Hp) (vs : List Value) (t : TypeId) (fr : Nat × Nat) (m : Nat) (h : vs.length = m) : rdC (H.push (.cells vs.toArray t fr)) (some ⟨H.size, 0, none⟩) m vs :=
  ⟨h, fun _ => ⟨H.size, 0, rfl, fun j v hv => by rw [Nat.zero_add, cel_new]; simpa using hv⟩⟩
theorem flatMap_get {α β : Type} (f : α → List β) (sz : Nat) : ∀ (xs : List α), (∀ x ∈ xs, (f x).length = sz) → (xs.flatMap f).length = xs.length * sz ∧
    ∀ j v, (xs.flatMap f)[j]? = some v → ∃ i r x, xs[i]? = some x ∧ j = i * sz + r ∧ r < sz ∧ (f x)[r]? = some v
  | [], _ => ⟨by simp, fun j v h => by simp at h⟩
  | x :: xs, h => by
    obtain ⟨h1, h2⟩ := flatMap_get f sz xs fun y hy => h y (List.mem_cons_of_mem _ hy)
    have hx := h x List.mem_cons_self
    refine ⟨by simp only [List.flatMap_cons, List.length_append, hx, h1, List.length_cons, Nat.add_mul]; omega, fun j v hj => ?_⟩
    rw [List.flatMap_cons] at hj
    by_cases hl : j < sz
    · rw [List.getElem?_append_left (by omega)] at hj
      exact ⟨0, j, x, rfl, by omega, hl, hj⟩
    · rw [List.getElem?_append_right (by omega), hx] at hj
      obtain ⟨i, r, y, e1, e2, e3, e4⟩ := h2 _ _ hj
      exact ⟨i + 1, r, y, by simpa using e1, by rw [Nat.add_mul]; omega, e3, e4⟩
theorem flatMap_at {α β : Type} (f : α → List β) (sz : Nat) : ∀ (xs : List α), (∀ x ∈ xs, (f x).length = sz) → ∀ (i : Nat) (x : α), xs[i]? = some x → ∀ (r : Nat) (v : β), (f x)[r]? = some v → (xs.flatMap f)[i * sz + r]? = some v
  | y :: xs, h, 0, x, hx, r, v, hv => by
    simp at hx; subst hx
    rw [List.flatMap_cons, List.getElem?_append_left (by have := (List.getElem?_eq_some_iff.1 hv).1; omega)]
    simpa using hv
  | y :: xs, h, i + 1, x, hx, r, v, hv => by
    simp at hx
    have hy := h y List.mem_cons_self
    rw [List.flatMap_cons, List.getElem?_append_right (by rw [hy, Nat.add_mul]; omega), hy]
    rw [show (i + 1) * sz + r - sz = i * sz + r by rw [Nat.add_mul]; omega]
    exact flatMap_at f sz xs (fun z hz => h z (List.mem_cons_of_mem _ hz)) i x hx r v hv
/-- A row as its cells. -/
theorem rowR.rd {α : Type} {E : Hp → Nat → Nat → α → Prop} {sz : Nat} (enc : α → List Value) (hl : ∀ x, (enc x).length = sz) (hE : ∀ H b o x, E H b o x → ∀ r v, (enc x)[r]? = some v → cel H b (o + r) = some v)
    {H : Hp} {A : Option Addr} {n : Nat} {xs : List α} (h : rowR E sz H A n xs) : rdC H A (n * sz) (xs.flatMap enc) := by
  obtain ⟨h1, h2⟩ := flatMap_get enc sz xs fun x _ => hl x
  refine ⟨by rw [h1, h.1], fun hp => ?_⟩
  have hn : 0 < n := by rcases Nat.eq_zero_or_pos n with e | e; (rw [e] at hp; omega); exact e
  obtain ⟨x0, hx0⟩ : ∃ x0, xs[0]? = some x0 := ⟨_, List.getElem?_eq_getElem (by rw [h.1]; exact hn)⟩
  obtain ⟨b, o, hA, _⟩ := h.2 0 x0 hx0
  refine ⟨b, o, hA, fun j v hj => ?_⟩
  obtain ⟨i, r, x, e1, e2, e3, e4⟩ := h2 j v hj
  obtain ⟨b2, o2, hA2, hx⟩ := h.2 i x e1
  rw [hA] at hA2; cases hA2
  have := hE _ _ _ _ hx r v e4
  rw [e2, ← Nat.add_assoc]; exact this
theorem ownC.row {α : Type} {E : Hp → Nat → Nat → α → Prop} {sz : Nat} (enc : α → List Value) (hl : ∀ x, (enc x).length = sz)
    {H : Hp} {base : Nat} {t : TypeId} {A : Option Addr} {n c : Nat} {xs : List α} (h : ownC H base t sz A n c (xs.flatMap enc)) (hs : 0 < sz)
    (hE : ∀ b o x, x ∈ xs → (∀ r v, (enc x)[r]? = some v → cel H b (o + r) = some v) → E H b o x) : rowR E sz H A n xs := by
  obtain ⟨h1, h2⟩ := flatMap_get enc sz xs fun x _ => hl x
  have hlen : xs.length = n := by
    have := h.1; rw [h1] at this; exact Nat.eq_of_mul_eq_mul_right hs this
  refine ⟨hlen, fun i x hx => ?_⟩
  have hi : i < n := by rw [← hlen]; exact (List.getElem?_eq_some_iff.1 hx).1
  have hpos : 0 < n * sz := Nat.mul_pos (by omega) hs
  obtain ⟨b, o, e, hc⟩ := h.rd.2 hpos
  refine ⟨b, o, e, hE _ _ _ (List.mem_iff_getElem?.2 ⟨i, hx⟩) fun r v hv => ?_⟩
  have := hc (i * sz + r) v (flatMap_at enc sz xs (fun x _ => hl x) i x hx r v hv)
  rw [← Nat.add_assoc] at this; exact this
end Go.Proofs.Ytkkjjjgcfnhabaa.Eng
namespace Go.Proofs.Ytkkjjjgcfnhabaa.Eng
open Go Go.Proofs
theorem ownC.base_le {H : Hp} {base base' : Nat} {t : TypeId} {sz : Nat} {A : Option Addr} {n c : Nat} {vs : List Value} (h : ownC H base t sz A n c vs) (hb : base' ≤ base) : ownC H base' t sz A n c vs := by
  obtain ⟨h1, h2, h | ⟨b, cs, h3, h4⟩⟩ := h
  · exact ⟨h1, h2, Or.inl h⟩
  · exact ⟨h1, h2, Or.inr ⟨b, cs, Nat.le_trans hb h3, h4⟩⟩
theorem flat_one {α : Type} (enc : α → List Value) (hv : ∀ x, ∀ v ∈ enc x, v.oneCell' = true) (xs : List α) : ∀ v ∈ xs.flatMap enc, v.oneCell' = true := by
  intro v h
  obtain ⟨x, _, hx⟩ := List.mem_flatMap.1 h
  exact hv x v hx
end Go.Proofs.Ytkkjjjgcfnhabaa.Eng

namespace Go.Proofs.Ytkkjjjgcfnhabaa.Eng
open Go Go.Proofs
theorem own_put {H : Hp} {base : Nat} {t : TypeId} {sz : Nat} {b n c : Nat} {vs : List Value} (h : ownC H base t sz (some ⟨b, 0, none⟩) n c vs) {o : Nat} {ws : List Value} (ho : o + ws.length ≤ n * sz) :
    ownC (hput H b o ws) base t sz (some ⟨b, 0, none⟩) n c (lspl vs o ws) := by
  obtain ⟨h1, h2, h | ⟨b', cs, h3, h4, h5, h6, h7⟩⟩ := h
  · cases h.1
  · cases h4
    have hc : n * sz ≤ c * sz := Nat.mul_le_mul_right _ h2
    refine ⟨by simp [lspl]; omega, h2, Or.inr ⟨b, _, h3, rfl, objAt_hput h5 o ws, by rw [size_spl _ _ _ (by omega)]; exact h6, ?_⟩⟩
    simp only [spl, lspl, ← h7]
    rw [List.take_take, List.drop_take, Nat.min_eq_left (by omega)]
    rw [List.append_assoc, List.append_assoc, List.take_append, List.take_append]
    have e1 : (List.take o cs.toList).length = o := by simp; omega
    rw [e1, List.take_of_length_le (by omega), List.take_of_length_le (show ws.length ≤ n * sz - o by omega)]
    rw [Nat.sub_sub]
theorem own_canPut {H : Hp} {base : Nat} {t : TypeId} {sz : Nat} {b n c : Nat} {vs : List Value} (h : ownC H base t sz (some ⟨b, 0, none⟩) n c vs) {o : Nat} {ws : List Value} (ho : o + ws.length ≤ n * sz)
    (hv : ∀ v ∈ ws, v.oneCell' = true) : canPut H b o ws := by
  obtain ⟨h1, h2, h | ⟨b', cs, h3, h4, h5, h6, h7⟩⟩ := h
  · cases h.1
  · cases h4
    have hc : n * sz ≤ c * sz := Nat.mul_le_mul_right _ h2
    exact objAt_canPut h5 (by omega) hv
end Go.Proofs.Ytkkjjjgcfnhabaa.Eng


namespace Go.Proofs.Ytkkjjjgcfnhabaa.Eng
open Go Go.Proofs
theorem okc_int {P : Program} {H : Hp} {d : Nat} {t : TypeId} {k : IntKind} {cs : List Value} (hu : P.underlying t = some (.int k)) (h : Okc P H (d + 1) t cs) : ∃ n, cs = [.int k n] ∧ iMin k ≤ n ∧ n ≤ iMax k := by
  unfold Okc at h; rw [hu] at h; exact h
theorem ok_i64 {H : Hp} {d : Nat} {cs : List Value} (h : Okc Try.prog H (d + 1) 3 cs) : ∃ n, cs = [.int .i64 n] ∧ -9223372036854775808 ≤ n ∧ n ≤ 9223372036854775807 := okc_int Try.underlying3 h
/-- A slice that came in: a row of its first elements. -/
theorem ok_slice {P : Program} {H : Hp} {d : Nat} {t e : TypeId} {cs : List Value} (hu : P.underlying t = some (.slice e)) (h : Okc P H (d + 1) t cs) {α : Type} {E : Hp → Nat → Nat → α → Prop} (hp : 0 < P.cellsOf e)
    (hE : ∀ b o vs, vs.length = P.cellsOf e → (∀ j v, vs[j]? = some v → cel H b (o + j) = some v) → Okc P H d e vs → ∃ x, E H b o x) :
    ∃ A n c xs, cs = [.slice A n c] ∧ n ≤ c ∧ c * P.bytesOf e ≤ 140737488351232 ∧ rowR E (P.cellsOf e) H A n xs := by
  unfold Okc at h; rw [hu] at h
  obtain ⟨A, n, c, rfl, hnc, _, hb, hel⟩ := h
  have : ∀ i, i < n → ∃ x, ∃ b o, A = some ⟨b, o, none⟩ ∧ E H b (o + i * P.cellsOf e) x := by
    intro i hi
    obtain ⟨b, o, vs, hA, hl, hc, ho⟩ := hel i (by omega)
    obtain ⟨x, hx⟩ := hE b (o + i * P.cellsOf e) vs hl hc ho
    exact ⟨x, b, o, hA hp, hx⟩
  refine ⟨A, n, c, (List.range n).attach.map fun i => (this i.1 (List.mem_range.1 i.2)).choose, rfl, hnc, hb, by simp, fun i x hx => ?_⟩
  simp only [List.getElem?_map, Option.map_eq_some_iff] at hx
  obtain ⟨⟨k, hk⟩, h1, rfl⟩ := hx
  have hki : k = i := by
    have := congrArg (Option.map Subtype.val) h1
    rw [← List.getElem?_map] at this
    simp only [List.attach_map_val, Option.map_some] at this
    have h2 := (List.getElem?_eq_some_iff.1 this).2
    simpa using h2.symm
  subst hki
  exact (this k (List.mem_range.1 hk)).choose_spec
theorem arg_scalar {P : Program} {H : Hp} {t : TypeId} {v : Value} (h : Argv P H t v) (ha : isAggD (P.underlying t) = false) : vcells v = [v] := by
  rcases h.shape with ⟨e, _⟩ | ⟨_, e⟩
  · rw [ha] at e; cases e
  · exact e
theorem arg_i64 {H : Hp} {v : Value} (h : Argv Try.prog H 3 v) : ∃ n, v = .int .i64 n ∧ -9223372036854775808 ≤ n ∧ n ≤ 9223372036854775807 := by
  obtain ⟨p, e, r⟩ := ok_i64 h.ok
  rw [arg_scalar h (by rw [Try.underlying3]; rfl)] at e
  simp at e; exact ⟨p, e, r⟩
end Go.Proofs.Ytkkjjjgcfnhabaa.Eng
namespace Go.Proofs.Ytkkjjjgcfnhabaa.Eng
open Go Go.Proofs
theorem cells2h : Try.prog.cellsOf 2 = 1 := by kernel_rfl
theorem bytes2h : Try.prog.bytesOf 2 = 8 := by kernel_rfl
theorem cells3h : Try.prog.cellsOf 3 = 1 := by kernel_rfl
theorem bytes3h : Try.prog.bytesOf 3 = 8 := by kernel_rfl
theorem arg_counts {H : Hp} {v : Value} (h : Argv Try.prog H 93 v) : ∃ A n c xs, v = .slice A n c ∧ n ≤ c ∧ c * 8 ≤ 140737488351232 ∧ intsR H A n xs := by
  obtain ⟨A, n, c, xs, e, h2, h3, h4⟩ := ok_slice (E := isI64) Try.underlying93 h.ok (by rw [cells2h]; decide) fun b o vs hl hc ho => by
    obtain ⟨x, e, r⟩ := okc_int Try.underlying2 ho
    subst e
    exact ⟨x, hc 0 _ rfl, r⟩
  rw [arg_scalar h (by rw [Try.underlying93]; rfl)] at e
  rw [cells2h] at h4
  rw [bytes2h] at h3
  simp at e; exact ⟨A, n, c, xs, e, h2, h3, h4⟩
theorem arg_ints {H : Hp} {v : Value} (h : Argv Try.prog H 95 v) : ∃ A n c xs, v = .slice A n c ∧ n ≤ c ∧ c * 8 ≤ 140737488351232 ∧ intsR H A n xs := by
  obtain ⟨A, n, c, xs, e, h2, h3, h4⟩ := ok_slice (E := isI64) Try.underlying95 h.ok (by rw [cells3h]; decide) fun b o vs hl hc ho => by
    obtain ⟨x, e, r⟩ := okc_int Try.underlying3 ho
    subst e
    exact ⟨x, hc 0 _ rfl, r⟩
  rw [arg_scalar h (by rw [Try.underlying95]; rfl)] at e
  rw [cells3h] at h4
  rw [bytes3h] at h3
  simp at e; exact ⟨A, n, c, xs, e, h2, h3, h4⟩
end Go.Proofs.Ytkkjjjgcfnhabaa.Eng
namespace Go.Proofs.Ytkkjjjgcfnhabaa.Eng
open Go
/-- A thing: what it weighs, and how often each symbol is in it. -/
structure Th where
  w : Int
  o : List Int
  len : o.length = 256
theorem Th.ext' {x y : Th} (h1 : x.w = y.w) (h2 : x.o = y.o) : x = y := by cases x; cases y; simp at h1 h2; subst h1; subst h2; rfl
section
variable (rk : Th → Nat)
def lx (x y : Th) : Prop := x.w < y.w ∨ (x.w = y.w ∧ rk x < rk y)
theorem lx_trans {x y z : Th} (h : lx rk x y) (k : lx rk y z) : lx rk x z := by
  unfold lx at *; omega
theorem lx_asymm {x y : Th} (h : lx rk x y) : ¬ lx rk y x := by unfold lx at *; omega
def srt (l : List Th) : Prop := l.Pairwise (lx rk)
def rin (l : List Th) : Prop := l.Pairwise fun x y => rk x < rk y
def rbe (l m : List Th) : Prop := ∀ x ∈ l, ∀ y ∈ m, rk x < rk y
def allx (l m : List Th) : Prop := ∀ x ∈ l, ∀ y ∈ m, lx rk x y
theorem srt_app {l m : List Th} : srt rk (l ++ m) ↔ srt rk l ∧ srt rk m ∧ allx rk l m := List.pairwise_append
theorem srt_insert {u v : List Th} {x : Th} (h : srt rk (u ++ v)) (h1 : ∀ y ∈ u, lx rk y x) (h2 : ∀ y ∈ v, lx rk x y) : srt rk (u ++ x :: v) := by
  obtain ⟨a, b, c⟩ := (srt_app rk).1 h
  refine (srt_app rk).2 ⟨a, List.pairwise_cons.2 ⟨h2, b⟩, fun y hy z hz => ?_⟩
  rcases List.mem_cons.1 hz with e | e
  · subst e; exact h1 y hy
  · exact c y hy z e
theorem srt_last {u : List Th} {x y : Th} (h : srt rk (u ++ [y])) (hx : lx rk y x) : ∀ z ∈ u ++ [y], lx rk z x := by
  intro z hz
  rcases List.mem_append.1 hz with e | e
  · exact lx_trans rk (((srt_app rk).1 h).2.2 z e y (by simp)) hx
  · simp at e; subst e; exact hx
theorem srt_head {u : List Th} {x y : Th} (h : srt rk (y :: u)) (hx : lx rk x y) : ∀ z ∈ y :: u, lx rk x z := by
  intro z hz
  rcases List.mem_cons.1 hz with e | e
  · subst e; exact hx
  · exact lx_trans rk hx ((List.pairwise_cons.1 h).1 z e)
theorem rbe_perm {l l' m m' : List Th} (h : rbe rk l m) (h1 : l'.Perm l) (h2 : m'.Perm m) : rbe rk l' m' := fun x hx y hy => h x (h1.mem_iff.1 hx) y (h2.mem_iff.1 hy)
theorem allx_perm {l l' m m' : List Th} (h : allx rk l m) (h1 : l'.Perm l) (h2 : m'.Perm m) : allx rk l' m' := fun x hx y hy => h x (h1.mem_iff.1 hx) y (h2.mem_iff.1 hy)
/-- Two sorted rows of the same things are one. -/
theorem srt_unique : ∀ {l m : List Th}, l.Perm m → srt rk l → srt rk m → l = m
  | [], m, p, _, _ => (List.Perm.nil_eq p)
  | x :: l, [], p, _, _ => by have := p.length_eq; simp at this
  | x :: l, y :: m, p, h, k => by
    have hx : x = y := by
      by_cases e : x = y
      · exact e
      · have a : x ∈ y :: m := p.mem_iff.1 List.mem_cons_self
        have b : y ∈ x :: l := p.mem_iff.2 List.mem_cons_self
        rcases List.mem_cons.1 a with a | a
        · exact a
        rcases List.mem_cons.1 b with b | b
        · exact b.symm
        exact absurd ((List.pairwise_cons.1 k).1 x a) (lx_asymm rk ((List.pairwise_cons.1 h).1 y b))
    subst hx
    rw [srt_unique (List.Perm.cons_inv p) (List.pairwise_cons.1 h).2 (List.pairwise_cons.1 k).2]
/-- Two sorted rows, all of the one ahead of all of the other by rank: what the split of a merge is. -/
theorem cross {A1 A2 B1 B2 : List Th} (hA : srt rk (A1 ++ A2)) (hB : srt rk (B1 ++ B2)) (hr : rbe rk (A1 ++ A2) (B1 ++ B2))
    (h1 : A1 = [] ∨ B2 = [] ∨ ∃ a u b v, A1 = u ++ [a] ∧ B2 = b :: v ∧ a.w ≤ b.w) (h2 : B1 = [] ∨ A2 = [] ∨ ∃ b u a v, B1 = u ++ [b] ∧ A2 = a :: v ∧ b.w < a.w) :
    allx rk (A1 ++ B1) (A2 ++ B2) := by
  obtain ⟨a1, a2, a3⟩ := (srt_app rk).1 hA
  obtain ⟨b1, b2, b3⟩ := (srt_app rk).1 hB
  have c1 : allx rk A1 B2 := by
    rcases h1 with h | h | ⟨a, u, b, v, e1, e2, hw⟩
    · subst h; intro x hx; simp at hx
    · subst h; intro x hx y hy; simp at hy
    · subst e1; subst e2
      have hab : lx rk a b := by
        have := hr a (by simp) b (by simp)
        unfold lx; omega
      intro x hx y hy
      have q1 : ∀ z ∈ u ++ [a], lx rk z b := srt_last rk a1 hab
      have q2 := q1 x hx
      exact srt_head rk b2 q2 y hy
  have c2 : allx rk B1 A2 := by
    rcases h2 with h | h | ⟨b, u, a, v, e1, e2, hw⟩
    · subst h; intro x hx; simp at hx
    · subst h; intro x hx y hy; simp at hy
    · subst e1; subst e2
      have hab : lx rk b a := Or.inl hw
      intro x hx y hy
      exact srt_head rk a2 (srt_last rk b1 hab x hx) y hy
  intro x hx y hy
  rcases List.mem_append.1 hx with hx | hx <;> rcases List.mem_append.1 hy with hy | hy
  · exact a3 x hx y hy
  · exact c1 x hx y hy
  · exact c2 x hx y hy
  · exact b3 x hx y hy
end
/-- A row with a part of it exchanged. -/
def isSw {α : Type} (xs ys : List α) (a b i : Nat) : Prop :=
  ys.length = xs.length ∧ ∀ k, ys[k]? = if a ≤ k ∧ k < a + i then xs[k - a + b]? else if b ≤ k ∧ k < b + i then xs[k - b + a]? else xs[k]?
theorem isSw_step {α : Type} {xs ys : List α} {a b i : Nat} {x y : α} (h : isSw xs ys a b i) (hab : a + (i + 1) ≤ b) (hx : ys[b + i]? = some x) (hy : ys[a + i]? = some y) : isSw xs ((ys.set (a + i) x).set (b + i) y) a b (i + 1) := by
  obtain ⟨hl, hg⟩ := h
  have lb := (List.getElem?_eq_some_iff.1 hx).1
  refine ⟨by simp [hl], fun k => ?_⟩
  rw [List.getElem?_set, List.getElem?_set]
  have gx := hg (b + i)
  have gy := hg (a + i)
  rw [hx, if_neg (by omega), if_neg (by omega)] at gx
  rw [hy, if_neg (by omega), if_neg (by omega)] at gy
  by_cases k1 : b + i = k
  · subst k1
    rw [if_pos rfl, if_pos (by simp; omega), if_neg (by omega), if_pos (by omega), gy]
    congr 1; omega
  · rw [if_neg k1]
    by_cases k2 : a + i = k
    · subst k2
      rw [if_pos rfl, if_pos (by omega), if_pos (by omega), gx]
      congr 1; omega
    · rw [if_neg k2, hg k]
      by_cases q1 : a ≤ k ∧ k < a + i
      · rw [if_pos q1, if_pos (by omega)]
      · rw [if_neg q1]
        by_cases q2 : b ≤ k ∧ k < b + i
        · rw [if_pos q2, if_neg (by omega), if_pos (by omega)]
        · rw [if_neg q2, if_neg (by omega), if_neg (by omega)]
theorem isSw_parts {α : Type} {p U M V s ys : List α} {m : Nat} (hU : U.length = m) (hV : V.length = m) (h : isSw (p ++ U ++ M ++ V ++ s) ys p.length (p ++ U ++ M).length m) : ys = p ++ V ++ M ++ U ++ s := by
  apply List.ext_getElem?
  intro k
  obtain ⟨hl, hg⟩ := h
  rw [hg k]
  simp only [List.length_append, List.getElem?_append] at *
  by_cases h1 : k < p.length
  · rw [if_neg (by omega), if_neg (by omega)]
    simp only [show k < p.length + U.length + M.length + V.length by omega, show k < p.length + U.length + M.length by omega, show k < p.length + U.length by omega, h1, show k < p.length + V.length + M.length + U.length by omega, show k < p.length + V.length + M.length by omega, show k < p.length + V.length by omega, if_true]
  by_cases h2 : k < p.length + m
  · rw [if_pos (by omega)]
    simp only [show k - p.length + (p.length + U.length + M.length) < p.length + U.length + M.length + V.length by omega, show ¬ k - p.length + (p.length + U.length + M.length) < p.length + U.length + M.length by omega, show k < p.length + V.length + M.length + U.length by omega, show k < p.length + V.length + M.length by omega, show k < p.length + V.length by omega, h1, if_true, if_false]
    congr 1; omega
  by_cases h3 : k < p.length + m + M.length
  · rw [if_neg (by omega), if_neg (by omega)]
    simp only [show k < p.length + U.length + M.length + V.length by omega, show k < p.length + U.length + M.length by omega, show ¬ k < p.length + U.length by omega, show k < p.length + V.length + M.length + U.length by omega, show k < p.length + V.length + M.length by omega, show ¬ k < p.length + V.length by omega, if_true, if_false]
    congr 1; omega
  by_cases h4 : k < p.length + m + M.length + m
  · rw [if_neg (by omega), if_pos (by omega)]
    simp only [show k - (p.length + U.length + M.length) + p.length < p.length + U.length + M.length + V.length by omega, show k - (p.length + U.length + M.length) + p.length < p.length + U.length + M.length by omega, show k - (p.length + U.length + M.length) + p.length < p.length + U.length by omega, show ¬ k - (p.length + U.length + M.length) + p.length < p.length by omega, show k < p.length + V.length + M.length + U.length by omega, show ¬ k < p.length + V.length + M.length by omega, if_true, if_false]
    congr 1; omega
  · rw [if_neg (by omega), if_neg (by omega)]
    simp only [show ¬ k < p.length + U.length + M.length + V.length by omega, show ¬ k < p.length + V.length + M.length + U.length by omega, if_false]
    congr 1; omega
end Go.Proofs.Ytkkjjjgcfnhabaa.Eng
namespace Go.Proofs.Ytkkjjjgcfnhabaa.Eng
open Go Go.Proofs
theorem wrap_u8 (v : Int) : IntKind.wrap .u8 v = v % 256 := by
  simp only [IntKind.wrap, IntKind.bits, IntKind.signed]; simp
end Go.Proofs.Ytkkjjjgcfnhabaa.Eng
namespace Go.Proofs.Ytkkjjjgcfnhabaa.Eng
open Go Go.Proofs
theorem zrow_one (v : Value) (n : Nat) : zrow [v] n = (List.range n).map fun _ => v := by
  apply List.ext_getElem?
  intro i
  by_cases hi : i < n
  · rw [zrow_get _ (by simp) n i (by simpa using hi)]
    simp [hi, Nat.mod_one]
  · rw [List.getElem?_eq_none (by rw [zrow_length]; simp; omega), List.getElem?_eq_none (by simp; omega)]
end Go.Proofs.Ytkkjjjgcfnhabaa.Eng















namespace Go.Proofs.Ytkkjjjgcfnhabaa.Eng
open Go Go.Proofs
theorem wrap_u64 (v : Int) : IntKind.wrap .u64 v = v % 18446744073709551616 := by
  simp only [IntKind.wrap, IntKind.bits, IntKind.signed]; simp
end Go.Proofs.Ytkkjjjgcfnhabaa.Eng






