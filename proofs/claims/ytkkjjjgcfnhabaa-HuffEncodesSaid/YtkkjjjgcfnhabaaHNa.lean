/- Part HNa of the proof of the claim in this folder: a way to walk code, and the contracts of the functions that the law reaches. Conditions: none. -/
import Derived.Test.YtkkjjjgcfnhabaaProg
import Derived.Test.YtkkjjjgcfnhabaaEngB
set_option linter.unusedVariables false
set_option maxRecDepth 100000
set_option maxHeartbeats 0
namespace Go.Proofs.Ytkkjjjgcfnhabaa.Eng
open Go Go.Proofs
def tys : List TI :=
 [⟨0, .other, 1, 0, [.tuple #[]], [.any], [], true⟩,
  ⟨2, .int .i64, 1, 8, [.int .i64 0], [.int .i64], [(false, [.int .i64])], false⟩,
  ⟨3, .int .i64, 1, 8, [.int .i64 0], [.int .i64], [(false, [.int .i64])], false⟩,
  ⟨4, .bool, 1, 1, [.bool false], [.bool], [(false, [.bool])], false⟩,
  ⟨5, .int .u8, 1, 1, [.int .u8 0], [.int .u8], [(false, [.int .u8])], false⟩,
  ⟨9, .str, 1, 16, [.string ⟨#[]⟩], [.str], [(false, [.str])], false⟩,
  ⟨22, .slc 146, 1, 24, [.slice none 0 0], [.slc], [(false, [.slc])], false⟩,
  ⟨24, .st [(0, 1, false), (1, 1, false)], 2, 32, [.int .i64 0, .slice none 0 0], [.int .i64, .slc], [(true, [.int .i64, .slc])], false⟩,
  ⟨25, .int .i64, 1, 8, [.int .i64 0], [.int .i64], [(false, [.int .i64])], false⟩,
  ⟨28, .other, 1, 0, [.tuple #[.int .i64 0, .int .i64 0]], [.any], [(false, [.int .i64]), (false, [.int .i64])], true⟩,
  ⟨34, .slc 50, 1, 24, [.slice none 0 0], [.slc], [(false, [.slc])], false⟩,
  ⟨35, .slc 53, 1, 24, [.slice none 0 0], [.slc], [(false, [.slc])], false⟩,
  ⟨36, .ptr, 1, 8, [.pointer none], [.ptr], [(false, [.ptr])], false⟩,
  ⟨37, .other, 1, 0, [.tuple #[.int .i64 0, .bool false]], [.any], [(false, [.int .i64]), (false, [.bool])], true⟩,
  ⟨42, .other, 1, 0, [.tuple #[.pointer none, .int .i64 0]], [.any], [(false, [.ptr]), (false, [.int .i64])], true⟩,
  ⟨44, .ptr, 1, 8, [.pointer none], [.ptr], [(false, [.ptr])], false⟩,
  ⟨45, .other, 1, 0, [.tuple #[.pointer none, .int .i64 0]], [.any], [(false, [.ptr]), (false, [.int .i64])], true⟩,
  ⟨48, .int .u32, 1, 4, [.int .u32 0], [.int .u32], [(false, [.int .u32])], false⟩,
  ⟨50, .st [(0, 1, false), (1, 1, false), (2, 1, false), (3, 1, false), (4, 1, false), (5, 1, false), (6, 1, false), (7, 1, false)], 8, 64, [.int .i64 0, .int .i64 0, .int .i64 0, .int .i64 0, .int .i64 0, .int .i64 0, .int .i64 0, .int .u32 0], [.int .i64, .int .i64, .int .i64, .int .i64, .int .i64, .int .i64, .int .i64, .int .u32], [(true, [.int .i64, .int .i64, .int .i64, .int .i64, .int .i64, .int .i64, .int .i64, .int .u32])], false⟩,
  ⟨51, .slc 56, 1, 24, [.slice none 0 0], [.slc], [(false, [.slc])], false⟩,
  ⟨53, .st [(0, 1, false), (1, 1, false), (2, 1, false), (3, 1, false), (4, 1, false)], 5, 40, [.int .i64 0, .int .i64 0, .int .i64 0, .int .i64 0, .int .i64 0], [.int .i64, .int .i64, .int .i64, .int .i64, .int .i64], [(true, [.int .i64, .int .i64, .int .i64, .int .i64, .int .i64])], false⟩,
  ⟨56, .st [(0, 1, false), (1, 1, false)], 2, 32, [.slice none 0 0, .int .i64 0], [.slc, .int .i64], [(true, [.slc, .int .i64])], false⟩,
  ⟨59, .slc 5, 1, 24, [.slice none 0 0], [.slc], [(false, [.slc])], false⟩,
  ⟨60, .slc 81, 1, 24, [.slice none 0 0], [.slc], [(false, [.slc])], false⟩,
  ⟨62, .ptr, 1, 8, [.pointer none], [.ptr], [(false, [.ptr])], false⟩,
  ⟨65, .ptr, 1, 8, [.pointer none], [.ptr], [(false, [.ptr])], false⟩,
  ⟨68, .st [(0, 1, false), (1, 1, false), (2, 1, false)], 3, 40, [.slice none 0 0, .int .i64 0, .int .i64 0], [.slc, .int .i64, .int .i64], [(true, [.slc, .int .i64, .int .i64])], false⟩,
  ⟨70, .st [(0, 1, false), (1, 1, false)], 2, 16, [.int .i64 0, .int .i64 0], [.int .i64, .int .i64], [(true, [.int .i64, .int .i64])], false⟩,
  ⟨72, .st [(0, 1, false), (1, 1, false), (2, 1, false), (3, 2, true)], 5, 56, [.slice none 0 0, .int .i64 0, .bool false, .int .i64 0, .int .i64 0], [.slc, .int .i64, .bool, .int .i64, .int .i64], [(true, [.slc, .int .i64, .bool, .int .i64, .int .i64])], false⟩,
  ⟨76, .slc 59, 1, 24, [.slice none 0 0], [.slc], [(false, [.slc])], false⟩,
  ⟨78, .st [(0, 1, false), (1, 1, false), (2, 1, false)], 3, 72, [.slice none 0 0, .slice none 0 0, .slice none 0 0], [.slc, .slc, .slc], [(true, [.slc, .slc, .slc])], false⟩,
  ⟨81, .st [(0, 1, false), (1, 1, false)], 2, 16, [.int .i64 0, .int .i64 0], [.int .i64, .int .i64], [(true, [.int .i64, .int .i64])], false⟩,
  ⟨84, .other, 1, 0, [.tuple #[.slice none 0 0, .int .i64 0]], [.any], [(false, [.slc]), (false, [.int .i64])], true⟩,
  ⟨86, .slc 90, 1, 24, [.slice none 0 0], [.slc], [(false, [.slc])], false⟩,
  ⟨90, .st [(0, 1, false), (1, 1, false), (2, 1, false)], 3, 24, [.int .i64 0, .int .i64 0, .int .i64 0], [.int .i64, .int .i64, .int .i64], [(true, [.int .i64, .int .i64, .int .i64])], false⟩,
  ⟨93, .slc 2, 1, 24, [.slice none 0 0], [.slc], [(false, [.slc])], false⟩,
  ⟨95, .slc 3, 1, 24, [.slice none 0 0], [.slc], [(false, [.slc])], false⟩,
  ⟨96, .other, 1, 0, [.tuple #[.slice none 0 0, .int .i64 0]], [.any], [(false, [.slc]), (false, [.int .i64])], true⟩,
  ⟨103, .other, 1, 0, [.tuple #[.int .i64 0, .int .i64 0]], [.any], [(false, [.int .i64]), (false, [.int .i64])], true⟩,
  ⟨111, .st [(0, 1, false), (1, 1, false)], 2, 16, [.int .i64 0, .int .i64 0], [.int .i64, .int .i64], [(true, [.int .i64, .int .i64])], false⟩,
  ⟨112, .ptr, 1, 8, [.pointer none], [.ptr], [(false, [.ptr])], false⟩,
  ⟨113, .other, 1, 0, [.tuple #[.pointer none, .int .i64 0]], [.any], [(false, [.ptr]), (false, [.int .i64])], true⟩,
  ⟨115, .ptr, 1, 8, [.pointer none], [.ptr], [(false, [.ptr])], false⟩,
  ⟨116, .other, 1, 0, [.tuple #[.pointer none, .int .i64 0]], [.any], [(false, [.ptr]), (false, [.int .i64])], true⟩,
  ⟨119, .other, 1, 0, [.tuple #[.agg #[.int .i64 0, .slice none 0 0], .int .i64 0]], [.any], [(true, [.int .i64, .slc]), (false, [.int .i64])], true⟩,
  ⟨126, .slc 130, 1, 24, [.slice none 0 0], [.slc], [(false, [.slc])], false⟩,
  ⟨127, .other, 1, 0, [.tuple #[.slice none 0 0, .int .i64 0]], [.any], [(false, [.slc]), (false, [.int .i64])], true⟩,
  ⟨130, .st [(0, 1, false), (1, 1, false)], 2, 16, [.int .i64 0, .int .u32 0], [.int .i64, .int .u32], [(true, [.int .i64, .int .u32])], false⟩,
  ⟨132, .slc 136, 1, 24, [.slice none 0 0], [.slc], [(false, [.slc])], false⟩,
  ⟨134, .slc 4, 1, 24, [.slice none 0 0], [.slc], [(false, [.slc])], false⟩,
  ⟨136, .st [(0, 1, false), (1, 1, false), (2, 1, false)], 3, 24, [.int .i64 0, .int .i64 0, .int .u32 0], [.int .i64, .int .i64, .int .u32], [(true, [.int .i64, .int .i64, .int .u32])], false⟩,
  ⟨138, .other, 1, 0, [.tuple #[.agg #[.int .i64 0, .int .i64 0], .int .i64 0]], [.any], [(true, [.int .i64, .int .i64]), (false, [.int .i64])], true⟩,
  ⟨141, .int .u64, 1, 8, [.int .u64 0], [.int .u64], [(false, [.int .u64])], false⟩,
  ⟨142, .slc 150, 1, 24, [.slice none 0 0], [.slc], [(false, [.slc])], false⟩,
  ⟨144, .st [(0, 1, false), (1, 1, false), (2, 1, false)], 3, 40, [.bool false, .int .i64 0, .slice none 0 0], [.bool, .int .i64, .slc], [(true, [.bool, .int .i64, .slc])], false⟩,
  ⟨146, .st [(0, 1, false), (1, 1, false), (2, 3, true)], 5, 72, [.int .i64 0, .slice none 0 0, .bool false, .int .i64 0, .slice none 0 0], [.int .i64, .slc, .bool, .int .i64, .slc], [(true, [.int .i64, .slc, .bool, .int .i64, .slc])], false⟩,
  ⟨150, .st [(0, 1, false), (1, 1, false), (2, 1, false), (3, 1, false)], 4, 40, [.int .i64 0, .int .i64 0, .int .i64 0, .string ⟨#[]⟩], [.int .i64, .int .i64, .int .i64, .str], [(true, [.int .i64, .int .i64, .int .i64, .str])], false⟩,
  ⟨154, .st [(0, 1, false), (1, 1, false), (2, 1, false), (3, 1, false)], 4, 32, [.int .i64 0, .int .i64 0, .int .i64 0, .int .i64 0], [.int .i64, .int .i64, .int .i64, .int .i64], [(true, [.int .i64, .int .i64, .int .i64, .int .i64])], false⟩,
  ⟨157, .func, 1, 8, [.nilFunc], [.any], [(false, [.any])], false⟩,
  ⟨159, .st [(0, 1, false)], 1, 24, [.slice none 0 0], [.slc], [(true, [.slc])], false⟩,
  ⟨162, .st [(0, 1, false)], 1, 24, [.slice none 0 0], [.slc], [(true, [.slc])], false⟩,
  ⟨164, .int .u64, 1, 8, [.int .u64 0], [.int .u64], [(false, [.int .u64])], false⟩,
  ⟨175, .slc 180, 1, 24, [.slice none 0 0], [.slc], [(false, [.slc])], false⟩,
  ⟨178, .arr 256 5, 256, 256, List.replicate 256 (.int .u8 0), [.ints 256 .u8], [(true, [.ints 256 .u8])], false⟩,
  ⟨180, .st [(0, 1, false), (1, 256, true)], 257, 264, Value.int .i64 0 :: List.replicate 256 (.int .u8 0), [.int .i64, .ints 256 .u8], [(true, [.int .i64, .ints 256 .u8])], false⟩,
  ⟨182, .slc 188, 1, 24, [.slice none 0 0], [.slc], [(false, [.slc])], false⟩,
  ⟨186, .arr 256 3, 256, 2048, List.replicate 256 (.int .i64 0), [.ints 256 .i64], [(true, [.ints 256 .i64])], false⟩,
  ⟨188, .st [(0, 1, false), (1, 256, true)], 257, 2056, List.replicate 257 (.int .i64 0), [.int .i64, .ints 256 .i64], [(true, [.int .i64, .ints 256 .i64])], false⟩,
  ⟨194, .st [(0, 2, true), (2, 1, false), (3, 1, false), (4, 1, false)], 5, 56, [.int .i64 0, .int .i64 0, .int .i64 0, .slice none 0 0, .bool false], [.int .i64, .int .i64, .int .i64, .slc, .bool], [(true, [.int .i64, .int .i64, .int .i64, .slc, .bool])], false⟩,
  ⟨197, .st [(0, 2, true), (2, 1, false), (3, 1, false), (4, 1, false)], 5, 56, [.int .i64 0, .int .i64 0, .slice none 0 0, .int .i64 0, .bool false], [.int .i64, .int .i64, .slc, .int .i64, .bool], [(true, [.int .i64, .int .i64, .slc, .int .i64, .bool])], false⟩,
  ⟨199, .other, 1, 0, [.tuple #[.agg #[.int .i64 0, .slice none 0 0], .bool false]], [.any], [(true, [.int .i64, .slc]), (false, [.bool])], true⟩,
  ⟨204, .other, 1, 0, [.tuple #[.slice none 0 0, .bool false]], [.any], [(false, [.slc]), (false, [.bool])], true⟩,
  ⟨206, .other, 1, 0, [.tuple #[.slice none 0 0, .bool false]], [.any], [(false, [.slc]), (false, [.bool])], true⟩,
  ⟨208, .arr 16 3, 16, 128, List.replicate 16 (.int .i64 0), [.ints 16 .i64], [(true, [.ints 16 .i64])], false⟩,
  ⟨209, .other, 1, 0, [.tuple #[.slice none 0 0, .agg #[.int .i64 0, .int .i64 0, .int .i64 0, .int .i64 0, .int .i64 0, .int .i64 0, .int .i64 0, .int .i64 0, .int .i64 0, .int .i64 0, .int .i64 0, .int .i64 0, .int .i64 0, .int .i64 0, .int .i64 0, .int .i64 0], .bool false]], [.any], [(false, [.slc]), (true, [.ints 16 .i64]), (false, [.bool])], true⟩,
  ⟨215, .other, 1, 0, [.tuple #[.int .i64 0, .int .i64 0, .int .i64 0]], [.any], [(false, [.int .i64]), (false, [.int .i64]), (false, [.int .i64])], true⟩,
  ⟨227, .other, 1, 0, [.tuple #[.agg #[.bool false, .int .i64 0, .slice none 0 0], .int .i64 0]], [.any], [(true, [.bool, .int .i64, .slc]), (false, [.int .i64])], true⟩,
  ⟨231, .st [(0, 1, false)], 1, 8, [.nilFunc], [.any], [(true, [.any])], false⟩,
  ⟨232, .arr 3 231, 3, 24, [.nilFunc, .nilFunc, .nilFunc], [.any, .any, .any], [(true, [.any, .any, .any])], false⟩,
  ⟨233, .other, 1, 0, [.tuple #[.int .i64 0, .int .i64 0]], [.any], [(false, [.int .i64]), (false, [.int .i64])], true⟩,
  ⟨236, .arr 16 48, 16, 64, List.replicate 16 (.int .u32 0), [.ints 16 .u32], [(true, [.ints 16 .u32])], false⟩]
noncomputable def cx : Ctx := ⟨Try.prog, tys, 3, 199, [50, 70, 90, 111, 130, 150, 154]⟩
end Go.Proofs.Ytkkjjjgcfnhabaa.Eng
namespace Go.Proofs.Ytkkjjjgcfnhabaa.Eng
open Go Go.Proofs
theorem cx_types : cx.T.map (TI.fact cx.P) = cx.T.map TI.want := by kernel_rfl
theorem cx_fit : cx.T.all TI.fit = true := by kernel_rfl
theorem cx_mixed : cx.P.follows .mixedOrders = true := by kernel_rfl
theorem cx_funcs : (List.range 196).all (fun n => callable cx.P (n + 3)) = true := by kernel_rfl
theorem cx_eq1 : cx.eqs.map (fun t => (cx.P.underlying t, cx.P.stoodInHeld t, cx.P.eqGuardType cx.P.depth t, (tget cx.T t).elim true fun i => eqFitB cx.P (cx.P.fieldsOf t).toList 0 i.shp)) = cx.eqs.map fun t => (some (.struct (cx.P.fieldsOf t)), false, false, true) := by kernel_rfl
theorem cx_ok : cx.OK where
  types := cx_types
  fit := cx_fit
  funcs := fun f h1 h2 => by
    have := List.all_eq_true.1 cx_funcs (f - 3) (by simp only [List.mem_range]; have : f < 199 := h2; omega)
    simpa only [Nat.sub_add_cancel (show 3 ≤ f from h1)] using this
  eqs := fun t ht => by
    have := List.map_inj_left.1 cx_eq1 t ht
    simp only [Prod.mk.injEq] at this
    exact eqLaw this.1 this.2.1 this.2.2.1 this.2.2.2
  mixed := cx_mixed
end Go.Proofs.Ytkkjjjgcfnhabaa.Eng
namespace Go.Proofs.Ytkkjjjgcfnhabaa.Eng
open Go

theorem cel_lt {H : Hp} {b o : Nat} {v : Value} (h : cel H b o = some v) : b < H.size := by
  rcases Nat.lt_or_ge b H.size with hb | hb
  · exact hb
  · simp [cel, Array.getElem?_eq_none hb] at h
theorem cel_new (H : Hp) (cs : Array Value) (t : TypeId) (fr : Nat × Nat) (k : Nat) : cel (H.push (.cells cs t fr)) H.size k = cs[k]? := by
  simp [cel]
/-- What is at a place of a heap that may be written: an object with nothing frozen. -/
def objAt (H : Hp) (b : Nat) (cs : Array Value) (t : TypeId) : Prop := H[b]? = some (.cells cs t (0, 0))
theorem objAt_new (H : Hp) (cs : Array Value) (t : TypeId) : objAt (H.push (.cells cs t (0, 0))) H.size cs t := by simp [objAt]
theorem objAt_lt {H : Hp} {b : Nat} {cs : Array Value} {t : TypeId} (h : objAt H b cs t) : b < H.size := by
  rcases Nat.lt_or_ge b H.size with hb | hb
  · exact hb
  · simp [objAt, Array.getElem?_eq_none hb] at h
theorem objAt_cel {H : Hp} {b : Nat} {cs : Array Value} {t : TypeId} (h : objAt H b cs t) (k : Nat) : cel H b k = cs[k]? := by
  unfold objAt at h; simp [cel, h]
theorem Keeps.obj {H H' : Hp} (k : Keeps H H') {b : Nat} {cs : Array Value} {t : TypeId} (h : objAt H b cs t) : objAt H' b cs t := by
  unfold objAt at h ⊢; rw [k.old b (objAt_lt h)]; exact h
theorem objAt_canPut {H : Hp} {b : Nat} {cs : Array Value} {t : TypeId} (h : objAt H b cs t) {o : Nat} {vs : List Value} (hl : o + vs.length ≤ cs.size) (hv : ∀ v ∈ vs, v.oneCell' = true) : canPut H b o vs :=
  ⟨cs, t, 0, 0, h, hl, by omega, hv⟩
theorem objAt_hput {H : Hp} {b : Nat} {cs : Array Value} {t : TypeId} (h : objAt H b cs t) (o : Nat) (vs : List Value) : objAt (hput H b o vs) b (spl cs o vs) t := by
  have := objAt_lt h
  unfold objAt at h ⊢
  simp [hput, Array.getElem?_modify, h, objPut]
theorem hput_other {H : Hp} {b b' o : Nat} {vs : List Value} (h : b ≠ b') : (hput H b o vs)[b']? = H[b']? := by
  simp [hput, Array.getElem?_modify, h]
theorem hput_size (H : Hp) (b o : Nat) (vs : List Value) : (hput H b o vs).size = H.size := by simp [hput]
/-- A store into what came behind H. -/
theorem Keeps.hput {H H' : Hp} (k : Keeps H H') {b o : Nat} {vs : List Value} (hb : H.size ≤ b) : Keeps H (hput H' b o vs) :=
  ⟨by rw [hput_size]; exact k.size, fun i hi => by rw [hput_other (by omega)]; exact k.old i hi⟩
theorem join1 {α : Type} {A : (α → Hp → Prop) → Prop} {B : α → (Nat → Value) → Hp → Prop} (x0 : α) (H0 : Hp) (h1 : A (fun x H => x = x0 ∧ H = H0)) (h2 : ∀ j, B x0 j H0) :
    ∃ M : α → Hp → Prop, A M ∧ ∀ (x : α) (j : Nat → Value) (H : Hp), M x H → B x j H :=
  ⟨_, h1, fun x j H ⟨e1, e2⟩ => by subst e1; subst e2; exact h2 j⟩
theorem xI {H : Hp} {b o : Nat} {k : IntKind} {x : Int} (h : cel H b o = some (.int k x)) (P : Int → Prop) : (∃ y, cel H b o = some (.int k y) ∧ P y) = P x := by
  apply propext; constructor
  · rintro ⟨y, e, p⟩; rw [h] at e; cases e; exact p
  · intro p; exact ⟨x, h, p⟩
/-- An address that is known. -/
theorem xA (b o : Nat) (P : Nat → Nat → Prop) : (∃ b' o', some (⟨b, o, none⟩ : Addr) = some ⟨b', o', none⟩ ∧ P b' o') = P b o := by
  apply propext; constructor
  · rintro ⟨b', o', e, p⟩; cases e; exact p
  · intro p; exact ⟨b, o, rfl, p⟩

/-- The list that a slice shows. `E H b o x`: at that place of the heap lies x; `sz` cells each. -/
def rowR {α : Type} (E : Hp → Nat → Nat → α → Prop) (sz : Nat) (H : Hp) (A : Option Addr) (n : Nat) (xs : List α) : Prop :=
  xs.length = n ∧ ∀ (i : Nat) (x : α), xs[i]? = some x → ∃ b o, A = some ⟨b, o, none⟩ ∧ E H b (o + i * sz) x
def Mono {α : Type} (E : Hp → Nat → Nat → α → Prop) : Prop := ∀ H H' b o x, Keeps H H' → E H b o x → E H' b o x
theorem rowR.keeps {α : Type} {E : Hp → Nat → Nat → α → Prop} (hE : Mono E) {sz : Nat} {H H' : Hp} (k : Keeps H H') {A : Option Addr} {n : Nat} {xs : List α} (h : rowR E sz H A n xs) : rowR E sz H' A n xs :=
  ⟨h.1, fun i x hx => by obtain ⟨b, o, e, he⟩ := h.2 i x hx; exact ⟨b, o, e, hE _ _ _ _ _ k he⟩⟩
theorem rowR.at {α : Type} {E : Hp → Nat → Nat → α → Prop} {sz : Nat} {H : Hp} {A : Option Addr} {n : Nat} {xs : List α} (h : rowR E sz H A n xs) {i : Int} (h0 : 0 ≤ i) (h1 : i < (n : Int)) :
    ∃ x b o, xs[i.toNat]? = some x ∧ A = some ⟨b, o, none⟩ ∧ E H b (o + i.toNat * sz) x := by
  have : i.toNat < xs.length := by rw [h.1]; omega
  obtain ⟨b, o, e, he⟩ := h.2 i.toNat _ (List.getElem?_eq_getElem this)
  exact ⟨_, b, o, List.getElem?_eq_getElem this, e, he⟩
/-- Bytes. -/
def isU8 (H : Hp) (b o : Nat) (x : Int) : Prop := cel H b o = some (.int .u8 x) ∧ 0 ≤ x ∧ x < 256
theorem isU8.mono : Mono isU8 := fun _ _ _ _ _ k h => ⟨k.cel h.1, h.2⟩
abbrev bytesR := rowR isU8 1
def isI64 (H : Hp) (b o : Nat) (x : Int) : Prop := cel H b o = some (.int .i64 x) ∧ -9223372036854775808 ≤ x ∧ x ≤ 9223372036854775807
abbrev intsR := rowR isI64 1
end Go.Proofs.Ytkkjjjgcfnhabaa.Eng

namespace Go.Proofs.Ytkkjjjgcfnhabaa.Eng
open Go Go.Proofs
def f161.an : An := .seq (.reg (.op false (.done))) (.seq (.seq (.reg (.op false (.op false (.done)))) (.cond (.seq (.reg (.op false (.done))) (.nil)) (.nil))) (.seq (.reg (.op false (.done))) (.seq (.blk (.loop [(0, false, [.int .i64]), (3, false, [.slc])] (.seq (.seq (.reg (.op false (.op false (.done)))) (.cond (.nil) (.nil))) (.blk (.seq (.reg (.op false (.op false (.op true (.op true (.op false (.op false (.op false (.done))))))))) (.reg (.op false (.op false (.op false (.done)))))))))) (.seq (.reg (.op false (.op false (.op true (.op false (.op false (.op false (.done)))))))) (.nil)))))
def f161.VC (φ : Fx) (v : Int) (H : Hp) (R : Value → Hp → Prop) : Prop :=
  ((decide (v < 0)) = true → (R (.slice none 0 0) H)) ∧
  ((decide (v < 0)) = false → (∃ (I_ : Int → Option Addr → Nat → Nat → Hp → Prop) (m_ : Int → Option Addr → Nat → Nat → Hp → Nat), I_ v none 0 0 H ∧
      (∀ (v2 : Int) (bA : Option Addr) (bn bc : Nat) (j_ : Nat → Value) (H_ : Hp), I_ v2 bA bn bc H_ → (((decide (128 ≤ v2)) = true → (let H_2 : Hp := Array.push H_ (.cells #[.int .u8 (bOr .u8 (IntKind.wrap .u8 v2) 128)] 5 (0, 0));
              (appW cx 59 59 (Value.slice bA bn bc) (Value.slice (some (⟨Array.size H_, 0, none⟩ : Addr)) 1 1) H_2 (fun v3 H_3 => ∃ (A : Option Addr) (n c : Nat), v3 = .slice A n c ∧ ((0 : Int) ≤ 7 ∧ (I_ (v2 / 128) A n c H_3 ∧ m_ (v2 / 128) A n c H_3 < m_ v2 bA bn bc H_)))))) ∧
          ((decide (128 ≤ v2)) = false → (let H_4 : Hp := Array.push H_ (.cells #[.int .u8 (IntKind.wrap .u8 v2)] 5 (0, 0));
              (appW cx 59 59 (Value.slice bA bn bc) (Value.slice (some (⟨Array.size H_, 0, none⟩ : Addr)) 1 1) H_4 (fun v4 H_5 => ∃ (A2 : Option Addr) (n2 c2 : Nat), v4 = .slice A2 n2 c2 ∧ (R (.slice A2 n2 c2) H_5)))))))))
theorem f161.vc (φ : Fx) (v : Int) (H : Hp) (R : Value → Hp → Prop) : fnW cx φ Try.f161 f161.an [.int .i64 v] H R = f161.VC φ v H R := by kernel_rfl
theorem f161.of {φ : Fx} {v : Int} {H : Hp} {R : Value → Hp → Prop} (h : f161.VC φ v H R) : HCalls cx.P φ 161 [.int .i64 v] H R :=
  fnW_calls cx_ok (show cx.P.funcs[161]? = some Try.f161 by kernel_rfl) (by rw [f161.vc]; exact h)

end Go.Proofs.Ytkkjjjgcfnhabaa.Eng
namespace Go.Proofs.Ytkkjjjgcfnhabaa.Eng
open Go Go.Proofs
def f174.an : An := .seq (.reg (.op false (.done))) (.seq (.reg (.op false (.done))) (.seq (.seq (.reg (.op false (.op false (.done)))) (.cond (.seq (.reg (.op false (.op false (.done)))) (.nil)) (.nil))) (.seq (.blk (.loop [(0, false, [.int .i64]), (3, false, [.slc])] (.seq (.seq (.reg (.op false (.op false (.done)))) (.cond (.nil) (.nil))) (.blk (.seq (.reg (.op false (.op false (.op false (.op false (.op true (.op false (.op false (.op false (.done)))))))))) (.reg (.op false (.op false (.op false (.done)))))))))) (.seq (.reg (.op false (.op false (.op true (.op false (.op false (.op false (.done)))))))) (.seq (.reg (.op false (.op false (.done)))) (.nil))))))
def f174.VC (φ : Fx) (v : Int) (H : Hp) (R : Value → Hp → Prop) : Prop :=
  ((decide (v < 0)) = true → (R (.slice none 0 0) H)) ∧
  ((decide (v < 0)) = false → (∃ (I_ : Int → Option Addr → Nat → Nat → Hp → Prop) (m_ : Int → Option Addr → Nat → Nat → Hp → Nat), I_ v none 0 0 H ∧
      (∀ (v2 : Int) (bA : Option Addr) (bn bc : Nat) (j_ : Nat → Value) (H_ : Hp), I_ v2 bA bn bc H_ → (((decide (128 ≤ v2)) = true → ((0 ≤ v2 ∧ (0 : Int) < 128) ∧
              (((-9223372036854775808) ≤ (v2 % 128) + 128 ∧ (v2 % 128) + 128 ≤ 9223372036854775807) ∧
                (let H_2 : Hp := Array.push H_ (.cells #[.int .u8 (IntKind.wrap .u8 ((v2 % 128) + 128))] 5 (0, 0));
                  (appW cx 59 59 (Value.slice bA bn bc) (Value.slice (some (⟨Array.size H_, 0, none⟩ : Addr)) 1 1) H_2 (fun v3 H_3 => ∃ (A : Option Addr) (n c : Nat), v3 = .slice A n c ∧ ((0 ≤ v2 ∧ v2 ≤ 9223372036854775807 ∧ (0 : Int) < 128) ∧
                        (I_ (v2 / 128) A n c H_3 ∧ m_ (v2 / 128) A n c H_3 < m_ v2 bA bn bc H_)))))))) ∧
          ((decide (128 ≤ v2)) = false → (let H_4 : Hp := Array.push H_ (.cells #[.int .u8 (IntKind.wrap .u8 v2)] 5 (0, 0));
              (appW cx 59 59 (Value.slice bA bn bc) (Value.slice (some (⟨Array.size H_, 0, none⟩ : Addr)) 1 1) H_4 (fun v4 H_5 => ∃ (A2 : Option Addr) (n2 c2 : Nat), v4 = .slice A2 n2 c2 ∧ (R (.slice A2 n2 c2) H_5)))))))))
theorem f174.vc (φ : Fx) (v : Int) (H : Hp) (R : Value → Hp → Prop) : fnW cx φ Try.f174 f174.an [.int .i64 v] H R = f174.VC φ v H R := by kernel_rfl
theorem f174.of {φ : Fx} {v : Int} {H : Hp} {R : Value → Hp → Prop} (h : f174.VC φ v H R) : HCalls cx.P φ 174 [.int .i64 v] H R :=
  fnW_calls cx_ok (show cx.P.funcs[174]? = some Try.f174 by kernel_rfl) (by rw [f174.vc]; exact h)

def f122.an : An := .seq (.reg (.op false (.done))) (.seq (.seq (.reg (.op false (.op false (.op false (.done))))) (.blk (.loop [(7, false, [.int .i64])] (.seq (.reg (.op false (.done))) (.seq (.cond (.nil) (.nil)) (.seq (.blk (.seq (.reg (.op false (.op false (.op false (.done))))) (.seq (.join [(16, false, [.bool])] (.reg (.op false (.op false (.op false (.split 13 (.op false (.op false (.op false (.done)))) (.op false (.op false (.op false (.done)))))))))) (.cond (.seq (.reg (.op false (.done))) (.nil)) (.nil))))) (.reg (.op false (.op false (.done)))))))))) (.seq (.reg (.op false (.done))) (.nil)))
def f122.VC (φ : Fx) (countsA : Option Addr) (countsn countsc : Nat) (H : Hp) (R : Value → Hp → Prop) : Prop :=
  ∃ (I_ : Int → Hp → Prop) (m_ : Int → Hp → Nat), I_ 0 H ∧
  (∀ (x : Int) (j_ : Nat → Value) (H_ : Hp), I_ x H_ → (((decide (x < ((countsn : Nat) : Int))) = true → (∃ (b o : Nat), countsA = some ⟨b, o, none⟩ ∧ (0 ≤ x ∧ x < ((countsn : Nat) : Int)) ∧
          (∃ (x2 : Int), cel H_ b (o + Int.toNat x * 1) = some (.int .i64 x2) ∧ (∃ M_ : Bool → Hp → Prop, (((decide (x2 < 0)) = true → (M_ true H_)) ∧
                ((decide (x2 < 0)) = false → (M_ (decide (1099511627776 < x2)) H_))) ∧
              (∀ (x3 : Bool) (j_2 : Nat → Value) (H_2 : Hp), M_ x3 H_2 → ((x3 = true → (R (.int .i64 3) H_2)) ∧
                  (x3 = false → (((-9223372036854775808) ≤ x + 1 ∧ x + 1 ≤ 9223372036854775807) ∧
                      (I_ (x + 1) H_2 ∧ m_ (x + 1) H_2 < m_ x H_))))))))) ∧
      ((decide (x < ((countsn : Nat) : Int))) = false → (R (.int .i64 0) H_))))
theorem f122.vc (φ : Fx) (countsA : Option Addr) (countsn countsc : Nat) (H : Hp) (R : Value → Hp → Prop) : fnW cx φ Try.f122 f122.an [.slice countsA countsn countsc] H R = f122.VC φ countsA countsn countsc H R := by kernel_rfl
theorem f122.of {φ : Fx} {countsA : Option Addr} {countsn countsc : Nat} {H : Hp} {R : Value → Hp → Prop} (h : f122.VC φ countsA countsn countsc H R) : HCalls cx.P φ 122 [.slice countsA countsn countsc] H R :=
  fnW_calls cx_ok (show cx.P.funcs[122]? = some Try.f122 by kernel_rfl) (by rw [f122.vc]; exact h)

def f194.an : An := .seq (.reg (.op false (.op false (.op false (.done))))) (.blk (.loop [(8, false, [.int .i64])] (.seq (.seq (.reg (.op false (.op false (.op false (.done))))) (.cond (.nil) (.nil))) (.seq (.blk (.seq (.reg (.op false (.op false (.done)))) (.blk (.loop [(9, false, [.int .i64])] (.seq (.seq (.join [(34, false, [.bool])] (.draw [[], [], [0, 1], [0, 1, 2], [0, 1, 2, 3], [0, 1, 2, 3], [0, 1, 2, 3], [0, 1, 2, 3, 5, 6], [0, 1, 2, 3, 5, 6, 7], [0, 1, 2, 3], [0, 1, 2, 3], [0, 1, 2, 3, 10], [0, 1, 2, 3, 9, 10, 11], [0, 1, 2, 3, 9, 10, 11, 12], [0, 1, 2, 3, 4, 5, 6, 7, 8, 9, 10, 11, 12, 13], [0, 1, 2, 3, 4, 5, 6, 7, 8, 9, 10, 11, 12, 13, 14], [0, 1, 2, 3, 4, 5, 6, 7, 8, 9, 10, 11, 12, 13, 14, 15]] (.rd 0 false (.rd 1 false (.rd 2 false (.rd 3 false (.split 21 (.rd 4 false (.rd 5 false (.rd 6 false (.rd 7 false (.rd 8 false (.rd 9 false (.rd 10 false (.rd 11 false (.rd 12 false (.rd 13 false (.eff 14 false (.rd 15 false (.rd 16 false (.done)))))))))))))) (.rd 4 false (.rd 5 false (.rd 6 false (.rd 7 false (.rd 8 false (.rd 9 false (.rd 10 false (.rd 11 false (.rd 12 false (.rd 13 false (.rd 14 false (.rd 15 false (.rd 16 false (.done))))))))))))))))))))) (.cond (.nil) (.nil))) (.seq (.blk (.draw [[], [], [], [], [3], [], [], [6], [5, 6, 7], [5, 6, 7, 8], [], [], [10, 11], [10, 11, 12], [0, 1, 5, 6, 7, 8, 9, 10, 11, 12, 13], [0, 1, 5, 6, 7, 8, 9, 10, 11, 12, 13, 14], [0, 1, 2, 3, 4, 5, 6, 7, 8, 9, 10, 11, 12, 13, 14, 15], [0, 1, 2, 3, 4, 5, 6, 7, 8, 9, 10, 11, 12, 13, 14, 15, 16]] (.rd 0 false (.rd 1 false (.rd 2 false (.rd 3 false (.rd 4 false (.rd 5 false (.rd 6 false (.rd 7 false (.rd 8 false (.rd 9 false (.rd 10 false (.rd 11 false (.rd 12 false (.rd 13 false (.rd 14 false (.eff 15 false (.rd 16 false (.eff 17 false (.done))))))))))))))))))))) (.reg (.op false (.op false (.op false (.done))))))))))) (.reg (.op false (.op false (.op false (.done)))))))))
def f194.VC (φ : Fx) (dataA : Option Addr) (datan datac : Nat) (a : Int) (b : Int) (cmp : Value) (H : Hp) (R : Value → Hp → Prop) : Prop :=
  ((-9223372036854775808) ≤ a + 1 ∧ a + 1 ≤ 9223372036854775807) ∧
  (∃ (I_ : Int → Hp → Prop) (m_ : Int → Hp → Nat), I_ (a + 1) H ∧
    (∀ (i : Int) (j_ : Nat → Value) (H_ : Hp), I_ i H_ → (((decide (i < b)) = true → (∃ (I_2 : Int → Hp → Prop) (m_2 : Int → Hp → Nat), I_2 i H_ ∧
            (∀ (j_3 : Int) (j_2 : Nat → Value) (H_2 : Hp), I_2 j_3 H_2 → (∃ M_ : Bool → Hp → Prop, (((decide (a < j_3)) = true → (∃ (b2 o : Nat), dataA = some ⟨b2, o, none⟩ ∧ (0 ≤ j_3 ∧ j_3 < ((datan : Nat) : Int)) ∧
                      (∃ (weight : Int), cel H_2 b2 (o + Int.toNat j_3 * 257) = some (.int .i64 weight) ∧
                        ∃ often : List Int, (often.length = 256 ∧ ∀ j, j < 256 → cel H_2 b2 (o + Int.toNat j_3 * 257 + 1 + j) = some (.int .u8 (often.getD j 0))) ∧ (((-9223372036854775808) ≤ j_3 - 1 ∧ j_3 - 1 ≤ 9223372036854775807) ∧
                          (∃ (b3 o2 : Nat), dataA = some ⟨b3, o2, none⟩ ∧ (0 ≤ (j_3 - 1) ∧ (j_3 - 1) < ((datan : Nat) : Int)) ∧
                            (∃ (weight2 : Int), cel H_2 b3 (o2 + Int.toNat (j_3 - 1) * 257) = some (.int .i64 weight2) ∧
                              ∃ often2 : List Int, (often2.length = 256 ∧ ∀ j, j < 256 → cel H_2 b3 (o2 + Int.toNat (j_3 - 1) * 257 + 1 + j) = some (.int .u8 (often2.getD j 0))) ∧ (callW cx φ cmp [.agg ((Value.int .i64 weight :: (List.map (Value.int .u8) often ++ []))).toArray, .agg ((Value.int .i64 weight2 :: (List.map (Value.int .u8) often2 ++ []))).toArray] H_2 (fun v H_3 => ∃ (x : Int), v = .int .i64 x ∧ (M_ (decide (x < 0)) H_3))))))))) ∧
                  ((decide (a < j_3)) = false → (M_ false H_2))) ∧
                (∀ (x2 : Bool) (j_4 : Nat → Value) (H_4 : Hp), M_ x2 H_4 → ((x2 = true → (((-9223372036854775808) ≤ j_3 - 1 ∧ j_3 - 1 ≤ 9223372036854775807) ∧
                        (((-9223372036854775808) ≤ j_3 - 1 ∧ j_3 - 1 ≤ 9223372036854775807) ∧
                          (∃ (b4 o3 : Nat), dataA = some ⟨b4, o3, none⟩ ∧ (0 ≤ (j_3 - 1) ∧ (j_3 - 1) < ((datan : Nat) : Int)) ∧
                            (∃ (weight3 : Int), cel H_4 b4 (o3 + Int.toNat (j_3 - 1) * 257) = some (.int .i64 weight3) ∧
                              ∃ often3 : List Int, (often3.length = 256 ∧ ∀ j, j < 256 → cel H_4 b4 (o3 + Int.toNat (j_3 - 1) * 257 + 1 + j) = some (.int .u8 (often3.getD j 0))) ∧ (∃ (b5 o4 : Nat), dataA = some ⟨b5, o4, none⟩ ∧ (0 ≤ j_3 ∧ j_3 < ((datan : Nat) : Int)) ∧
                                (∃ (weight4 : Int), cel H_4 b5 (o4 + Int.toNat j_3 * 257) = some (.int .i64 weight4) ∧
                                  ∃ often4 : List Int, (often4.length = 256 ∧ ∀ j, j < 256 → cel H_4 b5 (o4 + Int.toNat j_3 * 257 + 1 + j) = some (.int .u8 (often4.getD j 0))) ∧ (∃ (b6 o5 : Nat), dataA = some ⟨b6, o5, none⟩ ∧ (0 ≤ j_3 ∧ j_3 < ((datan : Nat) : Int)) ∧
                                    (fitsN ((List.map (Value.int .u8) often3 ++ []) : List Value) 256
                                      (canPut H_4 b6 (o5 + Int.toNat j_3 * 257) (Value.int .i64 weight3 :: (List.map (Value.int .u8) often3 ++ [])) ∧
                                        (let H_5 : Hp := hput H_4 b6 (o5 + Int.toNat j_3 * 257) (Value.int .i64 weight3 :: (List.map (Value.int .u8) often3 ++ []));
                                          (∃ (b7 o6 : Nat), dataA = some ⟨b7, o6, none⟩ ∧ (0 ≤ (j_3 - 1) ∧ (j_3 - 1) < ((datan : Nat) : Int)) ∧
                                            (fitsN ((List.map (Value.int .u8) often4 ++ []) : List Value) 256
                                              (canPut H_5 b7 (o6 + Int.toNat (j_3 - 1) * 257) (Value.int .i64 weight4 :: (List.map (Value.int .u8) often4 ++ [])) ∧
                                                (let H_6 : Hp := hput H_5 b7 (o6 + Int.toNat (j_3 - 1) * 257) (Value.int .i64 weight4 :: (List.map (Value.int .u8) often4 ++ []));
                                                  (((-9223372036854775808) ≤ j_3 - 1 ∧ j_3 - 1 ≤ 9223372036854775807) ∧
                                                    (I_2 (j_3 - 1) H_6 ∧ m_2 (j_3 - 1) H_6 < m_2 j_3 H_2))))))))))))))))) ∧
                    (x2 = false → (((-9223372036854775808) ≤ i + 1 ∧ i + 1 ≤ 9223372036854775807) ∧
                        (I_ (i + 1) H_4 ∧ m_ (i + 1) H_4 < m_ i H_))))))))) ∧
        ((decide (i < b)) = false → (R (.tuple #[]) H_)))))
theorem f194.vc (φ : Fx) (dataA : Option Addr) (datan datac : Nat) (a : Int) (b : Int) (cmp : Value) (H : Hp) (R : Value → Hp → Prop) : fnW cx φ Try.f194 f194.an [.slice dataA datan datac, .int .i64 a, .int .i64 b, cmp] H R = f194.VC φ dataA datan datac a b cmp H R := by kernel_rfl
theorem f194.of {φ : Fx} {dataA : Option Addr} {datan datac : Nat} {a : Int} {b : Int} {cmp : Value} {H : Hp} {R : Value → Hp → Prop} (h : f194.VC φ dataA datan datac a b cmp H R) : HCalls cx.P φ 194 [.slice dataA datan datac, .int .i64 a, .int .i64 b, cmp] H R :=
  fnW_calls cx_ok (show cx.P.funcs[194]? = some Try.f194 by kernel_rfl) (by rw [f194.vc]; exact h)

def f198.an : An := .seq (.reg (.op false (.done))) (.blk (.loop [(10, false, [.int .i64])] (.seq (.seq (.reg (.op false (.op false (.op false (.done))))) (.cond (.nil) (.nil))) (.seq (.blk (.draw [[], [], [], [1, 2], [], [], [], [5, 6], [], [], [], [9, 10], [8, 9, 10, 11], [8, 9, 10, 11, 12], [], [], [], [15, 16], [14, 15, 16, 17], [14, 15, 16, 17, 18], [0, 1, 2, 3, 8, 9, 10, 11, 12, 13, 14, 15, 16, 17, 18, 19], [0, 1, 2, 3, 8, 9, 10, 11, 12, 13, 14, 15, 16, 17, 18, 19, 20], [0, 1, 2, 3, 4, 5, 6, 7, 8, 9, 10, 11, 12, 13, 14, 15, 16, 17, 18, 19, 20, 21], [0, 1, 2, 3, 4, 5, 6, 7, 8, 9, 10, 11, 12, 13, 14, 15, 16, 17, 18, 19, 20, 21, 22]] (.rd 0 false (.rd 1 false (.rd 2 false (.rd 3 false (.rd 4 false (.rd 5 false (.rd 6 false (.rd 7 false (.rd 8 false (.rd 9 false (.rd 10 false (.rd 11 false (.rd 12 false (.rd 13 false (.rd 14 false (.rd 15 false (.rd 16 false (.rd 17 false (.rd 18 false (.rd 19 false (.rd 20 false (.eff 21 false (.rd 22 false (.eff 23 false (.done))))))))))))))))))))))))))) (.reg (.op false (.op false (.op false (.done)))))))))
def f198.VC (φ : Fx) (dataA : Option Addr) (datan datac : Nat) (a : Int) (b : Int) (n : Int) (cmp : Value) (H : Hp) (R : Value → Hp → Prop) : Prop :=
  ∃ (I_ : Int → Hp → Prop) (m_ : Int → Hp → Nat), I_ 0 H ∧
  (∀ (i : Int) (j_ : Nat → Value) (H_ : Hp), I_ i H_ → (((decide (i < n)) = true → (((-9223372036854775808) ≤ a + i ∧ a + i ≤ 9223372036854775807) ∧
          (((-9223372036854775808) ≤ b + i ∧ b + i ≤ 9223372036854775807) ∧
            (((-9223372036854775808) ≤ b + i ∧ b + i ≤ 9223372036854775807) ∧
              (∃ (b2 o : Nat), dataA = some ⟨b2, o, none⟩ ∧ (0 ≤ (b + i) ∧ (b + i) < ((datan : Nat) : Int)) ∧
                (∃ (weight : Int), cel H_ b2 (o + Int.toNat (b + i) * 257) = some (.int .i64 weight) ∧
                  ∃ often : List Int, (often.length = 256 ∧ ∀ j, j < 256 → cel H_ b2 (o + Int.toNat (b + i) * 257 + 1 + j) = some (.int .u8 (often.getD j 0))) ∧ (((-9223372036854775808) ≤ a + i ∧ a + i ≤ 9223372036854775807) ∧
                    (∃ (b3 o2 : Nat), dataA = some ⟨b3, o2, none⟩ ∧ (0 ≤ (a + i) ∧ (a + i) < ((datan : Nat) : Int)) ∧
                      (∃ (weight2 : Int), cel H_ b3 (o2 + Int.toNat (a + i) * 257) = some (.int .i64 weight2) ∧
                        ∃ often2 : List Int, (often2.length = 256 ∧ ∀ j, j < 256 → cel H_ b3 (o2 + Int.toNat (a + i) * 257 + 1 + j) = some (.int .u8 (often2.getD j 0))) ∧ (∃ (b4 o3 : Nat), dataA = some ⟨b4, o3, none⟩ ∧ (0 ≤ (a + i) ∧ (a + i) < ((datan : Nat) : Int)) ∧
                          (fitsN ((List.map (Value.int .u8) often ++ []) : List Value) 256
                            (canPut H_ b4 (o3 + Int.toNat (a + i) * 257) (Value.int .i64 weight :: (List.map (Value.int .u8) often ++ [])) ∧
                              (let H_2 : Hp := hput H_ b4 (o3 + Int.toNat (a + i) * 257) (Value.int .i64 weight :: (List.map (Value.int .u8) often ++ []));
                                (∃ (b5 o4 : Nat), dataA = some ⟨b5, o4, none⟩ ∧ (0 ≤ (b + i) ∧ (b + i) < ((datan : Nat) : Int)) ∧
                                  (fitsN ((List.map (Value.int .u8) often2 ++ []) : List Value) 256
                                    (canPut H_2 b5 (o4 + Int.toNat (b + i) * 257) (Value.int .i64 weight2 :: (List.map (Value.int .u8) often2 ++ [])) ∧
                                      (let H_3 : Hp := hput H_2 b5 (o4 + Int.toNat (b + i) * 257) (Value.int .i64 weight2 :: (List.map (Value.int .u8) often2 ++ []));
                                        (((-9223372036854775808) ≤ i + 1 ∧ i + 1 ≤ 9223372036854775807) ∧
                                          (I_ (i + 1) H_3 ∧ m_ (i + 1) H_3 < m_ i H_))))))))))))))))))) ∧
      ((decide (i < n)) = false → (R (.tuple #[]) H_))))
theorem f198.vc (φ : Fx) (dataA : Option Addr) (datan datac : Nat) (a : Int) (b : Int) (n : Int) (cmp : Value) (H : Hp) (R : Value → Hp → Prop) : fnW cx φ Try.f198 f198.an [.slice dataA datan datac, .int .i64 a, .int .i64 b, .int .i64 n, cmp] H R = f198.VC φ dataA datan datac a b n cmp H R := by kernel_rfl
theorem f198.of {φ : Fx} {dataA : Option Addr} {datan datac : Nat} {a : Int} {b : Int} {n : Int} {cmp : Value} {H : Hp} {R : Value → Hp → Prop} (h : f198.VC φ dataA datan datac a b n cmp H R) : HCalls cx.P φ 198 [.slice dataA datan datac, .int .i64 a, .int .i64 b, .int .i64 n, cmp] H R :=
  fnW_calls cx_ok (show cx.P.funcs[198]? = some Try.f198 by kernel_rfl) (by rw [f198.vc]; exact h)

def f197.an : An := .seq (.reg (.op false (.op false (.op false (.op false (.done)))))) (.seq (.reg (.op false (.op false (.op false (.op false (.done)))))) (.seq (.blk (.loop [(10, false, [.int .i64]), (11, false, [.int .i64])] (.seq (.seq (.reg (.op false (.op false (.op false (.done))))) (.cond (.nil) (.nil))) (.blk (.seq (.reg (.op false (.op false (.op false (.done))))) (.join [(10, false, [.int .i64]), (11, false, [.int .i64])] (.cond (.seq (.reg (.op false (.op false (.op false (.op false (.op false (.op false (.op false (.op false (.done)))))))))) (.reg (.op false (.op false (.op false (.op false (.done))))))) (.seq (.reg (.op false (.op false (.op false (.op false (.op false (.op false (.op false (.op false (.op false (.op false (.op false (.op false (.done)))))))))))))) (.reg (.op false (.op false (.op false (.op false (.done)))))))))))))) (.reg (.op false (.op false (.op false (.op false (.op false (.op false (.op false (.op false (.done))))))))))))
def f197.VC (φ : Fx) (dataA : Option Addr) (datan datac : Nat) (a : Int) (m_ : Int) (b : Int) (cmp : Value) (H : Hp) (R : Value → Hp → Prop) : Prop :=
  ((-9223372036854775808) ≤ m_ - a ∧ m_ - a ≤ 9223372036854775807) ∧
  (((-9223372036854775808) ≤ b - m_ ∧ b - m_ ≤ 9223372036854775807) ∧
    (∃ (I_ : Int → Int → Hp → Prop) (m_2 : Int → Int → Hp → Nat), I_ (m_ - a) (b - m_) H ∧
      (∀ (i : Int) (j_2 : Int) (j_ : Nat → Value) (H_ : Hp), I_ i j_2 H_ → (((!decide (i = j_2)) = true → (∃ M_ : Int → Int → Hp → Prop, (((decide (j_2 < i)) = true → (((-9223372036854775808) ≤ m_ - i ∧ m_ - i ≤ 9223372036854775807) ∧
                    (HCalls cx.P φ 198 [.slice dataA datan datac, .int .i64 (m_ - i), .int .i64 m_, .int .i64 j_2, cmp] H_ (fun v H_2 => v = .tuple #[] ∧ (((-9223372036854775808) ≤ i - j_2 ∧ i - j_2 ≤ 9223372036854775807) ∧
                          (M_ (i - j_2) j_2 H_2)))))) ∧
                ((decide (j_2 < i)) = false → (((-9223372036854775808) ≤ m_ - i ∧ m_ - i ≤ 9223372036854775807) ∧
                    (((-9223372036854775808) ≤ m_ + j_2 ∧ m_ + j_2 ≤ 9223372036854775807) ∧
                      (((-9223372036854775808) ≤ (m_ + j_2) - i ∧ (m_ + j_2) - i ≤ 9223372036854775807) ∧
                        (HCalls cx.P φ 198 [.slice dataA datan datac, .int .i64 (m_ - i), .int .i64 ((m_ + j_2) - i), .int .i64 i, cmp] H_ (fun v2 H_3 => v2 = .tuple #[] ∧ (((-9223372036854775808) ≤ j_2 - i ∧ j_2 - i ≤ 9223372036854775807) ∧
                              (M_ i (j_2 - i) H_3))))))))) ∧
              (∀ (i2 : Int) (j_4 : Int) (j_3 : Nat → Value) (H_4 : Hp), M_ i2 j_4 H_4 → (I_ i2 j_4 H_4 ∧ m_2 i2 j_4 H_4 < m_2 i j_2 H_)))) ∧
          ((!decide (i = j_2)) = false → (((-9223372036854775808) ≤ m_ - i ∧ m_ - i ≤ 9223372036854775807) ∧
              (HCalls cx.P φ 198 [.slice dataA datan datac, .int .i64 (m_ - i), .int .i64 m_, .int .i64 i, cmp] H_ (fun v3 H_5 => v3 = .tuple #[] ∧ (R (.tuple #[]) H_5)))))))))
theorem f197.vc (φ : Fx) (dataA : Option Addr) (datan datac : Nat) (a : Int) (m_ : Int) (b : Int) (cmp : Value) (H : Hp) (R : Value → Hp → Prop) : fnW cx φ Try.f197 f197.an [.slice dataA datan datac, .int .i64 a, .int .i64 m_, .int .i64 b, cmp] H R = f197.VC φ dataA datan datac a m_ b cmp H R := by kernel_rfl
theorem f197.of {φ : Fx} {dataA : Option Addr} {datan datac : Nat} {a : Int} {m_ : Int} {b : Int} {cmp : Value} {H : Hp} {R : Value → Hp → Prop} (h : f197.VC φ dataA datan datac a m_ b cmp H R) : HCalls cx.P φ 197 [.slice dataA datan datac, .int .i64 a, .int .i64 m_, .int .i64 b, cmp] H R :=
  fnW_calls cx_ok (show cx.P.funcs[197]? = some Try.f197 by kernel_rfl) (by rw [f197.vc]; exact h)

def f195.an : An := .seq (.seq (.reg (.op false (.op false (.op false (.op false (.done)))))) (.cond (.seq (.reg (.op false (.op false (.done)))) (.seq (.reg (.op false (.op false (.done)))) (.seq (.blk (.loop [(10, false, [.int .i64]), (11, false, [.int .i64])] (.seq (.seq (.reg (.op false (.op false (.op false (.done))))) (.cond (.nil) (.nil))) (.blk (.seq (.reg (.op false (.op false (.op false (.op true (.op true (.op true (.op false (.done))))))))) (.seq (.draw [[], [], [], [1, 2], [1, 2, 3], [], [], [5, 6], [5, 6, 7], [0, 1, 2, 3, 4, 5, 6, 7, 8], [0, 1, 2, 3, 4, 5, 6, 7, 8, 9]] (.rd 0 false (.rd 1 false (.rd 2 false (.rd 3 false (.rd 4 false (.rd 5 false (.rd 6 false (.rd 7 false (.rd 8 false (.eff 9 false (.rd 10 false (.done))))))))))))) (.join [(10, false, [.int .i64]), (11, false, [.int .i64])] (.cond (.reg (.op false (.op false (.op false (.done))))) (.reg (.op false (.op false (.done)))))))))))) (.seq (.seq (.reg (.op false (.op false (.done)))) (.blk (.loop [(13, false, [.int .i64])] (.seq (.seq (.reg (.op false (.op false (.op false (.op false (.done)))))) (.cond (.nil) (.nil))) (.seq (.blk (.draw [[], [], [], [], [3], [], [], [6], [5, 6, 7], [5, 6, 7, 8], [], [], [10, 11], [10, 11, 12], [0, 1, 5, 6, 7, 8, 9, 10, 11, 12, 13], [0, 1, 5, 6, 7, 8, 9, 10, 11, 12, 13, 14], [0, 1, 2, 3, 4, 5, 6, 7, 8, 9, 10, 11, 12, 13, 14, 15], [0, 1, 2, 3, 4, 5, 6, 7, 8, 9, 10, 11, 12, 13, 14, 15, 16]] (.rd 0 false (.rd 1 false (.rd 2 false (.rd 3 false (.rd 4 false (.rd 5 false (.rd 6 false (.rd 7 false (.rd 8 false (.rd 9 false (.rd 10 false (.rd 11 false (.rd 12 false (.rd 13 false (.rd 14 false (.eff 15 false (.rd 16 false (.eff 17 false (.done))))))))))))))))))))) (.reg (.op false (.op false (.op false (.done)))))))))) (.nil))))) (.nil))) (.seq (.seq (.reg (.op false (.op false (.op false (.op false (.done)))))) (.cond (.seq (.reg (.op false (.op false (.done)))) (.seq (.reg (.op false (.op false (.done)))) (.seq (.blk (.loop [(14, false, [.int .i64]), (15, false, [.int .i64])] (.seq (.seq (.reg (.op false (.op false (.op false (.done))))) (.cond (.nil) (.nil))) (.blk (.seq (.reg (.op false (.op false (.op false (.op true (.op true (.op true (.op false (.done))))))))) (.seq (.draw [[], [], [], [1, 2], [1, 2, 3], [], [], [5, 6], [5, 6, 7], [0, 1, 2, 3, 4, 5, 6, 7, 8], [0, 1, 2, 3, 4, 5, 6, 7, 8, 9], [0, 1, 2, 3, 4, 5, 6, 7, 8, 9, 10]] (.rd 0 false (.rd 1 false (.rd 2 false (.rd 3 false (.rd 4 false (.rd 5 false (.rd 6 false (.rd 7 false (.rd 8 false (.eff 9 false (.rd 10 false (.rd 11 false (.done)))))))))))))) (.join [(14, false, [.int .i64]), (15, false, [.int .i64])] (.cond (.reg (.op false (.op false (.op false (.done))))) (.reg (.op false (.op false (.done)))))))))))) (.seq (.seq (.reg (.op false (.op false (.done)))) (.blk (.loop [(17, false, [.int .i64])] (.seq (.seq (.reg (.op false (.op false (.op false (.done))))) (.cond (.nil) (.nil))) (.seq (.blk (.draw [[], [], [], [], [3], [], [], [6], [5, 6, 7], [5, 6, 7, 8], [], [], [10, 11], [10, 11, 12], [0, 1, 5, 6, 7, 8, 9, 10, 11, 12, 13], [0, 1, 5, 6, 7, 8, 9, 10, 11, 12, 13, 14], [0, 1, 2, 3, 4, 5, 6, 7, 8, 9, 10, 11, 12, 13, 14, 15], [0, 1, 2, 3, 4, 5, 6, 7, 8, 9, 10, 11, 12, 13, 14, 15, 16]] (.rd 0 false (.rd 1 false (.rd 2 false (.rd 3 false (.rd 4 false (.rd 5 false (.rd 6 false (.rd 7 false (.rd 8 false (.rd 9 false (.rd 10 false (.rd 11 false (.rd 12 false (.rd 13 false (.rd 14 false (.eff 15 false (.rd 16 false (.eff 17 false (.done))))))))))))))))))))) (.reg (.op false (.op false (.op false (.done)))))))))) (.nil))))) (.nil))) (.seq (.reg (.op false (.op false (.op false (.op true (.op true (.op true (.op false (.done))))))))) (.seq (.reg (.op false (.op false (.op false (.op false (.done)))))) (.seq (.reg (.op false (.op false (.done)))) (.seq (.seq (.reg (.op false (.op false (.op false (.done))))) (.join [(20, false, [.int .i64]), (21, false, [.int .i64])] (.cond (.seq (.reg (.op false (.op false (.op false (.op false (.done)))))) (.reg (.op false (.op false (.done))))) (.seq (.reg (.op false (.op false (.done)))) (.reg (.op false (.op false (.done)))))))) (.seq (.reg (.op false (.op false (.op false (.done))))) (.seq (.blk (.loop [(20, false, [.int .i64]), (21, false, [.int .i64])] (.seq (.seq (.reg (.op false (.op false (.op false (.done))))) (.cond (.nil) (.nil))) (.blk (.seq (.reg (.op false (.op false (.op false (.op true (.op true (.op true (.op false (.done))))))))) (.seq (.draw [[], [], [], [], [2, 3], [1, 2, 3, 4], [1, 2, 3, 4, 5], [], [], [7, 8], [7, 8, 9], [0, 1, 2, 3, 4, 5, 6, 7, 8, 9, 10], [0, 1, 2, 3, 4, 5, 6, 7, 8, 9, 10, 11], [0, 1, 2, 3, 4, 5, 6, 7, 8, 9, 10, 11, 12]] (.rd 0 false (.rd 1 false (.rd 2 false (.rd 3 false (.rd 4 false (.rd 5 false (.rd 6 false (.rd 7 false (.rd 8 false (.rd 9 false (.rd 10 false (.eff 11 false (.rd 12 false (.rd 13 false (.done)))))))))))))))) (.join [(20, false, [.int .i64]), (21, false, [.int .i64])] (.cond (.reg (.op false (.op false (.op false (.done))))) (.reg (.op false (.op false (.done)))))))))))) (.seq (.reg (.op false (.op false (.op false (.op false (.done)))))) (.seq (.seq (.join [(185, false, [.bool])] (.reg (.op false (.op false (.op false (.op false (.split 181 (.op false (.op false (.op false (.op false (.done))))) (.op false (.op false (.op false (.op false (.done)))))))))))) (.join [] (.cond (.reg (.op false (.op false (.op false (.op false (.op false (.op false (.done)))))))) (.nil)))) (.seq (.seq (.join [(199, false, [.bool])] (.reg (.op false (.op false (.op false (.op false (.split 195 (.op false (.op false (.op false (.op false (.done))))) (.op false (.op false (.op false (.op false (.done)))))))))))) (.join [] (.cond (.reg (.op false (.op false (.op false (.op false (.op false (.op false (.done)))))))) (.nil)))) (.seq (.join [(213, false, [.bool])] (.reg (.op false (.op false (.op false (.op false (.split 209 (.op false (.op false (.op false (.op false (.done))))) (.op false (.op false (.op false (.op false (.done)))))))))))) (.join [] (.cond (.reg (.op false (.op false (.op false (.op false (.op false (.op false (.done)))))))) (.nil))))))))))))))
def f195.VC (φ : Fx) (dataA : Option Addr) (datan datac : Nat) (a : Int) (m_ : Int) (b : Int) (cmp : Value) (H : Hp) (R : Value → Hp → Prop) : Prop :=
  ((-9223372036854775808) ≤ m_ - a ∧ m_ - a ≤ 9223372036854775807) ∧
  (((decide ((m_ - a) = 1)) = true → (∃ (I_ : Int → Int → Hp → Prop) (m_2 : Int → Int → Hp → Nat), I_ m_ b H ∧
        (∀ (i : Int) (j_2 : Int) (j_ : Nat → Value) (H_ : Hp), I_ i j_2 H_ → (((decide (i < j_2)) = true → (((-9223372036854775808) ≤ i + j_2 ∧ i + j_2 ≤ 9223372036854775807) ∧
                ((0 : Int) ≤ 1 ∧ (∃ (b2 o : Nat), dataA = some ⟨b2, o, none⟩ ∧ (0 ≤ (IntKind.wrap .i64 ((IntKind.wrap .u64 (i + j_2)) / 2)) ∧ (IntKind.wrap .i64 ((IntKind.wrap .u64 (i + j_2)) / 2)) < ((datan : Nat) : Int)) ∧
                    (∃ (weight : Int), cel H_ b2 (o + Int.toNat (IntKind.wrap .i64 ((IntKind.wrap .u64 (i + j_2)) / 2)) * 257) = some (.int .i64 weight) ∧
                      ∃ often : List Int, (often.length = 256 ∧ ∀ j, j < 256 → cel H_ b2 (o + Int.toNat (IntKind.wrap .i64 ((IntKind.wrap .u64 (i + j_2)) / 2)) * 257 + 1 + j) = some (.int .u8 (often.getD j 0))) ∧ (∃ (b3 o2 : Nat), dataA = some ⟨b3, o2, none⟩ ∧ (0 ≤ a ∧ a < ((datan : Nat) : Int)) ∧
                        (∃ (weight2 : Int), cel H_ b3 (o2 + Int.toNat a * 257) = some (.int .i64 weight2) ∧
                          ∃ often2 : List Int, (often2.length = 256 ∧ ∀ j, j < 256 → cel H_ b3 (o2 + Int.toNat a * 257 + 1 + j) = some (.int .u8 (often2.getD j 0))) ∧ (callW cx φ cmp [.agg ((Value.int .i64 weight :: (List.map (Value.int .u8) often ++ []))).toArray, .agg ((Value.int .i64 weight2 :: (List.map (Value.int .u8) often2 ++ []))).toArray] H_ (fun v H_2 => ∃ (x : Int), v = .int .i64 x ∧ (∃ M_ : Int → Int → Hp → Prop, (((decide (x < 0)) = true → (((-9223372036854775808) ≤ (IntKind.wrap .i64 ((IntKind.wrap .u64 (i + j_2)) / 2)) + 1 ∧ (IntKind.wrap .i64 ((IntKind.wrap .u64 (i + j_2)) / 2)) + 1 ≤ 9223372036854775807) ∧
                                      (M_ ((IntKind.wrap .i64 ((IntKind.wrap .u64 (i + j_2)) / 2)) + 1) j_2 H_2))) ∧
                                  ((decide (x < 0)) = false → (M_ i (IntKind.wrap .i64 ((IntKind.wrap .u64 (i + j_2)) / 2)) H_2))) ∧
                                (∀ (i2 : Int) (j_4 : Int) (j_3 : Nat → Value) (H_3 : Hp), M_ i2 j_4 H_3 → (I_ i2 j_4 H_3 ∧ m_2 i2 j_4 H_3 < m_2 i j_2 H_)))))))))))) ∧
            ((decide (i < j_2)) = false → (∃ (I_2 : Int → Hp → Prop) (m_3 : Int → Hp → Nat), I_2 a H_ ∧
                (∀ (k : Int) (j_5 : Nat → Value) (H_4 : Hp), I_2 k H_4 → (((-9223372036854775808) ≤ i - 1 ∧ i - 1 ≤ 9223372036854775807) ∧
                    (((decide (k < (i - 1))) = true → (((-9223372036854775808) ≤ k + 1 ∧ k + 1 ≤ 9223372036854775807) ∧
                          (((-9223372036854775808) ≤ k + 1 ∧ k + 1 ≤ 9223372036854775807) ∧
                            (∃ (b4 o3 : Nat), dataA = some ⟨b4, o3, none⟩ ∧ (0 ≤ (k + 1) ∧ (k + 1) < ((datan : Nat) : Int)) ∧
                              (∃ (weight3 : Int), cel H_4 b4 (o3 + Int.toNat (k + 1) * 257) = some (.int .i64 weight3) ∧
                                ∃ often3 : List Int, (often3.length = 256 ∧ ∀ j, j < 256 → cel H_4 b4 (o3 + Int.toNat (k + 1) * 257 + 1 + j) = some (.int .u8 (often3.getD j 0))) ∧ (∃ (b5 o4 : Nat), dataA = some ⟨b5, o4, none⟩ ∧ (0 ≤ k ∧ k < ((datan : Nat) : Int)) ∧
                                  (∃ (weight4 : Int), cel H_4 b5 (o4 + Int.toNat k * 257) = some (.int .i64 weight4) ∧
                                    ∃ often4 : List Int, (often4.length = 256 ∧ ∀ j, j < 256 → cel H_4 b5 (o4 + Int.toNat k * 257 + 1 + j) = some (.int .u8 (often4.getD j 0))) ∧ (∃ (b6 o5 : Nat), dataA = some ⟨b6, o5, none⟩ ∧ (0 ≤ k ∧ k < ((datan : Nat) : Int)) ∧
                                      (fitsN ((List.map (Value.int .u8) often3 ++ []) : List Value) 256
                                        (canPut H_4 b6 (o5 + Int.toNat k * 257) (Value.int .i64 weight3 :: (List.map (Value.int .u8) often3 ++ [])) ∧
                                          (let H_5 : Hp := hput H_4 b6 (o5 + Int.toNat k * 257) (Value.int .i64 weight3 :: (List.map (Value.int .u8) often3 ++ []));
                                            (∃ (b7 o6 : Nat), dataA = some ⟨b7, o6, none⟩ ∧ (0 ≤ (k + 1) ∧ (k + 1) < ((datan : Nat) : Int)) ∧
                                              (fitsN ((List.map (Value.int .u8) often4 ++ []) : List Value) 256
                                                (canPut H_5 b7 (o6 + Int.toNat (k + 1) * 257) (Value.int .i64 weight4 :: (List.map (Value.int .u8) often4 ++ [])) ∧
                                                  (let H_6 : Hp := hput H_5 b7 (o6 + Int.toNat (k + 1) * 257) (Value.int .i64 weight4 :: (List.map (Value.int .u8) often4 ++ []));
                                                    (((-9223372036854775808) ≤ k + 1 ∧ k + 1 ≤ 9223372036854775807) ∧
                                                      (I_2 (k + 1) H_6 ∧ m_3 (k + 1) H_6 < m_3 k H_4))))))))))))))))) ∧
                      ((decide (k < (i - 1))) = false → (R (.tuple #[]) H_4))))))))))) ∧
    ((decide ((m_ - a) = 1)) = false → (((-9223372036854775808) ≤ b - m_ ∧ b - m_ ≤ 9223372036854775807) ∧
        (((decide ((b - m_) = 1)) = true → (∃ (I_3 : Int → Int → Hp → Prop) (m_4 : Int → Int → Hp → Nat), I_3 a m_ H ∧
              (∀ (i3 : Int) (j_7 : Int) (j_6 : Nat → Value) (H_7 : Hp), I_3 i3 j_7 H_7 → (((decide (i3 < j_7)) = true → (((-9223372036854775808) ≤ i3 + j_7 ∧ i3 + j_7 ≤ 9223372036854775807) ∧
                      ((0 : Int) ≤ 1 ∧ (∃ (b8 o7 : Nat), dataA = some ⟨b8, o7, none⟩ ∧ (0 ≤ m_ ∧ m_ < ((datan : Nat) : Int)) ∧
                          (∃ (weight5 : Int), cel H_7 b8 (o7 + Int.toNat m_ * 257) = some (.int .i64 weight5) ∧
                            ∃ often5 : List Int, (often5.length = 256 ∧ ∀ j, j < 256 → cel H_7 b8 (o7 + Int.toNat m_ * 257 + 1 + j) = some (.int .u8 (often5.getD j 0))) ∧ (∃ (b9 o8 : Nat), dataA = some ⟨b9, o8, none⟩ ∧ (0 ≤ (IntKind.wrap .i64 ((IntKind.wrap .u64 (i3 + j_7)) / 2)) ∧ (IntKind.wrap .i64 ((IntKind.wrap .u64 (i3 + j_7)) / 2)) < ((datan : Nat) : Int)) ∧
                              (∃ (weight6 : Int), cel H_7 b9 (o8 + Int.toNat (IntKind.wrap .i64 ((IntKind.wrap .u64 (i3 + j_7)) / 2)) * 257) = some (.int .i64 weight6) ∧
                                ∃ often6 : List Int, (often6.length = 256 ∧ ∀ j, j < 256 → cel H_7 b9 (o8 + Int.toNat (IntKind.wrap .i64 ((IntKind.wrap .u64 (i3 + j_7)) / 2)) * 257 + 1 + j) = some (.int .u8 (often6.getD j 0))) ∧ (callW cx φ cmp [.agg ((Value.int .i64 weight5 :: (List.map (Value.int .u8) often5 ++ []))).toArray, .agg ((Value.int .i64 weight6 :: (List.map (Value.int .u8) often6 ++ []))).toArray] H_7 (fun v2 H_8 => ∃ (x2 : Int), v2 = .int .i64 x2 ∧ (∃ M_2 : Int → Int → Hp → Prop, (((!(decide (x2 < 0))) = true → (((-9223372036854775808) ≤ (IntKind.wrap .i64 ((IntKind.wrap .u64 (i3 + j_7)) / 2)) + 1 ∧ (IntKind.wrap .i64 ((IntKind.wrap .u64 (i3 + j_7)) / 2)) + 1 ≤ 9223372036854775807) ∧
                                            (M_2 ((IntKind.wrap .i64 ((IntKind.wrap .u64 (i3 + j_7)) / 2)) + 1) j_7 H_8))) ∧
                                        ((!(decide (x2 < 0))) = false → (M_2 i3 (IntKind.wrap .i64 ((IntKind.wrap .u64 (i3 + j_7)) / 2)) H_8))) ∧
                                      (∀ (i4 : Int) (j_9 : Int) (j_8 : Nat → Value) (H_9 : Hp), M_2 i4 j_9 H_9 → (I_3 i4 j_9 H_9 ∧ m_4 i4 j_9 H_9 < m_4 i3 j_7 H_7)))))))))))) ∧
                  ((decide (i3 < j_7)) = false → (∃ (I_4 : Int → Hp → Prop) (m_5 : Int → Hp → Nat), I_4 m_ H_7 ∧
                      (∀ (k2 : Int) (j_10 : Nat → Value) (H_10 : Hp), I_4 k2 H_10 → (((decide (i3 < k2)) = true → (((-9223372036854775808) ≤ k2 - 1 ∧ k2 - 1 ≤ 9223372036854775807) ∧
                              (((-9223372036854775808) ≤ k2 - 1 ∧ k2 - 1 ≤ 9223372036854775807) ∧
                                (∃ (b10 o9 : Nat), dataA = some ⟨b10, o9, none⟩ ∧ (0 ≤ (k2 - 1) ∧ (k2 - 1) < ((datan : Nat) : Int)) ∧
                                  (∃ (weight7 : Int), cel H_10 b10 (o9 + Int.toNat (k2 - 1) * 257) = some (.int .i64 weight7) ∧
                                    ∃ often7 : List Int, (often7.length = 256 ∧ ∀ j, j < 256 → cel H_10 b10 (o9 + Int.toNat (k2 - 1) * 257 + 1 + j) = some (.int .u8 (often7.getD j 0))) ∧ (∃ (b11 o10 : Nat), dataA = some ⟨b11, o10, none⟩ ∧ (0 ≤ k2 ∧ k2 < ((datan : Nat) : Int)) ∧
                                      (∃ (weight8 : Int), cel H_10 b11 (o10 + Int.toNat k2 * 257) = some (.int .i64 weight8) ∧
                                        ∃ often8 : List Int, (often8.length = 256 ∧ ∀ j, j < 256 → cel H_10 b11 (o10 + Int.toNat k2 * 257 + 1 + j) = some (.int .u8 (often8.getD j 0))) ∧ (∃ (b12 o11 : Nat), dataA = some ⟨b12, o11, none⟩ ∧ (0 ≤ k2 ∧ k2 < ((datan : Nat) : Int)) ∧
                                          (fitsN ((List.map (Value.int .u8) often7 ++ []) : List Value) 256
                                            (canPut H_10 b12 (o11 + Int.toNat k2 * 257) (Value.int .i64 weight7 :: (List.map (Value.int .u8) often7 ++ [])) ∧
                                              (let H_11 : Hp := hput H_10 b12 (o11 + Int.toNat k2 * 257) (Value.int .i64 weight7 :: (List.map (Value.int .u8) often7 ++ []));
                                                (∃ (b13 o12 : Nat), dataA = some ⟨b13, o12, none⟩ ∧ (0 ≤ (k2 - 1) ∧ (k2 - 1) < ((datan : Nat) : Int)) ∧
                                                  (fitsN ((List.map (Value.int .u8) often8 ++ []) : List Value) 256
                                                    (canPut H_11 b13 (o12 + Int.toNat (k2 - 1) * 257) (Value.int .i64 weight8 :: (List.map (Value.int .u8) often8 ++ [])) ∧
                                                      (let H_12 : Hp := hput H_11 b13 (o12 + Int.toNat (k2 - 1) * 257) (Value.int .i64 weight8 :: (List.map (Value.int .u8) often8 ++ []));
                                                        (((-9223372036854775808) ≤ k2 - 1 ∧ k2 - 1 ≤ 9223372036854775807) ∧
                                                          (I_4 (k2 - 1) H_12 ∧ m_5 (k2 - 1) H_12 < m_5 k2 H_10))))))))))))))))) ∧
                          ((decide (i3 < k2)) = false → (R (.tuple #[]) H_10)))))))))) ∧
          ((decide ((b - m_) = 1)) = false → (((-9223372036854775808) ≤ a + b ∧ a + b ≤ 9223372036854775807) ∧
              ((0 : Int) ≤ 1 ∧ (((-9223372036854775808) ≤ (IntKind.wrap .i64 ((IntKind.wrap .u64 (a + b)) / 2)) + m_ ∧ (IntKind.wrap .i64 ((IntKind.wrap .u64 (a + b)) / 2)) + m_ ≤ 9223372036854775807) ∧
                  (∃ M_3 : Int → Int → Hp → Prop, (((decide ((IntKind.wrap .i64 ((IntKind.wrap .u64 (a + b)) / 2)) < m_)) = true → (((-9223372036854775808) ≤ ((IntKind.wrap .i64 ((IntKind.wrap .u64 (a + b)) / 2)) + m_) - b ∧ ((IntKind.wrap .i64 ((IntKind.wrap .u64 (a + b)) / 2)) + m_) - b ≤ 9223372036854775807) ∧
                          (M_3 (((IntKind.wrap .i64 ((IntKind.wrap .u64 (a + b)) / 2)) + m_) - b) (IntKind.wrap .i64 ((IntKind.wrap .u64 (a + b)) / 2)) H))) ∧
                      ((decide ((IntKind.wrap .i64 ((IntKind.wrap .u64 (a + b)) / 2)) < m_)) = false → (M_3 a m_ H))) ∧
                    (∀ (start : Int) (r : Int) (j_11 : Nat → Value) (H_13 : Hp), M_3 start r H_13 → (((-9223372036854775808) ≤ ((IntKind.wrap .i64 ((IntKind.wrap .u64 (a + b)) / 2)) + m_) - 1 ∧ ((IntKind.wrap .i64 ((IntKind.wrap .u64 (a + b)) / 2)) + m_) - 1 ≤ 9223372036854775807) ∧
                        (∃ (I_5 : Int → Int → Hp → Prop) (m_6 : Int → Int → Hp → Nat), I_5 start r H_13 ∧
                          (∀ (start2 : Int) (r2 : Int) (j_12 : Nat → Value) (H_14 : Hp), I_5 start2 r2 H_14 → (((decide (start2 < r2)) = true → (((-9223372036854775808) ≤ start2 + r2 ∧ start2 + r2 ≤ 9223372036854775807) ∧
                                  ((0 : Int) ≤ 1 ∧ (((-9223372036854775808) ≤ (((IntKind.wrap .i64 ((IntKind.wrap .u64 (a + b)) / 2)) + m_) - 1) - (IntKind.wrap .i64 ((IntKind.wrap .u64 (start2 + r2)) / 2)) ∧ (((IntKind.wrap .i64 ((IntKind.wrap .u64 (a + b)) / 2)) + m_) - 1) - (IntKind.wrap .i64 ((IntKind.wrap .u64 (start2 + r2)) / 2)) ≤ 9223372036854775807) ∧
                                      (∃ (b14 o13 : Nat), dataA = some ⟨b14, o13, none⟩ ∧ (0 ≤ ((((IntKind.wrap .i64 ((IntKind.wrap .u64 (a + b)) / 2)) + m_) - 1) - (IntKind.wrap .i64 ((IntKind.wrap .u64 (start2 + r2)) / 2))) ∧ ((((IntKind.wrap .i64 ((IntKind.wrap .u64 (a + b)) / 2)) + m_) - 1) - (IntKind.wrap .i64 ((IntKind.wrap .u64 (start2 + r2)) / 2))) < ((datan : Nat) : Int)) ∧
                                        (∃ (weight9 : Int), cel H_14 b14 (o13 + Int.toNat ((((IntKind.wrap .i64 ((IntKind.wrap .u64 (a + b)) / 2)) + m_) - 1) - (IntKind.wrap .i64 ((IntKind.wrap .u64 (start2 + r2)) / 2))) * 257) = some (.int .i64 weight9) ∧
                                          ∃ often9 : List Int, (often9.length = 256 ∧ ∀ j, j < 256 → cel H_14 b14 (o13 + Int.toNat ((((IntKind.wrap .i64 ((IntKind.wrap .u64 (a + b)) / 2)) + m_) - 1) - (IntKind.wrap .i64 ((IntKind.wrap .u64 (start2 + r2)) / 2))) * 257 + 1 + j) = some (.int .u8 (often9.getD j 0))) ∧ (∃ (b15 o14 : Nat), dataA = some ⟨b15, o14, none⟩ ∧ (0 ≤ (IntKind.wrap .i64 ((IntKind.wrap .u64 (start2 + r2)) / 2)) ∧ (IntKind.wrap .i64 ((IntKind.wrap .u64 (start2 + r2)) / 2)) < ((datan : Nat) : Int)) ∧
                                            (∃ (weight10 : Int), cel H_14 b15 (o14 + Int.toNat (IntKind.wrap .i64 ((IntKind.wrap .u64 (start2 + r2)) / 2)) * 257) = some (.int .i64 weight10) ∧
                                              ∃ often10 : List Int, (often10.length = 256 ∧ ∀ j, j < 256 → cel H_14 b15 (o14 + Int.toNat (IntKind.wrap .i64 ((IntKind.wrap .u64 (start2 + r2)) / 2)) * 257 + 1 + j) = some (.int .u8 (often10.getD j 0))) ∧ (callW cx φ cmp [.agg ((Value.int .i64 weight9 :: (List.map (Value.int .u8) often9 ++ []))).toArray, .agg ((Value.int .i64 weight10 :: (List.map (Value.int .u8) often10 ++ []))).toArray] H_14 (fun v3 H_15 => ∃ (x3 : Int), v3 = .int .i64 x3 ∧ (∃ M_4 : Int → Int → Hp → Prop, (((!(decide (x3 < 0))) = true → (((-9223372036854775808) ≤ (IntKind.wrap .i64 ((IntKind.wrap .u64 (start2 + r2)) / 2)) + 1 ∧ (IntKind.wrap .i64 ((IntKind.wrap .u64 (start2 + r2)) / 2)) + 1 ≤ 9223372036854775807) ∧
                                                          (M_4 ((IntKind.wrap .i64 ((IntKind.wrap .u64 (start2 + r2)) / 2)) + 1) r2 H_15))) ∧
                                                      ((!(decide (x3 < 0))) = false → (M_4 start2 (IntKind.wrap .i64 ((IntKind.wrap .u64 (start2 + r2)) / 2)) H_15))) ∧
                                                    (∀ (start3 : Int) (r3 : Int) (j_13 : Nat → Value) (H_16 : Hp), M_4 start3 r3 H_16 → (I_5 start3 r3 H_16 ∧ m_6 start3 r3 H_16 < m_6 start2 r2 H_14))))))))))))) ∧
                              ((decide (start2 < r2)) = false → (((-9223372036854775808) ≤ ((IntKind.wrap .i64 ((IntKind.wrap .u64 (a + b)) / 2)) + m_) - start2 ∧ ((IntKind.wrap .i64 ((IntKind.wrap .u64 (a + b)) / 2)) + m_) - start2 ≤ 9223372036854775807) ∧
                                  (∃ M_5 : Bool → Hp → Prop, (((decide (start2 < m_)) = true → (M_5 (decide (m_ < (((IntKind.wrap .i64 ((IntKind.wrap .u64 (a + b)) / 2)) + m_) - start2))) H_14)) ∧
                                      ((decide (start2 < m_)) = false → (M_5 false H_14))) ∧
                                    (∀ (x4 : Bool) (j_14 : Nat → Value) (H_17 : Hp), M_5 x4 H_17 → (∃ M_6 : Hp → Prop, ((x4 = true → (HCalls cx.P φ 197 [.slice dataA datan datac, .int .i64 start2, .int .i64 m_, .int .i64 (((IntKind.wrap .i64 ((IntKind.wrap .u64 (a + b)) / 2)) + m_) - start2), cmp] H_17 (fun v4 H_18 => v4 = .tuple #[] ∧ (M_6 H_18)))) ∧
                                          (x4 = false → (M_6 H_17))) ∧
                                        (∀  (j_15 : Nat → Value) (H_19 : Hp), M_6 H_19 → (∃ M_7 : Bool → Hp → Prop, (((decide (a < start2)) = true → (M_7 (decide (start2 < (IntKind.wrap .i64 ((IntKind.wrap .u64 (a + b)) / 2)))) H_19)) ∧
                                              ((decide (a < start2)) = false → (M_7 false H_19))) ∧
                                            (∀ (x5 : Bool) (j_16 : Nat → Value) (H_20 : Hp), M_7 x5 H_20 → (∃ M_8 : Hp → Prop, ((x5 = true → (HCalls cx.P φ 195 [.slice dataA datan datac, .int .i64 a, .int .i64 start2, .int .i64 (IntKind.wrap .i64 ((IntKind.wrap .u64 (a + b)) / 2)), cmp] H_20 (fun v5 H_21 => v5 = .tuple #[] ∧ (M_8 H_21)))) ∧
                                                  (x5 = false → (M_8 H_20))) ∧
                                                (∀  (j_17 : Nat → Value) (H_22 : Hp), M_8 H_22 → (∃ M_9 : Bool → Hp → Prop, (((decide ((IntKind.wrap .i64 ((IntKind.wrap .u64 (a + b)) / 2)) < (((IntKind.wrap .i64 ((IntKind.wrap .u64 (a + b)) / 2)) + m_) - start2))) = true → (M_9 (decide ((((IntKind.wrap .i64 ((IntKind.wrap .u64 (a + b)) / 2)) + m_) - start2) < b)) H_22)) ∧
                                                      ((decide ((IntKind.wrap .i64 ((IntKind.wrap .u64 (a + b)) / 2)) < (((IntKind.wrap .i64 ((IntKind.wrap .u64 (a + b)) / 2)) + m_) - start2))) = false → (M_9 false H_22))) ∧
                                                    (∀ (x6 : Bool) (j_18 : Nat → Value) (H_23 : Hp), M_9 x6 H_23 → (∃ M_10 : Hp → Prop, ((x6 = true → (HCalls cx.P φ 195 [.slice dataA datan datac, .int .i64 (IntKind.wrap .i64 ((IntKind.wrap .u64 (a + b)) / 2)), .int .i64 (((IntKind.wrap .i64 ((IntKind.wrap .u64 (a + b)) / 2)) + m_) - start2), .int .i64 b, cmp] H_23 (fun v6 H_24 => v6 = .tuple #[] ∧ (M_10 H_24)))) ∧
                                                          (x6 = false → (M_10 H_23))) ∧
                                                        (∀  (j_19 : Nat → Value) (H_25 : Hp), M_10 H_25 → (R (.tuple #[]) H_25)))))))))))))))))))))))))))))
theorem f195.vc (φ : Fx) (dataA : Option Addr) (datan datac : Nat) (a : Int) (m_ : Int) (b : Int) (cmp : Value) (H : Hp) (R : Value → Hp → Prop) : fnW cx φ Try.f195 f195.an [.slice dataA datan datac, .int .i64 a, .int .i64 m_, .int .i64 b, cmp] H R = f195.VC φ dataA datan datac a m_ b cmp H R := by kernel_rfl
theorem f195.of {φ : Fx} {dataA : Option Addr} {datan datac : Nat} {a : Int} {m_ : Int} {b : Int} {cmp : Value} {H : Hp} {R : Value → Hp → Prop} (h : f195.VC φ dataA datan datac a m_ b cmp H R) : HCalls cx.P φ 195 [.slice dataA datan datac, .int .i64 a, .int .i64 m_, .int .i64 b, cmp] H R :=
  fnW_calls cx_ok (show cx.P.funcs[195]? = some Try.f195 by kernel_rfl) (by rw [f195.vc]; exact h)

def f190.an : An := .seq (.reg (.op false (.done))) (.seq (.reg (.op false (.op false (.op false (.done))))) (.seq (.blk (.loop [(7, false, [.int .i64]), (8, false, [.int .i64])] (.seq (.seq (.reg (.op false (.op false (.op false (.done))))) (.cond (.nil) (.nil))) (.blk (.seq (.reg (.op false (.op false (.op false (.op false (.op false (.done))))))) (.seq (.reg (.op false (.op false (.done)))) (.reg (.op false (.op false (.op false (.op false (.done)))))))))))) (.seq (.reg (.op false (.op false (.op false (.op false (.op false (.done))))))) (.blk (.loop [(6, false, [.int .i64])] (.seq (.seq (.reg (.op false (.op false (.op false (.done))))) (.cond (.nil) (.nil))) (.blk (.seq (.reg (.op false (.op false (.op false (.op false (.done)))))) (.seq (.blk (.loop [(7, false, [.int .i64]), (8, false, [.int .i64])] (.seq (.seq (.reg (.op false (.op false (.op false (.done))))) (.cond (.nil) (.nil))) (.blk (.seq (.reg (.op false (.op false (.op false (.op false (.op false (.op false (.op false (.op false (.done)))))))))) (.seq (.reg (.op false (.op false (.done)))) (.reg (.op false (.op false (.op false (.op false (.op false (.done))))))))))))) (.seq (.seq (.reg (.op false (.op false (.op false (.op false (.done)))))) (.seq (.reg (.op false (.op false (.op false (.done))))) (.join [] (.cond (.reg (.op false (.op false (.op false (.op false (.op false (.op false (.done)))))))) (.nil))))) (.reg (.op false (.op false (.op false (.done)))))))))))))))
def f190.VC (φ : Fx) (dataA : Option Addr) (datan datac : Nat) (n : Int) (cmp : Value) (H : Hp) (R : Value → Hp → Prop) : Prop :=
  ∃ (I_ : Int → Int → Hp → Prop) (m_ : Int → Int → Hp → Nat), I_ 0 20 H ∧
  (∀ (a : Int) (b : Int) (j_ : Nat → Value) (H_ : Hp), I_ a b H_ → (((decide (b ≤ n)) = true → (HCalls cx.P φ 194 [.slice dataA datan datac, .int .i64 a, .int .i64 b, cmp] H_ (fun v H_2 => v = .tuple #[] ∧ (((-9223372036854775808) ≤ b + 20 ∧ b + 20 ≤ 9223372036854775807) ∧
              (I_ b (b + 20) H_2 ∧ m_ b (b + 20) H_2 < m_ a b H_))))) ∧
      ((decide (b ≤ n)) = false → (HCalls cx.P φ 194 [.slice dataA datan datac, .int .i64 a, .int .i64 n, cmp] H_ (fun v2 H_3 => v2 = .tuple #[] ∧ (∃ (I_2 : Int → Hp → Prop) (m_2 : Int → Hp → Nat), I_2 20 H_3 ∧
              (∀ (blockSize : Int) (j_2 : Nat → Value) (H_4 : Hp), I_2 blockSize H_4 → (((decide (blockSize < n)) = true → (((-9223372036854775808) ≤ 2 * blockSize ∧ 2 * blockSize ≤ 9223372036854775807) ∧
                      (∃ (I_3 : Int → Int → Hp → Prop) (m_3 : Int → Int → Hp → Nat), I_3 0 (2 * blockSize) H_4 ∧
                        (∀ (a2 : Int) (b2 : Int) (j_3 : Nat → Value) (H_5 : Hp), I_3 a2 b2 H_5 → (((decide (b2 ≤ n)) = true → (((-9223372036854775808) ≤ a2 + blockSize ∧ a2 + blockSize ≤ 9223372036854775807) ∧
                                (HCalls cx.P φ 195 [.slice dataA datan datac, .int .i64 a2, .int .i64 (a2 + blockSize), .int .i64 b2, cmp] H_5 (fun v3 H_6 => v3 = .tuple #[] ∧ (((-9223372036854775808) ≤ 2 * blockSize ∧ 2 * blockSize ≤ 9223372036854775807) ∧
                                      (((-9223372036854775808) ≤ b2 + (2 * blockSize) ∧ b2 + (2 * blockSize) ≤ 9223372036854775807) ∧
                                        (I_3 b2 (b2 + (2 * blockSize)) H_6 ∧ m_3 b2 (b2 + (2 * blockSize)) H_6 < m_3 a2 b2 H_5))))))) ∧
                            ((decide (b2 ≤ n)) = false → (((-9223372036854775808) ≤ a2 + blockSize ∧ a2 + blockSize ≤ 9223372036854775807) ∧
                                (∃ M_ : Hp → Prop, (((decide ((a2 + blockSize) < n)) = true → (HCalls cx.P φ 195 [.slice dataA datan datac, .int .i64 a2, .int .i64 (a2 + blockSize), .int .i64 n, cmp] H_5 (fun v4 H_7 => v4 = .tuple #[] ∧ (M_ H_7)))) ∧
                                    ((decide ((a2 + blockSize) < n)) = false → (M_ H_5))) ∧
                                  (∀  (j_4 : Nat → Value) (H_8 : Hp), M_ H_8 → (((-9223372036854775808) ≤ blockSize * 2 ∧ blockSize * 2 ≤ 9223372036854775807) ∧
                                      (I_2 (blockSize * 2) H_8 ∧ m_2 (blockSize * 2) H_8 < m_2 blockSize H_4))))))))))) ∧
                  ((decide (blockSize < n)) = false → (R (.tuple #[]) H_4))))))))))
theorem f190.vc (φ : Fx) (dataA : Option Addr) (datan datac : Nat) (n : Int) (cmp : Value) (H : Hp) (R : Value → Hp → Prop) : fnW cx φ Try.f190 f190.an [.slice dataA datan datac, .int .i64 n, cmp] H R = f190.VC φ dataA datan datac n cmp H R := by kernel_rfl
theorem f190.of {φ : Fx} {dataA : Option Addr} {datan datac : Nat} {n : Int} {cmp : Value} {H : Hp} {R : Value → Hp → Prop} (h : f190.VC φ dataA datan datac n cmp H R) : HCalls cx.P φ 190 [.slice dataA datan datac, .int .i64 n, cmp] H R :=
  fnW_calls cx_ok (show cx.P.funcs[190]? = some Try.f190 by kernel_rfl) (by rw [f190.vc]; exact h)

def f170.an : An := .reg (.op false (.op false (.op false (.op false (.op false (.done))))))
def f170.VC (φ : Fx) (A : Option Addr) (n c : Nat) (cmp : Value) (H : Hp) (R : Value → Hp → Prop) : Prop :=
  HCalls cx.P φ 190 [.slice A n c, .int .i64 ((n : Nat) : Int), cmp] H (fun v H_ => v = .tuple #[] ∧ (R (.tuple #[]) H_))
theorem f170.vc (φ : Fx) (A : Option Addr) (n c : Nat) (cmp : Value) (H : Hp) (R : Value → Hp → Prop) : fnW cx φ Try.f170 f170.an [.slice A n c, cmp] H R = f170.VC φ A n c cmp H R := by kernel_rfl
theorem f170.of {φ : Fx} {A : Option Addr} {n c : Nat} {cmp : Value} {H : Hp} {R : Value → Hp → Prop} (h : f170.VC φ A n c cmp H R) : HCalls cx.P φ 170 [.slice A n c, cmp] H R :=
  fnW_calls cx_ok (show cx.P.funcs[170]? = some Try.f170 by kernel_rfl) (by rw [f170.vc]; exact h)

def f171.an : An := .seq (.reg (.op false (.op false (.op false (.done))))) (.seq (.blk (.seq (.reg (.op false (.op false (.op false (.op false (.op false (.op false (.done)))))))) (.cond (.seq (.reg (.op false (.done))) (.nil)) (.seq (.reg (.op false (.op false (.op false (.op false (.op false (.op false (.done)))))))) (.cond (.seq (.reg (.op false (.done))) (.nil)) (.nil)))))) (.seq (.reg (.op false (.done))) (.nil)))
def f171.VC (φ : Fx) (a : Int) (a2 : List Int) (b : Int) (b2 : List Int) (H : Hp) (R : Value → Hp → Prop) : Prop :=
  let H_ : Hp := Array.push H (.cells ((Value.int .i64 a :: (List.map (Value.int .u8) a2 ++ []))).toArray 180 (0, 0));
  (let H_2 : Hp := Array.push H_ (.cells ((Value.int .i64 b :: (List.map (Value.int .u8) b2 ++ []))).toArray 180 (0, 0));
    (∃ (x : Int), cel H_2 (Array.size H) 0 = some (.int .i64 x) ∧ (∃ (x2 : Int), cel H_2 (Array.size H_) 0 = some (.int .i64 x2) ∧ (((decide (x < x2)) = true → (R (.int .i64 (-1)) H_2)) ∧
          ((decide (x < x2)) = false → (∃ (x3 : Int), cel H_2 (Array.size H) 0 = some (.int .i64 x3) ∧ (∃ (x4 : Int), cel H_2 (Array.size H_) 0 = some (.int .i64 x4) ∧ (((decide (x4 < x3)) = true → (R (.int .i64 1) H_2)) ∧
                  ((decide (x4 < x3)) = false → (R (.int .i64 0) H_2))))))))))
theorem f171.vc (φ : Fx) (a : Int) (a2 : List Int) (b : Int) (b2 : List Int) (H : Hp) (R : Value → Hp → Prop) : fnW cx φ Try.f171 f171.an [.agg ((Value.int .i64 a :: (List.map (Value.int .u8) a2 ++ []))).toArray, .agg ((Value.int .i64 b :: (List.map (Value.int .u8) b2 ++ []))).toArray] H R = f171.VC φ a a2 b b2 H R := by kernel_rfl
theorem f171.of {φ : Fx} {a : Int} {a2 : List Int} {b : Int} {b2 : List Int} {H : Hp} {R : Value → Hp → Prop} (h : f171.VC φ a a2 b b2 H R) : HCalls cx.P φ 171 [.agg ((Value.int .i64 a :: (List.map (Value.int .u8) a2 ++ []))).toArray, .agg ((Value.int .i64 b :: (List.map (Value.int .u8) b2 ++ []))).toArray] H R :=
  fnW_calls cx_ok (show cx.P.funcs[171]? = some Try.f171 by kernel_rfl) (by rw [f171.vc]; exact h)
end Go.Proofs.Ytkkjjjgcfnhabaa.Eng
