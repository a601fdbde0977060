/- Part HLa of the proof of the claim in this folder: a way to walk code, and the contracts of the functions that the law reaches. Conditions: none. -/
import Derived.Test.YtkkjjjgcfnhabaaProg
import Derived.Test.YtkkjjjgcfnhabaaEngB
set_option linter.unusedVariables false
set_option maxRecDepth 100000
set_option maxHeartbeats 0
namespace Go.Proofs.Ytkkjjjgcfnhabaa.Eng
open Go Go.Proofs
def tys : List TI :=
 [⟨0, .other, 1, 0, [.tuple #[]], [.any], [], true⟩,
  ⟨2, .int .i64, 1, 8, [.int .i64 0], [.int .i64], [(false, [.int .i64])], false⟩,
  ⟨3, .int .i64, 1, 8, [.int .i64 0], [.int .i64], [(false, [.int .i64])], false⟩,
  ⟨4, .bool, 1, 1, [.bool false], [.bool], [(false, [.bool])], false⟩,
  ⟨5, .int .u8, 1, 1, [.int .u8 0], [.int .u8], [(false, [.int .u8])], false⟩,
  ⟨9, .str, 1, 16, [.string ⟨#[]⟩], [.str], [(false, [.str])], false⟩,
  ⟨22, .slc 146, 1, 24, [.slice none 0 0], [.slc], [(false, [.slc])], false⟩,
  ⟨24, .st [(0, 1, false), (1, 1, false)], 2, 32, [.int .i64 0, .slice none 0 0], [.int .i64, .slc], [(true, [.int .i64, .slc])], false⟩,
  ⟨25, .int .i64, 1, 8, [.int .i64 0], [.int .i64], [(false, [.int .i64])], false⟩,
  ⟨28, .other, 1, 0, [.tuple #[.int .i64 0, .int .i64 0]], [.any], [(false, [.int .i64]), (false, [.int .i64])], true⟩,
  ⟨34, .slc 50, 1, 24, [.slice none 0 0], [.slc], [(false, [.slc])], false⟩,
  ⟨35, .slc 53, 1, 24, [.slice none 0 0], [.slc], [(false, [.slc])], false⟩,
  ⟨36, .ptr, 1, 8, [.pointer none], [.ptr], [(false, [.ptr])], false⟩,
  ⟨37, .other, 1, 0, [.tuple #[.int .i64 0, .bool false]], [.any], [(false, [.int .i64]), (false, [.bool])], true⟩,
  ⟨42, .other, 1, 0, [.tuple #[.pointer none, .int .i64 0]], [.any], [(false, [.ptr]), (false, [.int .i64])], true⟩,
  ⟨44, .ptr, 1, 8, [.pointer none], [.ptr], [(false, [.ptr])], false⟩,
  ⟨45, .other, 1, 0, [.tuple #[.pointer none, .int .i64 0]], [.any], [(false, [.ptr]), (false, [.int .i64])], true⟩,
  ⟨48, .int .u32, 1, 4, [.int .u32 0], [.int .u32], [(false, [.int .u32])], false⟩,
  ⟨50, .st [(0, 1, false), (1, 1, false), (2, 1, false), (3, 1, false), (4, 1, false), (5, 1, false), (6, 1, false), (7, 1, false)], 8, 64, [.int .i64 0, .int .i64 0, .int .i64 0, .int .i64 0, .int .i64 0, .int .i64 0, .int .i64 0, .int .u32 0], [.int .i64, .int .i64, .int .i64, .int .i64, .int .i64, .int .i64, .int .i64, .int .u32], [(true, [.int .i64, .int .i64, .int .i64, .int .i64, .int .i64, .int .i64, .int .i64, .int .u32])], false⟩,
  ⟨51, .slc 56, 1, 24, [.slice none 0 0], [.slc], [(false, [.slc])], false⟩,
  ⟨53, .st [(0, 1, false), (1, 1, false), (2, 1, false), (3, 1, false), (4, 1, false)], 5, 40, [.int .i64 0, .int .i64 0, .int .i64 0, .int .i64 0, .int .i64 0], [.int .i64, .int .i64, .int .i64, .int .i64, .int .i64], [(true, [.int .i64, .int .i64, .int .i64, .int .i64, .int .i64])], false⟩,
  ⟨56, .st [(0, 1, false), (1, 1, false)], 2, 32, [.slice none 0 0, .int .i64 0], [.slc, .int .i64], [(true, [.slc, .int .i64])], false⟩,
  ⟨59, .slc 5, 1, 24, [.slice none 0 0], [.slc], [(false, [.slc])], false⟩,
  ⟨60, .slc 81, 1, 24, [.slice none 0 0], [.slc], [(false, [.slc])], false⟩,
  ⟨62, .ptr, 1, 8, [.pointer none], [.ptr], [(false, [.ptr])], false⟩,
  ⟨65, .ptr, 1, 8, [.pointer none], [.ptr], [(false, [.ptr])], false⟩,
  ⟨68, .st [(0, 1, false), (1, 1, false), (2, 1, false)], 3, 40, [.slice none 0 0, .int .i64 0, .int .i64 0], [.slc, .int .i64, .int .i64], [(true, [.slc, .int .i64, .int .i64])], false⟩,
  ⟨70, .st [(0, 1, false), (1, 1, false)], 2, 16, [.int .i64 0, .int .i64 0], [.int .i64, .int .i64], [(true, [.int .i64, .int .i64])], false⟩,
  ⟨72, .st [(0, 1, false), (1, 1, false), (2, 1, false), (3, 2, true)], 5, 56, [.slice none 0 0, .int .i64 0, .bool false, .int .i64 0, .int .i64 0], [.slc, .int .i64, .bool, .int .i64, .int .i64], [(true, [.slc, .int .i64, .bool, .int .i64, .int .i64])], false⟩,
  ⟨76, .slc 59, 1, 24, [.slice none 0 0], [.slc], [(false, [.slc])], false⟩,
  ⟨78, .st [(0, 1, false), (1, 1, false), (2, 1, false)], 3, 72, [.slice none 0 0, .slice none 0 0, .slice none 0 0], [.slc, .slc, .slc], [(true, [.slc, .slc, .slc])], false⟩,
  ⟨81, .st [(0, 1, false), (1, 1, false)], 2, 16, [.int .i64 0, .int .i64 0], [.int .i64, .int .i64], [(true, [.int .i64, .int .i64])], false⟩,
  ⟨84, .other, 1, 0, [.tuple #[.slice none 0 0, .int .i64 0]], [.any], [(false, [.slc]), (false, [.int .i64])], true⟩,
  ⟨86, .slc 90, 1, 24, [.slice none 0 0], [.slc], [(false, [.slc])], false⟩,
  ⟨90, .st [(0, 1, false), (1, 1, false), (2, 1, false)], 3, 24, [.int .i64 0, .int .i64 0, .int .i64 0], [.int .i64, .int .i64, .int .i64], [(true, [.int .i64, .int .i64, .int .i64])], false⟩,
  ⟨93, .slc 2, 1, 24, [.slice none 0 0], [.slc], [(false, [.slc])], false⟩,
  ⟨95, .slc 3, 1, 24, [.slice none 0 0], [.slc], [(false, [.slc])], false⟩,
  ⟨96, .other, 1, 0, [.tuple #[.slice none 0 0, .int .i64 0]], [.any], [(false, [.slc]), (false, [.int .i64])], true⟩,
  ⟨103, .other, 1, 0, [.tuple #[.int .i64 0, .int .i64 0]], [.any], [(false, [.int .i64]), (false, [.int .i64])], true⟩,
  ⟨111, .st [(0, 1, false), (1, 1, false)], 2, 16, [.int .i64 0, .int .i64 0], [.int .i64, .int .i64], [(true, [.int .i64, .int .i64])], false⟩,
  ⟨112, .ptr, 1, 8, [.pointer none], [.ptr], [(false, [.ptr])], false⟩,
  ⟨113, .other, 1, 0, [.tuple #[.pointer none, .int .i64 0]], [.any], [(false, [.ptr]), (false, [.int .i64])], true⟩,
  ⟨115, .ptr, 1, 8, [.pointer none], [.ptr], [(false, [.ptr])], false⟩,
  ⟨116, .other, 1, 0, [.tuple #[.pointer none, .int .i64 0]], [.any], [(false, [.ptr]), (false, [.int .i64])], true⟩,
  ⟨119, .other, 1, 0, [.tuple #[.agg #[.int .i64 0, .slice none 0 0], .int .i64 0]], [.any], [(true, [.int .i64, .slc]), (false, [.int .i64])], true⟩,
  ⟨126, .slc 130, 1, 24, [.slice none 0 0], [.slc], [(false, [.slc])], false⟩,
  ⟨127, .other, 1, 0, [.tuple #[.slice none 0 0, .int .i64 0]], [.any], [(false, [.slc]), (false, [.int .i64])], true⟩,
  ⟨130, .st [(0, 1, false), (1, 1, false)], 2, 16, [.int .i64 0, .int .u32 0], [.int .i64, .int .u32], [(true, [.int .i64, .int .u32])], false⟩,
  ⟨132, .slc 136, 1, 24, [.slice none 0 0], [.slc], [(false, [.slc])], false⟩,
  ⟨134, .slc 4, 1, 24, [.slice none 0 0], [.slc], [(false, [.slc])], false⟩,
  ⟨136, .st [(0, 1, false), (1, 1, false), (2, 1, false)], 3, 24, [.int .i64 0, .int .i64 0, .int .u32 0], [.int .i64, .int .i64, .int .u32], [(true, [.int .i64, .int .i64, .int .u32])], false⟩,
  ⟨138, .other, 1, 0, [.tuple #[.agg #[.int .i64 0, .int .i64 0], .int .i64 0]], [.any], [(true, [.int .i64, .int .i64]), (false, [.int .i64])], true⟩,
  ⟨141, .int .u64, 1, 8, [.int .u64 0], [.int .u64], [(false, [.int .u64])], false⟩,
  ⟨142, .slc 150, 1, 24, [.slice none 0 0], [.slc], [(false, [.slc])], false⟩,
  ⟨144, .st [(0, 1, false), (1, 1, false), (2, 1, false)], 3, 40, [.bool false, .int .i64 0, .slice none 0 0], [.bool, .int .i64, .slc], [(true, [.bool, .int .i64, .slc])], false⟩,
  ⟨146, .st [(0, 1, false), (1, 1, false), (2, 3, true)], 5, 72, [.int .i64 0, .slice none 0 0, .bool false, .int .i64 0, .slice none 0 0], [.int .i64, .slc, .bool, .int .i64, .slc], [(true, [.int .i64, .slc, .bool, .int .i64, .slc])], false⟩,
  ⟨150, .st [(0, 1, false), (1, 1, false), (2, 1, false), (3, 1, false)], 4, 40, [.int .i64 0, .int .i64 0, .int .i64 0, .string ⟨#[]⟩], [.int .i64, .int .i64, .int .i64, .str], [(true, [.int .i64, .int .i64, .int .i64, .str])], false⟩,
  ⟨154, .st [(0, 1, false), (1, 1, false), (2, 1, false), (3, 1, false)], 4, 32, [.int .i64 0, .int .i64 0, .int .i64 0, .int .i64 0], [.int .i64, .int .i64, .int .i64, .int .i64], [(true, [.int .i64, .int .i64, .int .i64, .int .i64])], false⟩,
  ⟨157, .func, 1, 8, [.nilFunc], [.any], [(false, [.any])], false⟩,
  ⟨159, .st [(0, 1, false)], 1, 24, [.slice none 0 0], [.slc], [(true, [.slc])], false⟩,
  ⟨162, .st [(0, 1, false)], 1, 24, [.slice none 0 0], [.slc], [(true, [.slc])], false⟩,
  ⟨164, .int .u64, 1, 8, [.int .u64 0], [.int .u64], [(false, [.int .u64])], false⟩,
  ⟨175, .slc 180, 1, 24, [.slice none 0 0], [.slc], [(false, [.slc])], false⟩,
  ⟨178, .arr 256 5, 256, 256, List.replicate 256 (.int .u8 0), [.ints 256 .u8], [(true, [.ints 256 .u8])], false⟩,
  ⟨180, .st [(0, 1, false), (1, 256, true)], 257, 264, Value.int .i64 0 :: List.replicate 256 (.int .u8 0), [.int .i64, .ints 256 .u8], [(true, [.int .i64, .ints 256 .u8])], false⟩,
  ⟨182, .slc 188, 1, 24, [.slice none 0 0], [.slc], [(false, [.slc])], false⟩,
  ⟨186, .arr 256 3, 256, 2048, List.replicate 256 (.int .i64 0), [.ints 256 .i64], [(true, [.ints 256 .i64])], false⟩,
  ⟨188, .st [(0, 1, false), (1, 256, true)], 257, 2056, List.replicate 257 (.int .i64 0), [.int .i64, .ints 256 .i64], [(true, [.int .i64, .ints 256 .i64])], false⟩,
  ⟨194, .st [(0, 2, true), (2, 1, false), (3, 1, false), (4, 1, false)], 5, 56, [.int .i64 0, .int .i64 0, .int .i64 0, .slice none 0 0, .bool false], [.int .i64, .int .i64, .int .i64, .slc, .bool], [(true, [.int .i64, .int .i64, .int .i64, .slc, .bool])], false⟩,
  ⟨197, .st [(0, 2, true), (2, 1, false), (3, 1, false), (4, 1, false)], 5, 56, [.int .i64 0, .int .i64 0, .slice none 0 0, .int .i64 0, .bool false], [.int .i64, .int .i64, .slc, .int .i64, .bool], [(true, [.int .i64, .int .i64, .slc, .int .i64, .bool])], false⟩,
  ⟨199, .other, 1, 0, [.tuple #[.agg #[.int .i64 0, .slice none 0 0], .bool false]], [.any], [(true, [.int .i64, .slc]), (false, [.bool])], true⟩,
  ⟨204, .other, 1, 0, [.tuple #[.slice none 0 0, .bool false]], [.any], [(false, [.slc]), (false, [.bool])], true⟩,
  ⟨206, .other, 1, 0, [.tuple #[.slice none 0 0, .bool false]], [.any], [(false, [.slc]), (false, [.bool])], true⟩,
  ⟨208, .arr 16 3, 16, 128, List.replicate 16 (.int .i64 0), [.ints 16 .i64], [(true, [.ints 16 .i64])], false⟩,
  ⟨209, .other, 1, 0, [.tuple #[.slice none 0 0, .agg #[.int .i64 0, .int .i64 0, .int .i64 0, .int .i64 0, .int .i64 0, .int .i64 0, .int .i64 0, .int .i64 0, .int .i64 0, .int .i64 0, .int .i64 0, .int .i64 0, .int .i64 0, .int .i64 0, .int .i64 0, .int .i64 0], .bool false]], [.any], [(false, [.slc]), (true, [.ints 16 .i64]), (false, [.bool])], true⟩,
  ⟨215, .other, 1, 0, [.tuple #[.int .i64 0, .int .i64 0, .int .i64 0]], [.any], [(false, [.int .i64]), (false, [.int .i64]), (false, [.int .i64])], true⟩,
  ⟨227, .other, 1, 0, [.tuple #[.agg #[.bool false, .int .i64 0, .slice none 0 0], .int .i64 0]], [.any], [(true, [.bool, .int .i64, .slc]), (false, [.int .i64])], true⟩,
  ⟨231, .st [(0, 1, false)], 1, 8, [.nilFunc], [.any], [(true, [.any])], false⟩,
  ⟨232, .arr 3 231, 3, 24, [.nilFunc, .nilFunc, .nilFunc], [.any, .any, .any], [(true, [.any, .any, .any])], false⟩,
  ⟨233, .other, 1, 0, [.tuple #[.int .i64 0, .int .i64 0]], [.any], [(false, [.int .i64]), (false, [.int .i64])], true⟩,
  ⟨236, .arr 16 48, 16, 64, List.replicate 16 (.int .u32 0), [.ints 16 .u32], [(true, [.ints 16 .u32])], false⟩]
noncomputable def cx : Ctx := ⟨Try.prog, tys, 3, 199, [50, 70, 90, 111, 130, 150, 154]⟩
end Go.Proofs.Ytkkjjjgcfnhabaa.Eng
namespace Go.Proofs.Ytkkjjjgcfnhabaa.Eng
open Go Go.Proofs
theorem cx_types : cx.T.map (TI.fact cx.P) = cx.T.map TI.want := by kernel_rfl
theorem cx_fit : cx.T.all TI.fit = true := by kernel_rfl
theorem cx_mixed : cx.P.follows .mixedOrders = true := by kernel_rfl
theorem cx_funcs : (List.range 196).all (fun n => callable cx.P (n + 3)) = true := by kernel_rfl
theorem cx_eq1 : cx.eqs.map (fun t => (cx.P.underlying t, cx.P.stoodInHeld t, cx.P.eqGuardType cx.P.depth t, (tget cx.T t).elim true fun i => eqFitB cx.P (cx.P.fieldsOf t).toList 0 i.shp)) = cx.eqs.map fun t => (some (.struct (cx.P.fieldsOf t)), false, false, true) := by kernel_rfl
theorem cx_ok : cx.OK where
  types := cx_types
  fit := cx_fit
  funcs := fun f h1 h2 => by
    have := List.all_eq_true.1 cx_funcs (f - 3) (by simp only [List.mem_range]; have : f < 199 := h2; omega)
    simpa only [Nat.sub_add_cancel (show 3 ≤ f from h1)] using this
  eqs := fun t ht => by
    have := List.map_inj_left.1 cx_eq1 t ht
    simp only [Prod.mk.injEq] at this
    exact eqLaw this.1 this.2.1 this.2.2.1 this.2.2.2
  mixed := cx_mixed
end Go.Proofs.Ytkkjjjgcfnhabaa.Eng
