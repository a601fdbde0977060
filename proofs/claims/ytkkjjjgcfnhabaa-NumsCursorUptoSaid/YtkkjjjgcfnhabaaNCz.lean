/- Proved: the narrower form of the statement winnowlaw2.NumsCursor: for every row of calls on a cursor over any bytes the call returns true, and the arguments read afterwards as they read before. Condition: the arguments are together of bulk at most 1048576 (the given constant NumsCursorUptoSaid). -/
import Derived.Test.YtkkjjjgcfnhabaaRows
import Derived.WalkKit
import Derived.ProofKit
import Derived.OpenShut
import Derived.ShutString
import Derived.ChangeOld
import Derived.Below
import Derived.SizedLaws
import Derived.Carry
import Derived.JoinedCond
import Derived.Test.YtkkjjjgcfnhabaaNCf
set_option linter.unusedVariables false
namespace Go.Proofs.Ytkkjjjgcfnhabaa.numsCursor
open Go.ChangeShapes Go.WideShapes Go.ChangeAt Go.RowKit Go.Proofs.Ytkkjjjgcfnhabaa.Eng
open Go.ChangeMaps (open_string shut_string)
theorem own : ownKnob Try.prog.godebug = none := by kernel_rfl
theorem laidOut : laidOutB Try.prog = true := by kernel_rfl
theorem bulk_pos {T : Type} (d : DataW T) : 1 ≤ Rows.uptoBulk d := by
  unfold Rows.uptoBulk; split <;> omega
theorem bulk (T : Type) : Bulk T Rows.uptoBulk Rows.uptoBulkAll where
  str := fun bytes => by rw [Rows.uptoBulk]; omega
  slc := fun elems spare => by rw [Rows.uptoBulk]; omega
  agg := fun parts => by rw [Rows.uptoBulk]; omega
  mem := fun d ds h => by
    induction ds with
    | nil => simp at h
    | cons x r ih =>
      rw [Rows.uptoBulkAll]
      rcases List.mem_cons.1 h with e | e
      · subst e; omega
      · have := ih e; omega
  len := fun ds => by
    induction ds with
    | nil => simp
    | cons x r ih =>
      have := bulk_pos x
      rw [Rows.uptoBulkAll, List.length_cons]; omega
set_option maxRecDepth 100000 in
theorem lifted (os : Os) (started : os.Started) (H : Type) (enc : TypeId × Value → H) (F : Stop.Interp) :
    ReturnsInHanded {} Try.checked os 5 .any ((Rows.OpenSpec.upto Rows.numsCursorSpec).pre6 enc Try.prog Try.f5 Rows.numsCursorUptoRow.domain false) (((Rows.OpenSpec.upto Rows.numsCursorSpec).at F).post enc Try.prog Try.f5 false true false false) := by
  refine returnsInHanded_of_cond_sized' (C := Try.checked) (s := (Rows.OpenSpec.upto Rows.numsCursorSpec)) (k := Rows.uptoSmall) rfl own started (by kernel_rfl) Try.func5
    (OpenSpec.witness (enc := enc) (C := Try.checked) (s := (Rows.OpenSpec.upto Rows.numsCursorSpec)) (k := Rows.uptoSmall) rfl false ⟨#[], #[.slice none 0 0, .slice none 0 0], []⟩ 8 (by kernel_rfl) (by kernel_rfl) (by kernel_rfl)
      (x := ([.nil, .nil], [], [])) (by kernel_rfl) (by kernel_rfl) (by simp [Rows.uptoSmall, Rows.uptoBulkAll, Rows.uptoBulk])) ?_
  intro W base args ds gs before hval0 hW hcnd hkk hsz0 _
  have hsz : (DataW.weightsEach Try.prog (Try.f5.params.toList ++ (Rows.OpenSpec.upto Rows.numsCursorSpec).bare.plain.varTypes Try.prog) (ds ++ gs)).all (· ≤ reachBytes) = true := hsz0
  have hval : ∀ (j : Nat) t v, Try.f5.params[j]? = some t → args[j]? = some v → Value.okWide Try.prog W .any base t v := hval0
  have hW' := hW
  obtain ⟨p, q, hA0, hV, rfl, hfz, hnd⟩ := hW
  have hA : DataW.TrodAll enc Try.prog W 0 (fun _ => true) true Try.f5.params.toList args.toList ds p := hA0
  rw [Try.params5] at hA hval hsz
  obtain ⟨v0, vs0, d0, ds0, p0, q0, hargs, rfl, rfl, h0, r0⟩ := trodAll_cons hA
  obtain ⟨v1, vs1, d1, ds1, p1, q1, rfl, rfl, rfl, h1, r1⟩ := trodAll_cons r0
  obtain ⟨rfl, rfl, rfl⟩ := trodAll_nil r1
  obtain rfl : args = #[v0, v1] := by cases args; simp_all
  obtain ⟨rfl, rfl⟩ := trodVars_none hV
  have hbk : Rows.uptoBulkAll ([d0, d1] : List (DataW H)) ≤ 1048576 := of_decide_eq_true hkk
  have g0 : Argv Try.prog W.heap 59 v0 := argv_of (φ := Fx.of W) (dr := W.drawn) (hval 0 59 v0 rfl rfl) h0 (fun n hn => by simpa using List.all_eq_true.1 hsz n (DataW.weights_mem_each (j := 0) rfl rfl n hn))
  have z0 : Sized Try.prog W.heap 1048576 59 v0 := sized_of (bulk H) (φ := Fx.of W) (dr := W.drawn) h0 (Nat.le_trans ((bulk H).mem d0 _ (by simp)) hbk)
  have lt0 : ∀ x ∈ p0, x.block < W.heap.size := by obtain ⟨m, hm⟩ := h0; exact DataW.trod_lt m _ _ _ hm
  have g1 : Argv Try.prog W.heap 60 v1 := argv_of (φ := Fx.of W) (dr := W.drawn) (hval 1 60 v1 rfl rfl) h1 (fun n hn => by simpa using List.all_eq_true.1 hsz n (DataW.weights_mem_each (j := 1) rfl rfl n hn))
  have z1 : Sized Try.prog W.heap 1048576 60 v1 := sized_of (bulk H) (φ := Fx.of W) (dr := W.drawn) h1 (Nat.le_trans ((bulk H).mem d1 _ (by simp)) hbk)
  have lt1 : ∀ x ∈ p1, x.block < W.heap.size := by obtain ⟨m, hm⟩ := h1; exact DataW.trod_lt m _ _ _ hm
  clear hA0 hval0 hsz0 hsz
  have wk := walk (Fx.of W) W.heap v0 v1 g0 g1 z0 z1 W.drawn
  refine Calls.mono wk fun e W' ⟨v, H', d', he, hw, hv, hk⟩ => ?_
  subst he; subst hv
  have bel : Below W.heap.size W W' := hk.below hw
  exact ⟨_, rfl, _, _, _, [], _, [], hW', trodAll_mk1 (shut_bool Try.underlying4 _), (trodAll_cons_mk (Below.trod laidOut (by kernel_rfl) (of_decide_eq_true (by kernel_rfl)) h0 bel lt0) (trodAll_cons_mk (Below.trod laidOut (by kernel_rfl) (of_decide_eq_true (by kernel_rfl)) h1 bel lt1) trodAll_mk0)), rfl, bel.frame _, fun h => by cases h⟩
theorem over : Rows.numsCursorUptoRow.holds Try.pinned (Rows.OpenSpec.upto Rows.numsCursorSpec) :=
  OpenClaim.holds_of_cond 5 Try.f5 rfl rfl rfl rfl rfl rfl rfl ⟨rfl, rfl, rfl, rfl, rfl⟩ rfl rfl rfl rfl rfl (by kernel_rfl) Try.func5 (by kernel_rfl)
    (of_decide_eq_true (by kernel_rfl)) (by unfold Func.isWrapper; first | (rw [if_pos (by decide +kernel)]; kernel_rfl) | (rw [if_neg (by decide +kernel)]; exact ⟨rfl, rfl⟩))
    (fun os started H enc _ F => lifted os started H enc F)
theorem proved : Rows.NumsCursorUptoSaid := over
#print axioms proved
end Go.Proofs.Ytkkjjjgcfnhabaa.numsCursor
namespace Go.Proofs.Ytkkjjjgcfnhabaa
/-- The row, under a short name, for the claim. -/
theorem numsCursor_holds : Rows.NumsCursorUptoSaid := numsCursor.proved
end Go.Proofs.Ytkkjjjgcfnhabaa
