/-
  No cell of these rows narrows 'for every input' (looked for: loops, veiled, ifaces, maps, wideKeys, modest, calm, conditions, laid).
  DERIVED. THE GIVEN ROWS OF THIS SEAT. 13 by the template 'for every input the law returns true; each argument reads behind the call as it read before'; 0 by the template 'total and deterministic' (their statements: YtkkjjjgcfnhabaaTotals.lean).
  GIVEN WITH THE SEED: the statements are not yours to turn. If you find one false, say at which input.
  Laid BY PROGRAM, IN A SANDBOX (cutbox-rows.mjs): the forced cells as the released guide's own fill.sh prints them over the translation 652856378203a1bd… (all of the seat's roots in one cut). By AI agents, Wed Nov 11 2026. No macro, syntax, notation, axiom, sorry.
-/
import Derived.Test.YtkkjjjgcfnhabaaChecked
import GoSem.Claim
import GoSem.ClaimJoined
import GoSem.ClaimMapViews
import Derived.JoinedTies
import Derived.KernelRfl
namespace Go.Proofs.Ytkkjjjgcfnhabaa
/- THE CELL 'sum', in the pinned program and in every row, IS THE sha256 OF THE DUMP (.gsa) THAT YtkkjjjgcfnhabaaProg.lean LOADS. Nothing in Lean hashes anything: it is a label: what it is worth is what the hold of that sum in a sandbox is worth. -/
noncomputable def Try.pinned : Pinned := { name := "ytkkjjjgcfnhabaa", sum := "652856378203a1bdd8f10bd67807f2db3f4507b08d18a051a0fccf9151171a0e", checked := Try.checked }
namespace Rows
def none {H : Type} : Left H := { results := [], args := [] }

/-- 'winnowlaw8.FootFind': WHATEVER THE INPUT: true; the input reads as it did. -/
def footFindSpec : ChangeSpec := { name := "footFind", fn := fun _ => fun
  | [d1, d2, d3] => { results := [.lit (.bool true)], args := [d1, d2, d3] }
  | _ => none }
def footFindRow : OpenClaim := { program := "ytkkjjjgcfnhabaa", sum := "652856378203a1bdd8f10bd67807f2db3f4507b08d18a051a0fccf9151171a0e", func := "winnow/winnowlaw8.FootFind", spec := "footFind", plainKeys := false, apart := false }
def FootFindSaid : Prop := footFindRow.holds Try.pinned (OpenSpec.ofChange footFindSpec)

/-- ITS FALSE NEIGHBOUR: 'it returns false'. Refute it at one input. -/
def footFindWrong : ChangeSpec := { name := "footFind", fn := fun _ => fun
  | [d1, d2, d3] => { results := [.lit (.bool false)], args := [d1, d2, d3] }
  | _ => none }
def FootFindWrongFalsely : Prop := footFindRow.holds Try.pinned (OpenSpec.ofChange footFindWrong)

/-- 'winnowlaw16.FaultPlans': WHATEVER THE INPUT: true; the input reads as it did. -/
def faultPlansSpec : ChangeSpec := { name := "faultPlans", fn := fun _ => fun
  | [d1, d2] => { results := [.lit (.bool true)], args := [d1, d2] }
  | _ => none }
def faultPlansRow : OpenClaim := { program := "ytkkjjjgcfnhabaa", sum := "652856378203a1bdd8f10bd67807f2db3f4507b08d18a051a0fccf9151171a0e", func := "winnow/winnowlaw16.FaultPlans", spec := "faultPlans", unfollowed := true, recurses := true, plainKeys := false, apart := false }
def FaultPlansSaid : Prop := faultPlansRow.holds Try.pinned (OpenSpec.ofChange faultPlansSpec)

/-- ITS FALSE NEIGHBOUR: 'it returns false'. Refute it at one input. -/
def faultPlansWrong : ChangeSpec := { name := "faultPlans", fn := fun _ => fun
  | [d1, d2] => { results := [.lit (.bool false)], args := [d1, d2] }
  | _ => none }
def FaultPlansWrongFalsely : Prop := faultPlansRow.holds Try.pinned (OpenSpec.ofChange faultPlansWrong)

/-- 'winnowlaw2.NumsCursor': WHATEVER THE INPUT: true; the input reads as it did. -/
def numsCursorSpec : ChangeSpec := { name := "numsCursor", fn := fun _ => fun
  | [d1, d2] => { results := [.lit (.bool true)], args := [d1, d2] }
  | _ => none }
def numsCursorRow : OpenClaim := { program := "ytkkjjjgcfnhabaa", sum := "652856378203a1bdd8f10bd67807f2db3f4507b08d18a051a0fccf9151171a0e", func := "winnow/winnowlaw2.NumsCursor", spec := "numsCursor", unfollowed := true, recurses := true, plainKeys := false, apart := false }
def NumsCursorSaid : Prop := numsCursorRow.holds Try.pinned (OpenSpec.ofChange numsCursorSpec)

/-- ITS FALSE NEIGHBOUR: 'it returns false'. Refute it at one input. -/
def numsCursorWrong : ChangeSpec := { name := "numsCursor", fn := fun _ => fun
  | [d1, d2] => { results := [.lit (.bool false)], args := [d1, d2] }
  | _ => none }
def NumsCursorWrongFalsely : Prop := numsCursorRow.holds Try.pinned (OpenSpec.ofChange numsCursorWrong)

/-- 'winnowlaw8.FootEncode': WHATEVER THE INPUT: true; the input reads as it did. -/
def footEncodeSpec : ChangeSpec := { name := "footEncode", fn := fun _ => fun
  | [d] => { results := [.lit (.bool true)], args := [d] }
  | _ => none }
def footEncodeRow : OpenClaim := { program := "ytkkjjjgcfnhabaa", sum := "652856378203a1bdd8f10bd67807f2db3f4507b08d18a051a0fccf9151171a0e", func := "winnow/winnowlaw8.FootEncode", spec := "footEncode", unfollowed := true, recurses := true, plainKeys := false, apart := false }
def FootEncodeSaid : Prop := footEncodeRow.holds Try.pinned (OpenSpec.ofChange footEncodeSpec)

/-- ITS FALSE NEIGHBOUR: 'it returns false'. Refute it at one input. -/
def footEncodeWrong : ChangeSpec := { name := "footEncode", fn := fun _ => fun
  | [d] => { results := [.lit (.bool false)], args := [d] }
  | _ => none }
def FootEncodeWrongFalsely : Prop := footEncodeRow.holds Try.pinned (OpenSpec.ofChange footEncodeWrong)

/-- 'winnowlaw4.HuffLengths': WHATEVER THE INPUT: true; the input reads as it did. -/
def huffLengthsSpec : ChangeSpec := { name := "huffLengths", fn := fun _ => fun
  | [d1, d2] => { results := [.lit (.bool true)], args := [d1, d2] }
  | _ => none }
def huffLengthsRow : OpenClaim := { program := "ytkkjjjgcfnhabaa", sum := "652856378203a1bdd8f10bd67807f2db3f4507b08d18a051a0fccf9151171a0e", func := "winnow/winnowlaw4.HuffLengths", spec := "huffLengths", unfollowed := true, recurses := true, plainKeys := false, apart := false }
def HuffLengthsSaid : Prop := huffLengthsRow.holds Try.pinned (OpenSpec.ofChange huffLengthsSpec)

/-- ITS FALSE NEIGHBOUR: 'it returns false'. Refute it at one input. -/
def huffLengthsWrong : ChangeSpec := { name := "huffLengths", fn := fun _ => fun
  | [d1, d2] => { results := [.lit (.bool false)], args := [d1, d2] }
  | _ => none }
def HuffLengthsWrongFalsely : Prop := huffLengthsRow.holds Try.pinned (OpenSpec.ofChange huffLengthsWrong)

/-- 'winnowlaw4.HuffLeast': WHATEVER THE INPUT: true; the input reads as it did. -/
def huffLeastSpec : ChangeSpec := { name := "huffLeast", fn := fun _ => fun
  | [d1, d2, d3] => { results := [.lit (.bool true)], args := [d1, d2, d3] }
  | _ => none }
def huffLeastRow : OpenClaim := { program := "ytkkjjjgcfnhabaa", sum := "652856378203a1bdd8f10bd67807f2db3f4507b08d18a051a0fccf9151171a0e", func := "winnow/winnowlaw4.HuffLeast", spec := "huffLeast", unfollowed := true, recurses := true, plainKeys := false, apart := false }
def HuffLeastSaid : Prop := huffLeastRow.holds Try.pinned (OpenSpec.ofChange huffLeastSpec)

/-- ITS FALSE NEIGHBOUR: 'it returns false'. Refute it at one input. -/
def huffLeastWrong : ChangeSpec := { name := "huffLeast", fn := fun _ => fun
  | [d1, d2, d3] => { results := [.lit (.bool false)], args := [d1, d2, d3] }
  | _ => none }
def HuffLeastWrongFalsely : Prop := huffLeastRow.holds Try.pinned (OpenSpec.ofChange huffLeastWrong)

/-- 'winnowlaw4.HuffEncodes': WHATEVER THE INPUT: true; the input reads as it did. -/
def huffEncodesSpec : ChangeSpec := { name := "huffEncodes", fn := fun _ => fun
  | [d] => { results := [.lit (.bool true)], args := [d] }
  | _ => none }
def huffEncodesRow : OpenClaim := { program := "ytkkjjjgcfnhabaa", sum := "652856378203a1bdd8f10bd67807f2db3f4507b08d18a051a0fccf9151171a0e", func := "winnow/winnowlaw4.HuffEncodes", spec := "huffEncodes", unfollowed := true, recurses := true, plainKeys := false, apart := false }
def HuffEncodesSaid : Prop := huffEncodesRow.holds Try.pinned (OpenSpec.ofChange huffEncodesSpec)

/-- ITS FALSE NEIGHBOUR: 'it returns false'. Refute it at one input. -/
def huffEncodesWrong : ChangeSpec := { name := "huffEncodes", fn := fun _ => fun
  | [d] => { results := [.lit (.bool false)], args := [d] }
  | _ => none }
def HuffEncodesWrongFalsely : Prop := huffEncodesRow.holds Try.pinned (OpenSpec.ofChange huffEncodesWrong)

/-- 'winnowlaw8.FootDecoder': WHATEVER THE INPUT: true; the input reads as it did. -/
def footDecoderSpec : ChangeSpec := { name := "footDecoder", fn := fun _ => fun
  | [d1, d2] => { results := [.lit (.bool true)], args := [d1, d2] }
  | _ => none }
def footDecoderRow : OpenClaim := { program := "ytkkjjjgcfnhabaa", sum := "652856378203a1bdd8f10bd67807f2db3f4507b08d18a051a0fccf9151171a0e", func := "winnow/winnowlaw8.FootDecoder", spec := "footDecoder", unfollowed := true, recurses := true, plainKeys := false, apart := false }
def FootDecoderSaid : Prop := footDecoderRow.holds Try.pinned (OpenSpec.ofChange footDecoderSpec)

/-- ITS FALSE NEIGHBOUR: 'it returns false'. Refute it at one input. -/
def footDecoderWrong : ChangeSpec := { name := "footDecoder", fn := fun _ => fun
  | [d1, d2] => { results := [.lit (.bool false)], args := [d1, d2] }
  | _ => none }
def FootDecoderWrongFalsely : Prop := footDecoderRow.holds Try.pinned (OpenSpec.ofChange footDecoderWrong)

/-- 'winnowlaw8.FootDecode': WHATEVER THE INPUT: true; the input reads as it did. -/
def footDecodeSpec : ChangeSpec := { name := "footDecode", fn := fun _ => fun
  | [d1, d2] => { results := [.lit (.bool true)], args := [d1, d2] }
  | _ => none }
def footDecodeRow : OpenClaim := { program := "ytkkjjjgcfnhabaa", sum := "652856378203a1bdd8f10bd67807f2db3f4507b08d18a051a0fccf9151171a0e", func := "winnow/winnowlaw8.FootDecode", spec := "footDecode", unfollowed := true, recurses := true, plainKeys := false, apart := false }
def FootDecodeSaid : Prop := footDecodeRow.holds Try.pinned (OpenSpec.ofChange footDecodeSpec)

/-- ITS FALSE NEIGHBOUR: 'it returns false'. Refute it at one input. -/
def footDecodeWrong : ChangeSpec := { name := "footDecode", fn := fun _ => fun
  | [d1, d2] => { results := [.lit (.bool false)], args := [d1, d2] }
  | _ => none }
def FootDecodeWrongFalsely : Prop := footDecodeRow.holds Try.pinned (OpenSpec.ofChange footDecodeWrong)

/-- 'winnowlaw4.HuffRound': WHATEVER THE INPUT: true; the input reads as it did. -/
def huffRoundSpec : ChangeSpec := { name := "huffRound", fn := fun _ => fun
  | [d1, d2, d3] => { results := [.lit (.bool true)], args := [d1, d2, d3] }
  | _ => none }
def huffRoundRow : OpenClaim := { program := "ytkkjjjgcfnhabaa", sum := "652856378203a1bdd8f10bd67807f2db3f4507b08d18a051a0fccf9151171a0e", func := "winnow/winnowlaw4.HuffRound", spec := "huffRound", unfollowed := true, recurses := true, plainKeys := false, apart := false }
def HuffRoundSaid : Prop := huffRoundRow.holds Try.pinned (OpenSpec.ofChange huffRoundSpec)

/-- ITS FALSE NEIGHBOUR: 'it returns false'. Refute it at one input. -/
def huffRoundWrong : ChangeSpec := { name := "huffRound", fn := fun _ => fun
  | [d1, d2, d3] => { results := [.lit (.bool false)], args := [d1, d2, d3] }
  | _ => none }
def HuffRoundWrongFalsely : Prop := huffRoundRow.holds Try.pinned (OpenSpec.ofChange huffRoundWrong)

/-- 'winnowlaw4.HuffPrefix': WHATEVER THE INPUT: true; the input reads as it did. -/
def huffPrefixSpec : ChangeSpec := { name := "huffPrefix", fn := fun _ => fun
  | [d] => { results := [.lit (.bool true)], args := [d] }
  | _ => none }
def huffPrefixRow : OpenClaim := { program := "ytkkjjjgcfnhabaa", sum := "652856378203a1bdd8f10bd67807f2db3f4507b08d18a051a0fccf9151171a0e", func := "winnow/winnowlaw4.HuffPrefix", spec := "huffPrefix", unfollowed := true, recurses := true, plainKeys := false, apart := false }
def HuffPrefixSaid : Prop := huffPrefixRow.holds Try.pinned (OpenSpec.ofChange huffPrefixSpec)

/-- ITS FALSE NEIGHBOUR: 'it returns false'. Refute it at one input. -/
def huffPrefixWrong : ChangeSpec := { name := "huffPrefix", fn := fun _ => fun
  | [d] => { results := [.lit (.bool false)], args := [d] }
  | _ => none }
def HuffPrefixWrongFalsely : Prop := huffPrefixRow.holds Try.pinned (OpenSpec.ofChange huffPrefixWrong)

/-- 'winnowlaw8.FootDamage': WHATEVER THE INPUT: true; the input reads as it did. -/
def footDamageSpec : ChangeSpec := { name := "footDamage", fn := fun _ => fun
  | [d1, d2] => { results := [.lit (.bool true)], args := [d1, d2] }
  | _ => none }
def footDamageRow : OpenClaim := { program := "ytkkjjjgcfnhabaa", sum := "652856378203a1bdd8f10bd67807f2db3f4507b08d18a051a0fccf9151171a0e", func := "winnow/winnowlaw8.FootDamage", spec := "footDamage", unfollowed := true, recurses := true, plainKeys := false, apart := false }
def FootDamageSaid : Prop := footDamageRow.holds Try.pinned (OpenSpec.ofChange footDamageSpec)

/-- ITS FALSE NEIGHBOUR: 'it returns false'. Refute it at one input. -/
def footDamageWrong : ChangeSpec := { name := "footDamage", fn := fun _ => fun
  | [d1, d2] => { results := [.lit (.bool false)], args := [d1, d2] }
  | _ => none }
def FootDamageWrongFalsely : Prop := footDamageRow.holds Try.pinned (OpenSpec.ofChange footDamageWrong)

/-- 'winnowlaw4.HuffWhole': WHATEVER THE INPUT: true; the input reads as it did. -/
def huffWholeSpec : ChangeSpec := { name := "huffWhole", fn := fun _ => fun
  | [d1, d2] => { results := [.lit (.bool true)], args := [d1, d2] }
  | _ => none }
def huffWholeRow : OpenClaim := { program := "ytkkjjjgcfnhabaa", sum := "652856378203a1bdd8f10bd67807f2db3f4507b08d18a051a0fccf9151171a0e", func := "winnow/winnowlaw4.HuffWhole", spec := "huffWhole", unfollowed := true, recurses := true, plainKeys := false, apart := false }
def HuffWholeSaid : Prop := huffWholeRow.holds Try.pinned (OpenSpec.ofChange huffWholeSpec)

/-- ITS FALSE NEIGHBOUR: 'it returns false'. Refute it at one input. -/
def huffWholeWrong : ChangeSpec := { name := "huffWhole", fn := fun _ => fun
  | [d1, d2] => { results := [.lit (.bool false)], args := [d1, d2] }
  | _ => none }
def HuffWholeWrongFalsely : Prop := huffWholeRow.holds Try.pinned (OpenSpec.ofChange huffWholeWrong)

/- THE SECOND FORM. 'bulk': how many values and letters a reading holds, each counted each time it is reached (what is shared counts as often as it is met; a slice's spare places count too). A statement '..UptoSaid' is the law's where the arguments, and the package variables that the reading takes, are together of bulk at most 1048576: NARROWER than '..Said'. Prove '..Said' where nothing that the law and all that it calls make is longer than what came in: it says more and counts as full. Else prove '..UptoSaid'. A law counts once. -/
mutual
def uptoBulk {H : Type} : DataW H → Nat
  | .lit (.string bytes) => bytes.length + 1
  | .lit _ => 1
  | .nil => 1
  | .ptr d => uptoBulk d + 1
  | .slice elems spare => uptoBulkAll elems + uptoBulkAll spare + 1
  | .agg parts => uptoBulkAll parts + 1
  | .iface _ d => uptoBulk d + 1
  | .map entries => uptoBulkEntries entries + 1
  | .held _ => 1
def uptoBulkAll {H : Type} : List (DataW H) → Nat
  | [] => 0
  | d :: r => uptoBulk d + uptoBulkAll r
def uptoBulkEntries {H : Type} : List (Lit × DataW H) → Nat
  | [] => 0
  | x :: r => uptoBulkEntry x + uptoBulkEntries r
def uptoBulkEntry {H : Type} : Lit × DataW H → Nat
  | (.string bytes, d) => bytes.length + uptoBulk d + 1
  | (_, d) => uptoBulk d + 1
 end
def uptoSmall : (H : Type) → List (DataW H) → Bool := fun _ ds => decide (uptoBulkAll ds ≤ 1048576)
def OpenSpec.upto (s : _root_.Go.ChangeSpec) : _root_.Go.OpenSpec := { _root_.Go.OpenSpec.ofChange s with cond := some uptoSmall }

/-- 'winnowlaw8.FootFind', WHERE WHAT IT READS IS OF BULK AT MOST 1048576: true; the input reads as it did. -/
def footFindUptoRow : OpenClaim := { program := "ytkkjjjgcfnhabaa", sum := "652856378203a1bdd8f10bd67807f2db3f4507b08d18a051a0fccf9151171a0e", func := "winnow/winnowlaw8.FootFind", spec := "footFind", plainKeys := false, apart := false, narrowed := true }
def FootFindUptoSaid : Prop := footFindUptoRow.holds Try.pinned (OpenSpec.upto footFindSpec)

/-- 'winnowlaw16.FaultPlans', WHERE WHAT IT READS IS OF BULK AT MOST 1048576: true; the input reads as it did. -/
def faultPlansUptoRow : OpenClaim := { program := "ytkkjjjgcfnhabaa", sum := "652856378203a1bdd8f10bd67807f2db3f4507b08d18a051a0fccf9151171a0e", func := "winnow/winnowlaw16.FaultPlans", spec := "faultPlans", unfollowed := true, recurses := true, plainKeys := false, apart := false, narrowed := true }
def FaultPlansUptoSaid : Prop := faultPlansUptoRow.holds Try.pinned (OpenSpec.upto faultPlansSpec)

/-- 'winnowlaw2.NumsCursor', WHERE WHAT IT READS IS OF BULK AT MOST 1048576: true; the input reads as it did. -/
def numsCursorUptoRow : OpenClaim := { program := "ytkkjjjgcfnhabaa", sum := "652856378203a1bdd8f10bd67807f2db3f4507b08d18a051a0fccf9151171a0e", func := "winnow/winnowlaw2.NumsCursor", spec := "numsCursor", unfollowed := true, recurses := true, plainKeys := false, apart := false, narrowed := true }
def NumsCursorUptoSaid : Prop := numsCursorUptoRow.holds Try.pinned (OpenSpec.upto numsCursorSpec)

/-- 'winnowlaw8.FootEncode', WHERE WHAT IT READS IS OF BULK AT MOST 1048576: true; the input reads as it did. -/
def footEncodeUptoRow : OpenClaim := { program := "ytkkjjjgcfnhabaa", sum := "652856378203a1bdd8f10bd67807f2db3f4507b08d18a051a0fccf9151171a0e", func := "winnow/winnowlaw8.FootEncode", spec := "footEncode", unfollowed := true, recurses := true, plainKeys := false, apart := false, narrowed := true }
def FootEncodeUptoSaid : Prop := footEncodeUptoRow.holds Try.pinned (OpenSpec.upto footEncodeSpec)

/-- 'winnowlaw4.HuffLengths', WHERE WHAT IT READS IS OF BULK AT MOST 1048576: true; the input reads as it did. -/
def huffLengthsUptoRow : OpenClaim := { program := "ytkkjjjgcfnhabaa", sum := "652856378203a1bdd8f10bd67807f2db3f4507b08d18a051a0fccf9151171a0e", func := "winnow/winnowlaw4.HuffLengths", spec := "huffLengths", unfollowed := true, recurses := true, plainKeys := false, apart := false, narrowed := true }
def HuffLengthsUptoSaid : Prop := huffLengthsUptoRow.holds Try.pinned (OpenSpec.upto huffLengthsSpec)

/-- 'winnowlaw4.HuffLeast', WHERE WHAT IT READS IS OF BULK AT MOST 1048576: true; the input reads as it did. -/
def huffLeastUptoRow : OpenClaim := { program := "ytkkjjjgcfnhabaa", sum := "652856378203a1bdd8f10bd67807f2db3f4507b08d18a051a0fccf9151171a0e", func := "winnow/winnowlaw4.HuffLeast", spec := "huffLeast", unfollowed := true, recurses := true, plainKeys := false, apart := false, narrowed := true }
def HuffLeastUptoSaid : Prop := huffLeastUptoRow.holds Try.pinned (OpenSpec.upto huffLeastSpec)

/-- 'winnowlaw4.HuffEncodes', WHERE WHAT IT READS IS OF BULK AT MOST 1048576: true; the input reads as it did. -/
def huffEncodesUptoRow : OpenClaim := { program := "ytkkjjjgcfnhabaa", sum := "652856378203a1bdd8f10bd67807f2db3f4507b08d18a051a0fccf9151171a0e", func := "winnow/winnowlaw4.HuffEncodes", spec := "huffEncodes", unfollowed := true, recurses := true, plainKeys := false, apart := false, narrowed := true }
def HuffEncodesUptoSaid : Prop := huffEncodesUptoRow.holds Try.pinned (OpenSpec.upto huffEncodesSpec)

/-- 'winnowlaw8.FootDecoder', WHERE WHAT IT READS IS OF BULK AT MOST 1048576: true; the input reads as it did. -/
def footDecoderUptoRow : OpenClaim := { program := "ytkkjjjgcfnhabaa", sum := "652856378203a1bdd8f10bd67807f2db3f4507b08d18a051a0fccf9151171a0e", func := "winnow/winnowlaw8.FootDecoder", spec := "footDecoder", unfollowed := true, recurses := true, plainKeys := false, apart := false, narrowed := true }
def FootDecoderUptoSaid : Prop := footDecoderUptoRow.holds Try.pinned (OpenSpec.upto footDecoderSpec)

/-- 'winnowlaw8.FootDecode', WHERE WHAT IT READS IS OF BULK AT MOST 1048576: true; the input reads as it did. -/
def footDecodeUptoRow : OpenClaim := { program := "ytkkjjjgcfnhabaa", sum := "652856378203a1bdd8f10bd67807f2db3f4507b08d18a051a0fccf9151171a0e", func := "winnow/winnowlaw8.FootDecode", spec := "footDecode", unfollowed := true, recurses := true, plainKeys := false, apart := false, narrowed := true }
def FootDecodeUptoSaid : Prop := footDecodeUptoRow.holds Try.pinned (OpenSpec.upto footDecodeSpec)

/-- 'winnowlaw4.HuffRound', WHERE WHAT IT READS IS OF BULK AT MOST 1048576: true; the input reads as it did. -/
def huffRoundUptoRow : OpenClaim := { program := "ytkkjjjgcfnhabaa", sum := "652856378203a1bdd8f10bd67807f2db3f4507b08d18a051a0fccf9151171a0e", func := "winnow/winnowlaw4.HuffRound", spec := "huffRound", unfollowed := true, recurses := true, plainKeys := false, apart := false, narrowed := true }
def HuffRoundUptoSaid : Prop := huffRoundUptoRow.holds Try.pinned (OpenSpec.upto huffRoundSpec)

/-- 'winnowlaw4.HuffPrefix', WHERE WHAT IT READS IS OF BULK AT MOST 1048576: true; the input reads as it did. -/
def huffPrefixUptoRow : OpenClaim := { program := "ytkkjjjgcfnhabaa", sum := "652856378203a1bdd8f10bd67807f2db3f4507b08d18a051a0fccf9151171a0e", func := "winnow/winnowlaw4.HuffPrefix", spec := "huffPrefix", unfollowed := true, recurses := true, plainKeys := false, apart := false, narrowed := true }
def HuffPrefixUptoSaid : Prop := huffPrefixUptoRow.holds Try.pinned (OpenSpec.upto huffPrefixSpec)

/-- 'winnowlaw8.FootDamage', WHERE WHAT IT READS IS OF BULK AT MOST 1048576: true; the input reads as it did. -/
def footDamageUptoRow : OpenClaim := { program := "ytkkjjjgcfnhabaa", sum := "652856378203a1bdd8f10bd67807f2db3f4507b08d18a051a0fccf9151171a0e", func := "winnow/winnowlaw8.FootDamage", spec := "footDamage", unfollowed := true, recurses := true, plainKeys := false, apart := false, narrowed := true }
def FootDamageUptoSaid : Prop := footDamageUptoRow.holds Try.pinned (OpenSpec.upto footDamageSpec)

/-- 'winnowlaw4.HuffWhole', WHERE WHAT IT READS IS OF BULK AT MOST 1048576: true; the input reads as it did. -/
def huffWholeUptoRow : OpenClaim := { program := "ytkkjjjgcfnhabaa", sum := "652856378203a1bdd8f10bd67807f2db3f4507b08d18a051a0fccf9151171a0e", func := "winnow/winnowlaw4.HuffWhole", spec := "huffWhole", unfollowed := true, recurses := true, plainKeys := false, apart := false, narrowed := true }
def HuffWholeUptoSaid : Prop := huffWholeUptoRow.holds Try.pinned (OpenSpec.upto huffWholeSpec)

end Rows
end Go.Proofs.Ytkkjjjgcfnhabaa
