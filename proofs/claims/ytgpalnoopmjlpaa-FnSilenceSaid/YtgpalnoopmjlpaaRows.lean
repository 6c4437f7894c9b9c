/-
  No cell of these rows narrows 'for every input' (looked for: loops, veiled, ifaces, maps, wideKeys, modest, calm, conditions, laid).
  DERIVED. THE GIVEN ROWS OF THIS SEAT. 11 by the template 'for every input the law returns true; each argument reads behind the call as it read before'; 0 by the template 'total and deterministic' (their statements: YtgpalnoopmjlpaaTotals.lean).
  GIVEN WITH THE SEED: the statements are not yours to turn. If you find one false, say at which input.
  Laid BY PROGRAM, IN A SANDBOX (cutbox-rows.mjs): the forced cells as the released guide's own fill.sh prints them over the translation aabab60dc19aafc7… (all of the seat's roots in one cut). By AI agents, Wed Nov 11 2026. No macro, syntax, notation, axiom, sorry.
-/
import Derived.Test.YtgpalnoopmjlpaaChecked
import GoSem.Claim
import GoSem.ClaimJoined
import GoSem.ClaimMapViews
import Derived.JoinedTies
import Derived.KernelRfl
namespace Go.Proofs.Ytgpalnoopmjlpaa
/- THE CELL 'sum', in the pinned program and in every row, IS THE sha256 OF THE DUMP (.gsa) THAT YtgpalnoopmjlpaaProg.lean LOADS. Nothing in Lean hashes anything: it is a label: what it is worth is what the hold of that sum in a sandbox is worth. -/
noncomputable def Try.pinned : Pinned := { name := "ytgpalnoopmjlpaa", sum := "aabab60dc19aafc7b51b8879ba4470bf9694029c9efa6639a00f6bf0303b43ac", checked := Try.checked }
namespace Rows
def none {H : Type} : Left H := { results := [], args := [] }

/-- 'laws.FnExactIsValidRecording': WHATEVER THE INPUT: true; the input reads as it did. -/
def fnExactIsValidRecordingSpec : ChangeSpec := { name := "fnExactIsValidRecording", fn := fun _ => fun
  | [d] => { results := [.lit (.bool true)], args := [d] }
  | _ => none }
def fnExactIsValidRecordingRow : OpenClaim := { program := "ytgpalnoopmjlpaa", sum := "aabab60dc19aafc7b51b8879ba4470bf9694029c9efa6639a00f6bf0303b43ac", func := "loop.example/g00875/laws.FnExactIsValidRecording", spec := "fnExactIsValidRecording", apart := false }
def FnExactIsValidRecordingSaid : Prop := fnExactIsValidRecordingRow.holds Try.pinned (OpenSpec.ofChange fnExactIsValidRecordingSpec)

/-- ITS FALSE NEIGHBOUR: 'it returns false'. Refute it at one input. -/
def fnExactIsValidRecordingWrong : ChangeSpec := { name := "fnExactIsValidRecording", fn := fun _ => fun
  | [d] => { results := [.lit (.bool false)], args := [d] }
  | _ => none }
def FnExactIsValidRecordingWrongFalsely : Prop := fnExactIsValidRecordingRow.holds Try.pinned (OpenSpec.ofChange fnExactIsValidRecordingWrong)

/-- 'laws.FnExactLongestSilence': WHATEVER THE INPUT: true; the input reads as it did. -/
def fnExactLongestSilenceSpec : ChangeSpec := { name := "fnExactLongestSilence", fn := fun _ => fun
  | [d] => { results := [.lit (.bool true)], args := [d] }
  | _ => none }
def fnExactLongestSilenceRow : OpenClaim := { program := "ytgpalnoopmjlpaa", sum := "aabab60dc19aafc7b51b8879ba4470bf9694029c9efa6639a00f6bf0303b43ac", func := "loop.example/g00875/laws.FnExactLongestSilence", spec := "fnExactLongestSilence", apart := false }
def FnExactLongestSilenceSaid : Prop := fnExactLongestSilenceRow.holds Try.pinned (OpenSpec.ofChange fnExactLongestSilenceSpec)

/-- ITS FALSE NEIGHBOUR: 'it returns false'. Refute it at one input. -/
def fnExactLongestSilenceWrong : ChangeSpec := { name := "fnExactLongestSilence", fn := fun _ => fun
  | [d] => { results := [.lit (.bool false)], args := [d] }
  | _ => none }
def FnExactLongestSilenceWrongFalsely : Prop := fnExactLongestSilenceRow.holds Try.pinned (OpenSpec.ofChange fnExactLongestSilenceWrong)

/-- 'laws.FnExactBusiestWindow': WHATEVER THE INPUT: true; the input reads as it did. -/
def fnExactBusiestWindowSpec : ChangeSpec := { name := "fnExactBusiestWindow", fn := fun _ => fun
  | [d1, d2] => { results := [.lit (.bool true)], args := [d1, d2] }
  | _ => none }
def fnExactBusiestWindowRow : OpenClaim := { program := "ytgpalnoopmjlpaa", sum := "aabab60dc19aafc7b51b8879ba4470bf9694029c9efa6639a00f6bf0303b43ac", func := "loop.example/g00875/laws.FnExactBusiestWindow", spec := "fnExactBusiestWindow", apart := false }
def FnExactBusiestWindowSaid : Prop := fnExactBusiestWindowRow.holds Try.pinned (OpenSpec.ofChange fnExactBusiestWindowSpec)

/-- ITS FALSE NEIGHBOUR: 'it returns false'. Refute it at one input. -/
def fnExactBusiestWindowWrong : ChangeSpec := { name := "fnExactBusiestWindow", fn := fun _ => fun
  | [d1, d2] => { results := [.lit (.bool false)], args := [d1, d2] }
  | _ => none }
def FnExactBusiestWindowWrongFalsely : Prop := fnExactBusiestWindowRow.holds Try.pinned (OpenSpec.ofChange fnExactBusiestWindowWrong)

/-- 'laws.FnExactRecordingText': WHATEVER THE INPUT: true; the input reads as it did. -/
def fnExactRecordingTextSpec : ChangeSpec := { name := "fnExactRecordingText", fn := fun _ => fun
  | [d] => { results := [.lit (.bool true)], args := [d] }
  | _ => none }
def fnExactRecordingTextRow : OpenClaim := { program := "ytgpalnoopmjlpaa", sum := "aabab60dc19aafc7b51b8879ba4470bf9694029c9efa6639a00f6bf0303b43ac", func := "loop.example/g00875/laws.FnExactRecordingText", spec := "fnExactRecordingText", recurses := true, apart := false }
def FnExactRecordingTextSaid : Prop := fnExactRecordingTextRow.holds Try.pinned (OpenSpec.ofChange fnExactRecordingTextSpec)

/-- ITS FALSE NEIGHBOUR: 'it returns false'. Refute it at one input. -/
def fnExactRecordingTextWrong : ChangeSpec := { name := "fnExactRecordingText", fn := fun _ => fun
  | [d] => { results := [.lit (.bool false)], args := [d] }
  | _ => none }
def FnExactRecordingTextWrongFalsely : Prop := fnExactRecordingTextRow.holds Try.pinned (OpenSpec.ofChange fnExactRecordingTextWrong)

/-- 'laws.FnExactCutRecording': WHATEVER THE INPUT: true; the input reads as it did. -/
def fnExactCutRecordingSpec : ChangeSpec := { name := "fnExactCutRecording", fn := fun _ => fun
  | [d1, d2, d3] => { results := [.lit (.bool true)], args := [d1, d2, d3] }
  | _ => none }
def fnExactCutRecordingRow : OpenClaim := { program := "ytgpalnoopmjlpaa", sum := "aabab60dc19aafc7b51b8879ba4470bf9694029c9efa6639a00f6bf0303b43ac", func := "loop.example/g00875/laws.FnExactCutRecording", spec := "fnExactCutRecording", apart := false }
def FnExactCutRecordingSaid : Prop := fnExactCutRecordingRow.holds Try.pinned (OpenSpec.ofChange fnExactCutRecordingSpec)

/-- ITS FALSE NEIGHBOUR: 'it returns false'. Refute it at one input. -/
def fnExactCutRecordingWrong : ChangeSpec := { name := "fnExactCutRecording", fn := fun _ => fun
  | [d1, d2, d3] => { results := [.lit (.bool false)], args := [d1, d2, d3] }
  | _ => none }
def FnExactCutRecordingWrongFalsely : Prop := fnExactCutRecordingRow.holds Try.pinned (OpenSpec.ofChange fnExactCutRecordingWrong)

/-- 'laws.FnExactShiftRecording': WHATEVER THE INPUT: true; the input reads as it did. -/
def fnExactShiftRecordingSpec : ChangeSpec := { name := "fnExactShiftRecording", fn := fun _ => fun
  | [d1, d2] => { results := [.lit (.bool true)], args := [d1, d2] }
  | _ => none }
def fnExactShiftRecordingRow : OpenClaim := { program := "ytgpalnoopmjlpaa", sum := "aabab60dc19aafc7b51b8879ba4470bf9694029c9efa6639a00f6bf0303b43ac", func := "loop.example/g00875/laws.FnExactShiftRecording", spec := "fnExactShiftRecording", apart := false }
def FnExactShiftRecordingSaid : Prop := fnExactShiftRecordingRow.holds Try.pinned (OpenSpec.ofChange fnExactShiftRecordingSpec)

/-- ITS FALSE NEIGHBOUR: 'it returns false'. Refute it at one input. -/
def fnExactShiftRecordingWrong : ChangeSpec := { name := "fnExactShiftRecording", fn := fun _ => fun
  | [d1, d2] => { results := [.lit (.bool false)], args := [d1, d2] }
  | _ => none }
def FnExactShiftRecordingWrongFalsely : Prop := fnExactShiftRecordingRow.holds Try.pinned (OpenSpec.ofChange fnExactShiftRecordingWrong)

/-- 'laws.FnExactMergeRecordings': WHATEVER THE INPUT: true; the input reads as it did. -/
def fnExactMergeRecordingsSpec : ChangeSpec := { name := "fnExactMergeRecordings", fn := fun _ => fun
  | [d1, d2] => { results := [.lit (.bool true)], args := [d1, d2] }
  | _ => none }
def fnExactMergeRecordingsRow : OpenClaim := { program := "ytgpalnoopmjlpaa", sum := "aabab60dc19aafc7b51b8879ba4470bf9694029c9efa6639a00f6bf0303b43ac", func := "loop.example/g00875/laws.FnExactMergeRecordings", spec := "fnExactMergeRecordings", apart := false }
def FnExactMergeRecordingsSaid : Prop := fnExactMergeRecordingsRow.holds Try.pinned (OpenSpec.ofChange fnExactMergeRecordingsSpec)

/-- ITS FALSE NEIGHBOUR: 'it returns false'. Refute it at one input. -/
def fnExactMergeRecordingsWrong : ChangeSpec := { name := "fnExactMergeRecordings", fn := fun _ => fun
  | [d1, d2] => { results := [.lit (.bool false)], args := [d1, d2] }
  | _ => none }
def FnExactMergeRecordingsWrongFalsely : Prop := fnExactMergeRecordingsRow.holds Try.pinned (OpenSpec.ofChange fnExactMergeRecordingsWrong)

/-- 'laws.FnExactParseRecording': WHATEVER THE INPUT: true; the input reads as it did. -/
def fnExactParseRecordingSpec : ChangeSpec := { name := "fnExactParseRecording", fn := fun _ => fun
  | [d] => { results := [.lit (.bool true)], args := [d] }
  | _ => none }
def fnExactParseRecordingRow : OpenClaim := { program := "ytgpalnoopmjlpaa", sum := "aabab60dc19aafc7b51b8879ba4470bf9694029c9efa6639a00f6bf0303b43ac", func := "loop.example/g00875/laws.FnExactParseRecording", spec := "fnExactParseRecording", recurses := true, apart := false }
def FnExactParseRecordingSaid : Prop := fnExactParseRecordingRow.holds Try.pinned (OpenSpec.ofChange fnExactParseRecordingSpec)

/-- ITS FALSE NEIGHBOUR: 'it returns false'. Refute it at one input. -/
def fnExactParseRecordingWrong : ChangeSpec := { name := "fnExactParseRecording", fn := fun _ => fun
  | [d] => { results := [.lit (.bool false)], args := [d] }
  | _ => none }
def FnExactParseRecordingWrongFalsely : Prop := fnExactParseRecordingRow.holds Try.pinned (OpenSpec.ofChange fnExactParseRecordingWrong)

/-- 'laws.FnExactSoundMessages': WHATEVER THE INPUT: true; the input reads as it did. -/
def fnExactSoundMessagesSpec : ChangeSpec := { name := "fnExactSoundMessages", fn := fun _ => fun
  | [d] => { results := [.lit (.bool true)], args := [d] }
  | _ => none }
def fnExactSoundMessagesRow : OpenClaim := { program := "ytgpalnoopmjlpaa", sum := "aabab60dc19aafc7b51b8879ba4470bf9694029c9efa6639a00f6bf0303b43ac", func := "loop.example/g00875/laws.FnExactSoundMessages", spec := "fnExactSoundMessages", apart := false }
def FnExactSoundMessagesSaid : Prop := fnExactSoundMessagesRow.holds Try.pinned (OpenSpec.ofChange fnExactSoundMessagesSpec)

/-- ITS FALSE NEIGHBOUR: 'it returns false'. Refute it at one input. -/
def fnExactSoundMessagesWrong : ChangeSpec := { name := "fnExactSoundMessages", fn := fun _ => fun
  | [d] => { results := [.lit (.bool false)], args := [d] }
  | _ => none }
def FnExactSoundMessagesWrongFalsely : Prop := fnExactSoundMessagesRow.holds Try.pinned (OpenSpec.ofChange fnExactSoundMessagesWrong)

/-- 'laws.FnRecordings': WHATEVER THE INPUT: true; the input reads as it did. -/
def fnRecordingsSpec : ChangeSpec := { name := "fnRecordings", fn := fun _ => fun
  | [d] => { results := [.lit (.bool true)], args := [d] }
  | _ => none }
def fnRecordingsRow : OpenClaim := { program := "ytgpalnoopmjlpaa", sum := "aabab60dc19aafc7b51b8879ba4470bf9694029c9efa6639a00f6bf0303b43ac", func := "loop.example/g00875/laws.FnRecordings", spec := "fnRecordings", recurses := true, apart := false }
def FnRecordingsSaid : Prop := fnRecordingsRow.holds Try.pinned (OpenSpec.ofChange fnRecordingsSpec)

/-- ITS FALSE NEIGHBOUR: 'it returns false'. Refute it at one input. -/
def fnRecordingsWrong : ChangeSpec := { name := "fnRecordings", fn := fun _ => fun
  | [d] => { results := [.lit (.bool false)], args := [d] }
  | _ => none }
def FnRecordingsWrongFalsely : Prop := fnRecordingsRow.holds Try.pinned (OpenSpec.ofChange fnRecordingsWrong)

/-- 'laws.FnSilence': WHATEVER THE INPUT: true; the input reads as it did. -/
def fnSilenceSpec : ChangeSpec := { name := "fnSilence", fn := fun _ => fun
  | [d] => { results := [.lit (.bool true)], args := [d] }
  | _ => none }
def fnSilenceRow : OpenClaim := { program := "ytgpalnoopmjlpaa", sum := "aabab60dc19aafc7b51b8879ba4470bf9694029c9efa6639a00f6bf0303b43ac", func := "loop.example/g00875/laws.FnSilence", spec := "fnSilence", apart := false }
def FnSilenceSaid : Prop := fnSilenceRow.holds Try.pinned (OpenSpec.ofChange fnSilenceSpec)

/-- ITS FALSE NEIGHBOUR: 'it returns false'. Refute it at one input. -/
def fnSilenceWrong : ChangeSpec := { name := "fnSilence", fn := fun _ => fun
  | [d] => { results := [.lit (.bool false)], args := [d] }
  | _ => none }
def FnSilenceWrongFalsely : Prop := fnSilenceRow.holds Try.pinned (OpenSpec.ofChange fnSilenceWrong)

/- THE SECOND FORM. 'bulk': how many values and letters a reading holds, each counted each time it is reached (what is shared counts as often as it is met; a slice's spare places count too). A statement '..UptoSaid' is the law's where the arguments, and the package variables that the reading takes, are together of bulk at most 1048576: NARROWER than '..Said'. Prove '..Said' where nothing that the law and all that it calls make is longer than what came in: it says more and counts as full. Else prove '..UptoSaid'. A law counts once. -/
mutual
def uptoBulk {H : Type} : DataW H → Nat
  | .lit (.string bytes) => bytes.length + 1
  | .lit _ => 1
  | .nil => 1
  | .ptr d => uptoBulk d + 1
  | .slice elems spare => uptoBulkAll elems + uptoBulkAll spare + 1
  | .agg parts => uptoBulkAll parts + 1
  | .iface _ d => uptoBulk d + 1
  | .map entries => uptoBulkEntries entries + 1
  | .held _ => 1
def uptoBulkAll {H : Type} : List (DataW H) → Nat
  | [] => 0
  | d :: r => uptoBulk d + uptoBulkAll r
def uptoBulkEntries {H : Type} : List (Lit × DataW H) → Nat
  | [] => 0
  | x :: r => uptoBulkEntry x + uptoBulkEntries r
def uptoBulkEntry {H : Type} : Lit × DataW H → Nat
  | (.string bytes, d) => bytes.length + uptoBulk d + 1
  | (_, d) => uptoBulk d + 1
 end
def uptoSmall : (H : Type) → List (DataW H) → Bool := fun _ ds => decide (uptoBulkAll ds ≤ 1048576)
def OpenSpec.upto (s : _root_.Go.ChangeSpec) : _root_.Go.OpenSpec := { _root_.Go.OpenSpec.ofChange s with cond := some uptoSmall }

/-- 'laws.FnExactIsValidRecording', WHERE WHAT IT READS IS OF BULK AT MOST 1048576: true; the input reads as it did. -/
def fnExactIsValidRecordingUptoRow : OpenClaim := { program := "ytgpalnoopmjlpaa", sum := "aabab60dc19aafc7b51b8879ba4470bf9694029c9efa6639a00f6bf0303b43ac", func := "loop.example/g00875/laws.FnExactIsValidRecording", spec := "fnExactIsValidRecording", apart := false, narrowed := true }
def FnExactIsValidRecordingUptoSaid : Prop := fnExactIsValidRecordingUptoRow.holds Try.pinned (OpenSpec.upto fnExactIsValidRecordingSpec)

/-- 'laws.FnExactLongestSilence', WHERE WHAT IT READS IS OF BULK AT MOST 1048576: true; the input reads as it did. -/
def fnExactLongestSilenceUptoRow : OpenClaim := { program := "ytgpalnoopmjlpaa", sum := "aabab60dc19aafc7b51b8879ba4470bf9694029c9efa6639a00f6bf0303b43ac", func := "loop.example/g00875/laws.FnExactLongestSilence", spec := "fnExactLongestSilence", apart := false, narrowed := true }
def FnExactLongestSilenceUptoSaid : Prop := fnExactLongestSilenceUptoRow.holds Try.pinned (OpenSpec.upto fnExactLongestSilenceSpec)

/-- 'laws.FnExactBusiestWindow', WHERE WHAT IT READS IS OF BULK AT MOST 1048576: true; the input reads as it did. -/
def fnExactBusiestWindowUptoRow : OpenClaim := { program := "ytgpalnoopmjlpaa", sum := "aabab60dc19aafc7b51b8879ba4470bf9694029c9efa6639a00f6bf0303b43ac", func := "loop.example/g00875/laws.FnExactBusiestWindow", spec := "fnExactBusiestWindow", apart := false, narrowed := true }
def FnExactBusiestWindowUptoSaid : Prop := fnExactBusiestWindowUptoRow.holds Try.pinned (OpenSpec.upto fnExactBusiestWindowSpec)

/-- 'laws.FnExactRecordingText', WHERE WHAT IT READS IS OF BULK AT MOST 1048576: true; the input reads as it did. -/
def fnExactRecordingTextUptoRow : OpenClaim := { program := "ytgpalnoopmjlpaa", sum := "aabab60dc19aafc7b51b8879ba4470bf9694029c9efa6639a00f6bf0303b43ac", func := "loop.example/g00875/laws.FnExactRecordingText", spec := "fnExactRecordingText", recurses := true, apart := false, narrowed := true }
def FnExactRecordingTextUptoSaid : Prop := fnExactRecordingTextUptoRow.holds Try.pinned (OpenSpec.upto fnExactRecordingTextSpec)

/-- 'laws.FnExactCutRecording', WHERE WHAT IT READS IS OF BULK AT MOST 1048576: true; the input reads as it did. -/
def fnExactCutRecordingUptoRow : OpenClaim := { program := "ytgpalnoopmjlpaa", sum := "aabab60dc19aafc7b51b8879ba4470bf9694029c9efa6639a00f6bf0303b43ac", func := "loop.example/g00875/laws.FnExactCutRecording", spec := "fnExactCutRecording", apart := false, narrowed := true }
def FnExactCutRecordingUptoSaid : Prop := fnExactCutRecordingUptoRow.holds Try.pinned (OpenSpec.upto fnExactCutRecordingSpec)

/-- 'laws.FnExactShiftRecording', WHERE WHAT IT READS IS OF BULK AT MOST 1048576: true; the input reads as it did. -/
def fnExactShiftRecordingUptoRow : OpenClaim := { program := "ytgpalnoopmjlpaa", sum := "aabab60dc19aafc7b51b8879ba4470bf9694029c9efa6639a00f6bf0303b43ac", func := "loop.example/g00875/laws.FnExactShiftRecording", spec := "fnExactShiftRecording", apart := false, narrowed := true }
def FnExactShiftRecordingUptoSaid : Prop := fnExactShiftRecordingUptoRow.holds Try.pinned (OpenSpec.upto fnExactShiftRecordingSpec)

/-- 'laws.FnExactMergeRecordings', WHERE WHAT IT READS IS OF BULK AT MOST 1048576: true; the input reads as it did. -/
def fnExactMergeRecordingsUptoRow : OpenClaim := { program := "ytgpalnoopmjlpaa", sum := "aabab60dc19aafc7b51b8879ba4470bf9694029c9efa6639a00f6bf0303b43ac", func := "loop.example/g00875/laws.FnExactMergeRecordings", spec := "fnExactMergeRecordings", apart := false, narrowed := true }
def FnExactMergeRecordingsUptoSaid : Prop := fnExactMergeRecordingsUptoRow.holds Try.pinned (OpenSpec.upto fnExactMergeRecordingsSpec)

/-- 'laws.FnExactParseRecording', WHERE WHAT IT READS IS OF BULK AT MOST 1048576: true; the input reads as it did. -/
def fnExactParseRecordingUptoRow : OpenClaim := { program := "ytgpalnoopmjlpaa", sum := "aabab60dc19aafc7b51b8879ba4470bf9694029c9efa6639a00f6bf0303b43ac", func := "loop.example/g00875/laws.FnExactParseRecording", spec := "fnExactParseRecording", recurses := true, apart := false, narrowed := true }
def FnExactParseRecordingUptoSaid : Prop := fnExactParseRecordingUptoRow.holds Try.pinned (OpenSpec.upto fnExactParseRecordingSpec)

/-- 'laws.FnExactSoundMessages', WHERE WHAT IT READS IS OF BULK AT MOST 1048576: true; the input reads as it did. -/
def fnExactSoundMessagesUptoRow : OpenClaim := { program := "ytgpalnoopmjlpaa", sum := "aabab60dc19aafc7b51b8879ba4470bf9694029c9efa6639a00f6bf0303b43ac", func := "loop.example/g00875/laws.FnExactSoundMessages", spec := "fnExactSoundMessages", apart := false, narrowed := true }
def FnExactSoundMessagesUptoSaid : Prop := fnExactSoundMessagesUptoRow.holds Try.pinned (OpenSpec.upto fnExactSoundMessagesSpec)

/-- 'laws.FnRecordings', WHERE WHAT IT READS IS OF BULK AT MOST 1048576: true; the input reads as it did. -/
def fnRecordingsUptoRow : OpenClaim := { program := "ytgpalnoopmjlpaa", sum := "aabab60dc19aafc7b51b8879ba4470bf9694029c9efa6639a00f6bf0303b43ac", func := "loop.example/g00875/laws.FnRecordings", spec := "fnRecordings", recurses := true, apart := false, narrowed := true }
def FnRecordingsUptoSaid : Prop := fnRecordingsUptoRow.holds Try.pinned (OpenSpec.upto fnRecordingsSpec)

/-- 'laws.FnSilence', WHERE WHAT IT READS IS OF BULK AT MOST 1048576: true; the input reads as it did. -/
def fnSilenceUptoRow : OpenClaim := { program := "ytgpalnoopmjlpaa", sum := "aabab60dc19aafc7b51b8879ba4470bf9694029c9efa6639a00f6bf0303b43ac", func := "loop.example/g00875/laws.FnSilence", spec := "fnSilence", apart := false, narrowed := true }
def FnSilenceUptoSaid : Prop := fnSilenceUptoRow.holds Try.pinned (OpenSpec.upto fnSilenceSpec)

end Rows
end Go.Proofs.Ytgpalnoopmjlpaa
