/-
  No cell of these rows narrows 'for every input' (looked for: loops, veiled, ifaces, maps, wideKeys, modest, calm, conditions, laid).
  DERIVED. THE GIVEN ROWS OF THIS SEAT. 11 by the template 'for every input the law returns true; each argument reads behind the call as it read before'; 0 by the template 'total and deterministic' (their statements: YtkjfhbbjjneilaaTotals.lean).
  GIVEN WITH THE SEED: the statements are not yours to turn. If you find one false, say at which input.
  Laid BY PROGRAM, IN A SANDBOX (cutbox-rows.mjs): the forced cells as the released guide's own fill.sh prints them over the translation e329c949af82e783… (all of the seat's roots in one cut). By AI agents, Wed Nov 11 2026. No macro, syntax, notation, axiom, sorry.
-/
import Derived.Test.YtkjfhbbjjneilaaChecked
import GoSem.Claim
import GoSem.ClaimJoined
import GoSem.ClaimMapViews
import Derived.JoinedTies
import Derived.KernelRfl
namespace Go.Proofs.Ytkjfhbbjjneilaa
/- THE CELL 'sum', in the pinned program and in every row, IS THE sha256 OF THE DUMP (.gsa) THAT YtkjfhbbjjneilaaProg.lean LOADS. Nothing in Lean hashes anything: it is a label: what it is worth is what the hold of that sum in a sandbox is worth. -/
noncomputable def Try.pinned : Pinned := { name := "ytkjfhbbjjneilaa", sum := "e329c949af82e7832a077dd571e8073d45818096413bca9318e240a1da357d32", checked := Try.checked }
namespace Rows
def none {H : Type} : Left H := { results := [], args := [] }

/-- 'laws.FnExactIsValidRecord': WHATEVER THE INPUT: true; the input reads as it did. -/
def fnExactIsValidRecordSpec : ChangeSpec := { name := "fnExactIsValidRecord", fn := fun _ => fun
  | [d] => { results := [.lit (.bool true)], args := [d] }
  | _ => none }
def fnExactIsValidRecordRow : OpenClaim := { program := "ytkjfhbbjjneilaa", sum := "e329c949af82e7832a077dd571e8073d45818096413bca9318e240a1da357d32", func := "loop.example/g00875/laws.FnExactIsValidRecord", spec := "fnExactIsValidRecord", apart := false }
def FnExactIsValidRecordSaid : Prop := fnExactIsValidRecordRow.holds Try.pinned (OpenSpec.ofChange fnExactIsValidRecordSpec)

/-- ITS FALSE NEIGHBOUR: 'it returns false'. Refute it at one input. -/
def fnExactIsValidRecordWrong : ChangeSpec := { name := "fnExactIsValidRecord", fn := fun _ => fun
  | [d] => { results := [.lit (.bool false)], args := [d] }
  | _ => none }
def FnExactIsValidRecordWrongFalsely : Prop := fnExactIsValidRecordRow.holds Try.pinned (OpenSpec.ofChange fnExactIsValidRecordWrong)

/-- 'laws.FnExactEncodeRecord': WHATEVER THE INPUT: true; the input reads as it did. -/
def fnExactEncodeRecordSpec : ChangeSpec := { name := "fnExactEncodeRecord", fn := fun _ => fun
  | [d1, d2] => { results := [.lit (.bool true)], args := [d1, d2] }
  | _ => none }
def fnExactEncodeRecordRow : OpenClaim := { program := "ytkjfhbbjjneilaa", sum := "e329c949af82e7832a077dd571e8073d45818096413bca9318e240a1da357d32", func := "loop.example/g00875/laws.FnExactEncodeRecord", spec := "fnExactEncodeRecord", recurses := true, apart := false }
def FnExactEncodeRecordSaid : Prop := fnExactEncodeRecordRow.holds Try.pinned (OpenSpec.ofChange fnExactEncodeRecordSpec)

/-- ITS FALSE NEIGHBOUR: 'it returns false'. Refute it at one input. -/
def fnExactEncodeRecordWrong : ChangeSpec := { name := "fnExactEncodeRecord", fn := fun _ => fun
  | [d1, d2] => { results := [.lit (.bool false)], args := [d1, d2] }
  | _ => none }
def FnExactEncodeRecordWrongFalsely : Prop := fnExactEncodeRecordRow.holds Try.pinned (OpenSpec.ofChange fnExactEncodeRecordWrong)

/-- 'laws.FnExactRecoverLog': WHATEVER THE INPUT: true; the input reads as it did. -/
def fnExactRecoverLogSpec : ChangeSpec := { name := "fnExactRecoverLog", fn := fun _ => fun
  | [d] => { results := [.lit (.bool true)], args := [d] }
  | _ => none }
def fnExactRecoverLogRow : OpenClaim := { program := "ytkjfhbbjjneilaa", sum := "e329c949af82e7832a077dd571e8073d45818096413bca9318e240a1da357d32", func := "loop.example/g00875/laws.FnExactRecoverLog", spec := "fnExactRecoverLog", recurses := true, apart := false }
def FnExactRecoverLogSaid : Prop := fnExactRecoverLogRow.holds Try.pinned (OpenSpec.ofChange fnExactRecoverLogSpec)

/-- ITS FALSE NEIGHBOUR: 'it returns false'. Refute it at one input. -/
def fnExactRecoverLogWrong : ChangeSpec := { name := "fnExactRecoverLog", fn := fun _ => fun
  | [d] => { results := [.lit (.bool false)], args := [d] }
  | _ => none }
def FnExactRecoverLogWrongFalsely : Prop := fnExactRecoverLogRow.holds Try.pinned (OpenSpec.ofChange fnExactRecoverLogWrong)

/-- 'laws.FnExactIsValidLog': WHATEVER THE INPUT: true; the input reads as it did. -/
def fnExactIsValidLogSpec : ChangeSpec := { name := "fnExactIsValidLog", fn := fun _ => fun
  | [d] => { results := [.lit (.bool true)], args := [d] }
  | _ => none }
def fnExactIsValidLogRow : OpenClaim := { program := "ytkjfhbbjjneilaa", sum := "e329c949af82e7832a077dd571e8073d45818096413bca9318e240a1da357d32", func := "loop.example/g00875/laws.FnExactIsValidLog", spec := "fnExactIsValidLog", recurses := true, apart := false }
def FnExactIsValidLogSaid : Prop := fnExactIsValidLogRow.holds Try.pinned (OpenSpec.ofChange fnExactIsValidLogSpec)

/-- ITS FALSE NEIGHBOUR: 'it returns false'. Refute it at one input. -/
def fnExactIsValidLogWrong : ChangeSpec := { name := "fnExactIsValidLog", fn := fun _ => fun
  | [d] => { results := [.lit (.bool false)], args := [d] }
  | _ => none }
def FnExactIsValidLogWrongFalsely : Prop := fnExactIsValidLogRow.holds Try.pinned (OpenSpec.ofChange fnExactIsValidLogWrong)

/-- 'laws.FnExactCrashLog': WHATEVER THE INPUT: true; the input reads as it did. -/
def fnExactCrashLogSpec : ChangeSpec := { name := "fnExactCrashLog", fn := fun _ => fun
  | [d1, d2, d3] => { results := [.lit (.bool true)], args := [d1, d2, d3] }
  | _ => none }
def fnExactCrashLogRow : OpenClaim := { program := "ytkjfhbbjjneilaa", sum := "e329c949af82e7832a077dd571e8073d45818096413bca9318e240a1da357d32", func := "loop.example/g00875/laws.FnExactCrashLog", spec := "fnExactCrashLog", recurses := true, apart := false }
def FnExactCrashLogSaid : Prop := fnExactCrashLogRow.holds Try.pinned (OpenSpec.ofChange fnExactCrashLogSpec)

/-- ITS FALSE NEIGHBOUR: 'it returns false'. Refute it at one input. -/
def fnExactCrashLogWrong : ChangeSpec := { name := "fnExactCrashLog", fn := fun _ => fun
  | [d1, d2, d3] => { results := [.lit (.bool false)], args := [d1, d2, d3] }
  | _ => none }
def FnExactCrashLogWrongFalsely : Prop := fnExactCrashLogRow.holds Try.pinned (OpenSpec.ofChange fnExactCrashLogWrong)

/-- 'laws.FnExactSyncLog': WHATEVER THE INPUT: true; the input reads as it did. -/
def fnExactSyncLogSpec : ChangeSpec := { name := "fnExactSyncLog", fn := fun _ => fun
  | [d] => { results := [.lit (.bool true)], args := [d] }
  | _ => none }
def fnExactSyncLogRow : OpenClaim := { program := "ytkjfhbbjjneilaa", sum := "e329c949af82e7832a077dd571e8073d45818096413bca9318e240a1da357d32", func := "loop.example/g00875/laws.FnExactSyncLog", spec := "fnExactSyncLog", recurses := true, apart := false }
def FnExactSyncLogSaid : Prop := fnExactSyncLogRow.holds Try.pinned (OpenSpec.ofChange fnExactSyncLogSpec)

/-- ITS FALSE NEIGHBOUR: 'it returns false'. Refute it at one input. -/
def fnExactSyncLogWrong : ChangeSpec := { name := "fnExactSyncLog", fn := fun _ => fun
  | [d] => { results := [.lit (.bool false)], args := [d] }
  | _ => none }
def FnExactSyncLogWrongFalsely : Prop := fnExactSyncLogRow.holds Try.pinned (OpenSpec.ofChange fnExactSyncLogWrong)

/-- 'laws.FnExactAppendRecord': WHATEVER THE INPUT: true; the input reads as it did. -/
def fnExactAppendRecordSpec : ChangeSpec := { name := "fnExactAppendRecord", fn := fun _ => fun
  | [d1, d2] => { results := [.lit (.bool true)], args := [d1, d2] }
  | _ => none }
def fnExactAppendRecordRow : OpenClaim := { program := "ytkjfhbbjjneilaa", sum := "e329c949af82e7832a077dd571e8073d45818096413bca9318e240a1da357d32", func := "loop.example/g00875/laws.FnExactAppendRecord", spec := "fnExactAppendRecord", recurses := true, apart := false }
def FnExactAppendRecordSaid : Prop := fnExactAppendRecordRow.holds Try.pinned (OpenSpec.ofChange fnExactAppendRecordSpec)

/-- ITS FALSE NEIGHBOUR: 'it returns false'. Refute it at one input. -/
def fnExactAppendRecordWrong : ChangeSpec := { name := "fnExactAppendRecord", fn := fun _ => fun
  | [d1, d2] => { results := [.lit (.bool false)], args := [d1, d2] }
  | _ => none }
def FnExactAppendRecordWrongFalsely : Prop := fnExactAppendRecordRow.holds Try.pinned (OpenSpec.ofChange fnExactAppendRecordWrong)

/-- 'laws.FnExactLogRecords': WHATEVER THE INPUT: true; the input reads as it did. -/
def fnExactLogRecordsSpec : ChangeSpec := { name := "fnExactLogRecords", fn := fun _ => fun
  | [d] => { results := [.lit (.bool true)], args := [d] }
  | _ => none }
def fnExactLogRecordsRow : OpenClaim := { program := "ytkjfhbbjjneilaa", sum := "e329c949af82e7832a077dd571e8073d45818096413bca9318e240a1da357d32", func := "loop.example/g00875/laws.FnExactLogRecords", spec := "fnExactLogRecords", recurses := true, apart := false }
def FnExactLogRecordsSaid : Prop := fnExactLogRecordsRow.holds Try.pinned (OpenSpec.ofChange fnExactLogRecordsSpec)

/-- ITS FALSE NEIGHBOUR: 'it returns false'. Refute it at one input. -/
def fnExactLogRecordsWrong : ChangeSpec := { name := "fnExactLogRecords", fn := fun _ => fun
  | [d] => { results := [.lit (.bool false)], args := [d] }
  | _ => none }
def FnExactLogRecordsWrongFalsely : Prop := fnExactLogRecordsRow.holds Try.pinned (OpenSpec.ofChange fnExactLogRecordsWrong)

/-- 'laws.FnLogLines': WHATEVER THE INPUT: true; the input reads as it did. -/
def fnLogLinesSpec : ChangeSpec := { name := "fnLogLines", fn := fun _ => fun
  | [d] => { results := [.lit (.bool true)], args := [d] }
  | _ => none }
def fnLogLinesRow : OpenClaim := { program := "ytkjfhbbjjneilaa", sum := "e329c949af82e7832a077dd571e8073d45818096413bca9318e240a1da357d32", func := "loop.example/g00875/laws.FnLogLines", spec := "fnLogLines", recurses := true, apart := false }
def FnLogLinesSaid : Prop := fnLogLinesRow.holds Try.pinned (OpenSpec.ofChange fnLogLinesSpec)

/-- ITS FALSE NEIGHBOUR: 'it returns false'. Refute it at one input. -/
def fnLogLinesWrong : ChangeSpec := { name := "fnLogLines", fn := fun _ => fun
  | [d] => { results := [.lit (.bool false)], args := [d] }
  | _ => none }
def FnLogLinesWrongFalsely : Prop := fnLogLinesRow.holds Try.pinned (OpenSpec.ofChange fnLogLinesWrong)

/-- 'laws.FnLog': WHATEVER THE INPUT: true; the input reads as it did. -/
def fnLogSpec : ChangeSpec := { name := "fnLog", fn := fun _ => fun
  | [d] => { results := [.lit (.bool true)], args := [d] }
  | _ => none }
def fnLogRow : OpenClaim := { program := "ytkjfhbbjjneilaa", sum := "e329c949af82e7832a077dd571e8073d45818096413bca9318e240a1da357d32", func := "loop.example/g00875/laws.FnLog", spec := "fnLog", recurses := true, apart := false }
def FnLogSaid : Prop := fnLogRow.holds Try.pinned (OpenSpec.ofChange fnLogSpec)

/-- ITS FALSE NEIGHBOUR: 'it returns false'. Refute it at one input. -/
def fnLogWrong : ChangeSpec := { name := "fnLog", fn := fun _ => fun
  | [d] => { results := [.lit (.bool false)], args := [d] }
  | _ => none }
def FnLogWrongFalsely : Prop := fnLogRow.holds Try.pinned (OpenSpec.ofChange fnLogWrong)

/-- 'laws.FnCrashRecovery': WHATEVER THE INPUT: true; the input reads as it did. -/
def fnCrashRecoverySpec : ChangeSpec := { name := "fnCrashRecovery", fn := fun _ => fun
  | [d] => { results := [.lit (.bool true)], args := [d] }
  | _ => none }
def fnCrashRecoveryRow : OpenClaim := { program := "ytkjfhbbjjneilaa", sum := "e329c949af82e7832a077dd571e8073d45818096413bca9318e240a1da357d32", func := "loop.example/g00875/laws.FnCrashRecovery", spec := "fnCrashRecovery", recurses := true, apart := false }
def FnCrashRecoverySaid : Prop := fnCrashRecoveryRow.holds Try.pinned (OpenSpec.ofChange fnCrashRecoverySpec)

/-- ITS FALSE NEIGHBOUR: 'it returns false'. Refute it at one input. -/
def fnCrashRecoveryWrong : ChangeSpec := { name := "fnCrashRecovery", fn := fun _ => fun
  | [d] => { results := [.lit (.bool false)], args := [d] }
  | _ => none }
def FnCrashRecoveryWrongFalsely : Prop := fnCrashRecoveryRow.holds Try.pinned (OpenSpec.ofChange fnCrashRecoveryWrong)

/- THE SECOND FORM. 'bulk': how many values and letters a reading holds, each counted each time it is reached (what is shared counts as often as it is met; a slice's spare places count too). A statement '..UptoSaid' is the law's where the arguments, and the package variables that the reading takes, are together of bulk at most 1048576: NARROWER than '..Said'. Prove '..Said' where nothing that the law and all that it calls make is longer than what came in: it says more and counts as full. Else prove '..UptoSaid'. A law counts once. -/
mutual
def uptoBulk {H : Type} : DataW H → Nat
  | .lit (.string bytes) => bytes.length + 1
  | .lit _ => 1
  | .nil => 1
  | .ptr d => uptoBulk d + 1
  | .slice elems spare => uptoBulkAll elems + uptoBulkAll spare + 1
  | .agg parts => uptoBulkAll parts + 1
  | .iface _ d => uptoBulk d + 1
  | .map entries => uptoBulkEntries entries + 1
  | .held _ => 1
def uptoBulkAll {H : Type} : List (DataW H) → Nat
  | [] => 0
  | d :: r => uptoBulk d + uptoBulkAll r
def uptoBulkEntries {H : Type} : List (Lit × DataW H) → Nat
  | [] => 0
  | x :: r => uptoBulkEntry x + uptoBulkEntries r
def uptoBulkEntry {H : Type} : Lit × DataW H → Nat
  | (.string bytes, d) => bytes.length + uptoBulk d + 1
  | (_, d) => uptoBulk d + 1
 end
def uptoSmall : (H : Type) → List (DataW H) → Bool := fun _ ds => decide (uptoBulkAll ds ≤ 1048576)
def OpenSpec.upto (s : _root_.Go.ChangeSpec) : _root_.Go.OpenSpec := { _root_.Go.OpenSpec.ofChange s with cond := some uptoSmall }

/-- 'laws.FnExactIsValidRecord', WHERE WHAT IT READS IS OF BULK AT MOST 1048576: true; the input reads as it did. -/
def fnExactIsValidRecordUptoRow : OpenClaim := { program := "ytkjfhbbjjneilaa", sum := "e329c949af82e7832a077dd571e8073d45818096413bca9318e240a1da357d32", func := "loop.example/g00875/laws.FnExactIsValidRecord", spec := "fnExactIsValidRecord", apart := false, narrowed := true }
def FnExactIsValidRecordUptoSaid : Prop := fnExactIsValidRecordUptoRow.holds Try.pinned (OpenSpec.upto fnExactIsValidRecordSpec)

/-- 'laws.FnExactEncodeRecord', WHERE WHAT IT READS IS OF BULK AT MOST 1048576: true; the input reads as it did. -/
def fnExactEncodeRecordUptoRow : OpenClaim := { program := "ytkjfhbbjjneilaa", sum := "e329c949af82e7832a077dd571e8073d45818096413bca9318e240a1da357d32", func := "loop.example/g00875/laws.FnExactEncodeRecord", spec := "fnExactEncodeRecord", recurses := true, apart := false, narrowed := true }
def FnExactEncodeRecordUptoSaid : Prop := fnExactEncodeRecordUptoRow.holds Try.pinned (OpenSpec.upto fnExactEncodeRecordSpec)

/-- 'laws.FnExactRecoverLog', WHERE WHAT IT READS IS OF BULK AT MOST 1048576: true; the input reads as it did. -/
def fnExactRecoverLogUptoRow : OpenClaim := { program := "ytkjfhbbjjneilaa", sum := "e329c949af82e7832a077dd571e8073d45818096413bca9318e240a1da357d32", func := "loop.example/g00875/laws.FnExactRecoverLog", spec := "fnExactRecoverLog", recurses := true, apart := false, narrowed := true }
def FnExactRecoverLogUptoSaid : Prop := fnExactRecoverLogUptoRow.holds Try.pinned (OpenSpec.upto fnExactRecoverLogSpec)

/-- 'laws.FnExactIsValidLog', WHERE WHAT IT READS IS OF BULK AT MOST 1048576: true; the input reads as it did. -/
def fnExactIsValidLogUptoRow : OpenClaim := { program := "ytkjfhbbjjneilaa", sum := "e329c949af82e7832a077dd571e8073d45818096413bca9318e240a1da357d32", func := "loop.example/g00875/laws.FnExactIsValidLog", spec := "fnExactIsValidLog", recurses := true, apart := false, narrowed := true }
def FnExactIsValidLogUptoSaid : Prop := fnExactIsValidLogUptoRow.holds Try.pinned (OpenSpec.upto fnExactIsValidLogSpec)

/-- 'laws.FnExactCrashLog', WHERE WHAT IT READS IS OF BULK AT MOST 1048576: true; the input reads as it did. -/
def fnExactCrashLogUptoRow : OpenClaim := { program := "ytkjfhbbjjneilaa", sum := "e329c949af82e7832a077dd571e8073d45818096413bca9318e240a1da357d32", func := "loop.example/g00875/laws.FnExactCrashLog", spec := "fnExactCrashLog", recurses := true, apart := false, narrowed := true }
def FnExactCrashLogUptoSaid : Prop := fnExactCrashLogUptoRow.holds Try.pinned (OpenSpec.upto fnExactCrashLogSpec)

/-- 'laws.FnExactSyncLog', WHERE WHAT IT READS IS OF BULK AT MOST 1048576: true; the input reads as it did. -/
def fnExactSyncLogUptoRow : OpenClaim := { program := "ytkjfhbbjjneilaa", sum := "e329c949af82e7832a077dd571e8073d45818096413bca9318e240a1da357d32", func := "loop.example/g00875/laws.FnExactSyncLog", spec := "fnExactSyncLog", recurses := true, apart := false, narrowed := true }
def FnExactSyncLogUptoSaid : Prop := fnExactSyncLogUptoRow.holds Try.pinned (OpenSpec.upto fnExactSyncLogSpec)

/-- 'laws.FnExactAppendRecord', WHERE WHAT IT READS IS OF BULK AT MOST 1048576: true; the input reads as it did. -/
def fnExactAppendRecordUptoRow : OpenClaim := { program := "ytkjfhbbjjneilaa", sum := "e329c949af82e7832a077dd571e8073d45818096413bca9318e240a1da357d32", func := "loop.example/g00875/laws.FnExactAppendRecord", spec := "fnExactAppendRecord", recurses := true, apart := false, narrowed := true }
def FnExactAppendRecordUptoSaid : Prop := fnExactAppendRecordUptoRow.holds Try.pinned (OpenSpec.upto fnExactAppendRecordSpec)

/-- 'laws.FnExactLogRecords', WHERE WHAT IT READS IS OF BULK AT MOST 1048576: true; the input reads as it did. -/
def fnExactLogRecordsUptoRow : OpenClaim := { program := "ytkjfhbbjjneilaa", sum := "e329c949af82e7832a077dd571e8073d45818096413bca9318e240a1da357d32", func := "loop.example/g00875/laws.FnExactLogRecords", spec := "fnExactLogRecords", recurses := true, apart := false, narrowed := true }
def FnExactLogRecordsUptoSaid : Prop := fnExactLogRecordsUptoRow.holds Try.pinned (OpenSpec.upto fnExactLogRecordsSpec)

/-- 'laws.FnLogLines', WHERE WHAT IT READS IS OF BULK AT MOST 1048576: true; the input reads as it did. -/
def fnLogLinesUptoRow : OpenClaim := { program := "ytkjfhbbjjneilaa", sum := "e329c949af82e7832a077dd571e8073d45818096413bca9318e240a1da357d32", func := "loop.example/g00875/laws.FnLogLines", spec := "fnLogLines", recurses := true, apart := false, narrowed := true }
def FnLogLinesUptoSaid : Prop := fnLogLinesUptoRow.holds Try.pinned (OpenSpec.upto fnLogLinesSpec)

/-- 'laws.FnLog', WHERE WHAT IT READS IS OF BULK AT MOST 1048576: true; the input reads as it did. -/
def fnLogUptoRow : OpenClaim := { program := "ytkjfhbbjjneilaa", sum := "e329c949af82e7832a077dd571e8073d45818096413bca9318e240a1da357d32", func := "loop.example/g00875/laws.FnLog", spec := "fnLog", recurses := true, apart := false, narrowed := true }
def FnLogUptoSaid : Prop := fnLogUptoRow.holds Try.pinned (OpenSpec.upto fnLogSpec)

/-- 'laws.FnCrashRecovery', WHERE WHAT IT READS IS OF BULK AT MOST 1048576: true; the input reads as it did. -/
def fnCrashRecoveryUptoRow : OpenClaim := { program := "ytkjfhbbjjneilaa", sum := "e329c949af82e7832a077dd571e8073d45818096413bca9318e240a1da357d32", func := "loop.example/g00875/laws.FnCrashRecovery", spec := "fnCrashRecovery", recurses := true, apart := false, narrowed := true }
def FnCrashRecoveryUptoSaid : Prop := fnCrashRecoveryUptoRow.holds Try.pinned (OpenSpec.upto fnCrashRecoverySpec)

end Rows
end Go.Proofs.Ytkjfhbbjjneilaa
