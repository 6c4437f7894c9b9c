/-
  No cell of these rows narrows 'for every input' (looked for: loops, veiled, ifaces, maps, wideKeys, modest, calm, conditions, laid).
  DERIVED. THE GIVEN ROWS OF THIS SEAT. 6 by the template 'for every input the law returns true; each argument reads behind the call as it read before'; 0 by the template 'total and deterministic' (their statements: YtekmkgegjicjgaaGreatTotals.lean).
  GIVEN WITH THE SEED: the statements are not yours to turn. If you find one false, say at which input.
  Laid BY PROGRAM, IN A SANDBOX (cutbox-rows.mjs): the forced cells as the released guide's own fill.sh prints them over the translation 8305cdbe95a686a6… (all of the seat's roots in one cut). By AI agents, Wed Nov 11 2026. No macro, syntax, notation, axiom, sorry.
-/
import Derived.Test.YtekmkgegjicjgaaGreatChecked
import GoSem.Claim
import GoSem.ClaimJoined
import GoSem.ClaimMapViews
import Derived.JoinedTies
import Derived.KernelRfl
namespace Go.Proofs.YtekmkgegjicjgaaGreat
/- THE CELL 'sum', in the pinned program and in every row, IS THE sha256 OF THE DUMP (.gsa) THAT YtekmkgegjicjgaaGreatProg.lean LOADS. Nothing in Lean hashes anything: it is a label: what it is worth is what the hold of that sum in a sandbox is worth. -/
noncomputable def Tryz.pinned : Pinned := { name := "ytekmkgegjicjgaagreat", sum := "8305cdbe95a686a6608a14421150c0d085bccfd5974c057cb0cdeef8685f1f49", checked := Tryz.checked }
namespace Rows
def none {H : Type} : Left H := { results := [], args := [] }

/-- 'laws.FnExactRunScript': WHATEVER THE INPUT: true; the input reads as it did. -/
def fnExactRunScriptSpec : ChangeSpec := { name := "fnExactRunScript", fn := fun _ => fun
  | [d1, d2] => { results := [.lit (.bool true)], args := [d1, d2] }
  | _ => none }
def fnExactRunScriptRow : OpenClaim := { program := "ytekmkgegjicjgaagreat", sum := "8305cdbe95a686a6608a14421150c0d085bccfd5974c057cb0cdeef8685f1f49", func := "loop.example/g00875/laws.FnExactRunScript", spec := "fnExactRunScript", recurses := true, apart := false }
def FnExactRunScriptSaid : Prop := fnExactRunScriptRow.holds Tryz.pinned (OpenSpec.ofChange fnExactRunScriptSpec)

/-- ITS FALSE NEIGHBOUR: 'it returns false'. Refute it at one input. -/
def fnExactRunScriptWrong : ChangeSpec := { name := "fnExactRunScript", fn := fun _ => fun
  | [d1, d2] => { results := [.lit (.bool false)], args := [d1, d2] }
  | _ => none }
def FnExactRunScriptWrongFalsely : Prop := fnExactRunScriptRow.holds Tryz.pinned (OpenSpec.ofChange fnExactRunScriptWrong)

/-- 'laws.FnExactExecuteCommand': WHATEVER THE INPUT: true; the input reads as it did. -/
def fnExactExecuteCommandSpec : ChangeSpec := { name := "fnExactExecuteCommand", fn := fun _ => fun
  | [d1, d2] => { results := [.lit (.bool true)], args := [d1, d2] }
  | _ => none }
def fnExactExecuteCommandRow : OpenClaim := { program := "ytekmkgegjicjgaagreat", sum := "8305cdbe95a686a6608a14421150c0d085bccfd5974c057cb0cdeef8685f1f49", func := "loop.example/g00875/laws.FnExactExecuteCommand", spec := "fnExactExecuteCommand", recurses := true, apart := false }
def FnExactExecuteCommandSaid : Prop := fnExactExecuteCommandRow.holds Tryz.pinned (OpenSpec.ofChange fnExactExecuteCommandSpec)

/-- ITS FALSE NEIGHBOUR: 'it returns false'. Refute it at one input. -/
def fnExactExecuteCommandWrong : ChangeSpec := { name := "fnExactExecuteCommand", fn := fun _ => fun
  | [d1, d2] => { results := [.lit (.bool false)], args := [d1, d2] }
  | _ => none }
def FnExactExecuteCommandWrongFalsely : Prop := fnExactExecuteCommandRow.holds Tryz.pinned (OpenSpec.ofChange fnExactExecuteCommandWrong)

/-- 'laws.FnExactReplayLog': WHATEVER THE INPUT: true; the input reads as it did. -/
def fnExactReplayLogSpec : ChangeSpec := { name := "fnExactReplayLog", fn := fun _ => fun
  | [d1, d2] => { results := [.lit (.bool true)], args := [d1, d2] }
  | _ => none }
def fnExactReplayLogRow : OpenClaim := { program := "ytekmkgegjicjgaagreat", sum := "8305cdbe95a686a6608a14421150c0d085bccfd5974c057cb0cdeef8685f1f49", func := "loop.example/g00875/laws.FnExactReplayLog", spec := "fnExactReplayLog", recurses := true, apart := false }
def FnExactReplayLogSaid : Prop := fnExactReplayLogRow.holds Tryz.pinned (OpenSpec.ofChange fnExactReplayLogSpec)

/-- ITS FALSE NEIGHBOUR: 'it returns false'. Refute it at one input. -/
def fnExactReplayLogWrong : ChangeSpec := { name := "fnExactReplayLog", fn := fun _ => fun
  | [d1, d2] => { results := [.lit (.bool false)], args := [d1, d2] }
  | _ => none }
def FnExactReplayLogWrongFalsely : Prop := fnExactReplayLogRow.holds Tryz.pinned (OpenSpec.ofChange fnExactReplayLogWrong)

/-- 'laws.FnReplay': WHATEVER THE INPUT: true; the input reads as it did. -/
def fnReplaySpec : ChangeSpec := { name := "fnReplay", fn := fun _ => fun
  | [d] => { results := [.lit (.bool true)], args := [d] }
  | _ => none }
def fnReplayRow : OpenClaim := { program := "ytekmkgegjicjgaagreat", sum := "8305cdbe95a686a6608a14421150c0d085bccfd5974c057cb0cdeef8685f1f49", func := "loop.example/g00875/laws.FnReplay", spec := "fnReplay", recurses := true, apart := false }
def FnReplaySaid : Prop := fnReplayRow.holds Tryz.pinned (OpenSpec.ofChange fnReplaySpec)

/-- ITS FALSE NEIGHBOUR: 'it returns false'. Refute it at one input. -/
def fnReplayWrong : ChangeSpec := { name := "fnReplay", fn := fun _ => fun
  | [d] => { results := [.lit (.bool false)], args := [d] }
  | _ => none }
def FnReplayWrongFalsely : Prop := fnReplayRow.holds Tryz.pinned (OpenSpec.ofChange fnReplayWrong)

/-- 'laws.FnConsole': WHATEVER THE INPUT: true; the input reads as it did. -/
def fnConsoleSpec : ChangeSpec := { name := "fnConsole", fn := fun _ => fun
  | [d] => { results := [.lit (.bool true)], args := [d] }
  | _ => none }
def fnConsoleRow : OpenClaim := { program := "ytekmkgegjicjgaagreat", sum := "8305cdbe95a686a6608a14421150c0d085bccfd5974c057cb0cdeef8685f1f49", func := "loop.example/g00875/laws.FnConsole", spec := "fnConsole", recurses := true, apart := false }
def FnConsoleSaid : Prop := fnConsoleRow.holds Tryz.pinned (OpenSpec.ofChange fnConsoleSpec)

/-- ITS FALSE NEIGHBOUR: 'it returns false'. Refute it at one input. -/
def fnConsoleWrong : ChangeSpec := { name := "fnConsole", fn := fun _ => fun
  | [d] => { results := [.lit (.bool false)], args := [d] }
  | _ => none }
def FnConsoleWrongFalsely : Prop := fnConsoleRow.holds Tryz.pinned (OpenSpec.ofChange fnConsoleWrong)

/-- 'laws.FnScript': WHATEVER THE INPUT: true; the input reads as it did. -/
def fnScriptSpec : ChangeSpec := { name := "fnScript", fn := fun _ => fun
  | [d] => { results := [.lit (.bool true)], args := [d] }
  | _ => none }
def fnScriptRow : OpenClaim := { program := "ytekmkgegjicjgaagreat", sum := "8305cdbe95a686a6608a14421150c0d085bccfd5974c057cb0cdeef8685f1f49", func := "loop.example/g00875/laws.FnScript", spec := "fnScript", recurses := true, apart := false }
def FnScriptSaid : Prop := fnScriptRow.holds Tryz.pinned (OpenSpec.ofChange fnScriptSpec)

/-- ITS FALSE NEIGHBOUR: 'it returns false'. Refute it at one input. -/
def fnScriptWrong : ChangeSpec := { name := "fnScript", fn := fun _ => fun
  | [d] => { results := [.lit (.bool false)], args := [d] }
  | _ => none }
def FnScriptWrongFalsely : Prop := fnScriptRow.holds Tryz.pinned (OpenSpec.ofChange fnScriptWrong)

/- THE SECOND FORM. 'bulk': how many values and letters a reading holds, each counted each time it is reached (what is shared counts as often as it is met; a slice's spare places count too). A statement '..UptoSaid' is the law's where the arguments, and the package variables that the reading takes, are together of bulk at most 1048576: NARROWER than '..Said'. Prove '..Said' where nothing that the law and all that it calls make is longer than what came in: it says more and counts as full. Else prove '..UptoSaid'. A law counts once. -/
mutual
def uptoBulk {H : Type} : DataW H → Nat
  | .lit (.string bytes) => bytes.length + 1
  | .lit _ => 1
  | .nil => 1
  | .ptr d => uptoBulk d + 1
  | .slice elems spare => uptoBulkAll elems + uptoBulkAll spare + 1
  | .agg parts => uptoBulkAll parts + 1
  | .iface _ d => uptoBulk d + 1
  | .map entries => uptoBulkEntries entries + 1
  | .held _ => 1
def uptoBulkAll {H : Type} : List (DataW H) → Nat
  | [] => 0
  | d :: r => uptoBulk d + uptoBulkAll r
def uptoBulkEntries {H : Type} : List (Lit × DataW H) → Nat
  | [] => 0
  | x :: r => uptoBulkEntry x + uptoBulkEntries r
def uptoBulkEntry {H : Type} : Lit × DataW H → Nat
  | (.string bytes, d) => bytes.length + uptoBulk d + 1
  | (_, d) => uptoBulk d + 1
 end
def uptoSmall : (H : Type) → List (DataW H) → Bool := fun _ ds => decide (uptoBulkAll ds ≤ 1048576)
def OpenSpec.upto (s : _root_.Go.ChangeSpec) : _root_.Go.OpenSpec := { _root_.Go.OpenSpec.ofChange s with cond := some uptoSmall }

/-- 'laws.FnExactRunScript', WHERE WHAT IT READS IS OF BULK AT MOST 1048576: true; the input reads as it did. -/
def fnExactRunScriptUptoRow : OpenClaim := { program := "ytekmkgegjicjgaagreat", sum := "8305cdbe95a686a6608a14421150c0d085bccfd5974c057cb0cdeef8685f1f49", func := "loop.example/g00875/laws.FnExactRunScript", spec := "fnExactRunScript", recurses := true, apart := false, narrowed := true }
def FnExactRunScriptUptoSaid : Prop := fnExactRunScriptUptoRow.holds Tryz.pinned (OpenSpec.upto fnExactRunScriptSpec)

/-- 'laws.FnExactExecuteCommand', WHERE WHAT IT READS IS OF BULK AT MOST 1048576: true; the input reads as it did. -/
def fnExactExecuteCommandUptoRow : OpenClaim := { program := "ytekmkgegjicjgaagreat", sum := "8305cdbe95a686a6608a14421150c0d085bccfd5974c057cb0cdeef8685f1f49", func := "loop.example/g00875/laws.FnExactExecuteCommand", spec := "fnExactExecuteCommand", recurses := true, apart := false, narrowed := true }
def FnExactExecuteCommandUptoSaid : Prop := fnExactExecuteCommandUptoRow.holds Tryz.pinned (OpenSpec.upto fnExactExecuteCommandSpec)

/-- 'laws.FnExactReplayLog', WHERE WHAT IT READS IS OF BULK AT MOST 1048576: true; the input reads as it did. -/
def fnExactReplayLogUptoRow : OpenClaim := { program := "ytekmkgegjicjgaagreat", sum := "8305cdbe95a686a6608a14421150c0d085bccfd5974c057cb0cdeef8685f1f49", func := "loop.example/g00875/laws.FnExactReplayLog", spec := "fnExactReplayLog", recurses := true, apart := false, narrowed := true }
def FnExactReplayLogUptoSaid : Prop := fnExactReplayLogUptoRow.holds Tryz.pinned (OpenSpec.upto fnExactReplayLogSpec)

/-- 'laws.FnReplay', WHERE WHAT IT READS IS OF BULK AT MOST 1048576: true; the input reads as it did. -/
def fnReplayUptoRow : OpenClaim := { program := "ytekmkgegjicjgaagreat", sum := "8305cdbe95a686a6608a14421150c0d085bccfd5974c057cb0cdeef8685f1f49", func := "loop.example/g00875/laws.FnReplay", spec := "fnReplay", recurses := true, apart := false, narrowed := true }
def FnReplayUptoSaid : Prop := fnReplayUptoRow.holds Tryz.pinned (OpenSpec.upto fnReplaySpec)

/-- 'laws.FnConsole', WHERE WHAT IT READS IS OF BULK AT MOST 1048576: true; the input reads as it did. -/
def fnConsoleUptoRow : OpenClaim := { program := "ytekmkgegjicjgaagreat", sum := "8305cdbe95a686a6608a14421150c0d085bccfd5974c057cb0cdeef8685f1f49", func := "loop.example/g00875/laws.FnConsole", spec := "fnConsole", recurses := true, apart := false, narrowed := true }
def FnConsoleUptoSaid : Prop := fnConsoleUptoRow.holds Tryz.pinned (OpenSpec.upto fnConsoleSpec)

/-- 'laws.FnScript', WHERE WHAT IT READS IS OF BULK AT MOST 1048576: true; the input reads as it did. -/
def fnScriptUptoRow : OpenClaim := { program := "ytekmkgegjicjgaagreat", sum := "8305cdbe95a686a6608a14421150c0d085bccfd5974c057cb0cdeef8685f1f49", func := "loop.example/g00875/laws.FnScript", spec := "fnScript", recurses := true, apart := false, narrowed := true }
def FnScriptUptoSaid : Prop := fnScriptUptoRow.holds Tryz.pinned (OpenSpec.upto fnScriptSpec)

end Rows
end Go.Proofs.YtekmkgegjicjgaaGreat
