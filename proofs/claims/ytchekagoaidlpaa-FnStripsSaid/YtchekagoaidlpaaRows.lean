/-
  No cell of these rows narrows 'for every input' (looked for: loops, veiled, ifaces, maps, wideKeys, modest, calm, conditions, laid).
  DERIVED. THE GIVEN ROWS OF THIS SEAT. 11 by the template 'for every input the law returns true; each argument reads behind the call as it read before'; 0 by the template 'total and deterministic' (their statements: YtchekagoaidlpaaTotals.lean).
  GIVEN WITH THE SEED: the statements are not yours to turn. If you find one false, say at which input.
  Laid BY PROGRAM, IN A SANDBOX (cutbox-rows.mjs): the forced cells as the released guide's own fill.sh prints them over the translation 54973938d2a92b36… (all of the seat's roots in one cut). By AI agents, Wed Nov 11 2026. No macro, syntax, notation, axiom, sorry.
-/
import Derived.Test.YtchekagoaidlpaaChecked
import GoSem.Claim
import GoSem.ClaimJoined
import GoSem.ClaimMapViews
import Derived.JoinedTies
import Derived.KernelRfl
namespace Go.Proofs.Ytchekagoaidlpaa
/- THE CELL 'sum', in the pinned program and in every row, IS THE sha256 OF THE DUMP (.gsa) THAT YtchekagoaidlpaaProg.lean LOADS. Nothing in Lean hashes anything: it is a label: what it is worth is what the hold of that sum in a sandbox is worth. -/
noncomputable def Try.pinned : Pinned := { name := "ytchekagoaidlpaa", sum := "54973938d2a92b369fa343ae69bbc3d43979e52f8f2b29ef0cb0bb901e1cfb3a", checked := Try.checked }
namespace Rows
def none {H : Type} : Left H := { results := [], args := [] }

/-- 'laws.FnExactIsValidStrip': WHATEVER THE INPUT: true; the input reads as it did. -/
def fnExactIsValidStripSpec : ChangeSpec := { name := "fnExactIsValidStrip", fn := fun _ => fun
  | [d] => { results := [.lit (.bool true)], args := [d] }
  | _ => none }
def fnExactIsValidStripRow : OpenClaim := { program := "ytchekagoaidlpaa", sum := "54973938d2a92b369fa343ae69bbc3d43979e52f8f2b29ef0cb0bb901e1cfb3a", func := "loop.example/g00875/laws.FnExactIsValidStrip", spec := "fnExactIsValidStrip", apart := false }
def FnExactIsValidStripSaid : Prop := fnExactIsValidStripRow.holds Try.pinned (OpenSpec.ofChange fnExactIsValidStripSpec)

/-- ITS FALSE NEIGHBOUR: 'it returns false'. Refute it at one input. -/
def fnExactIsValidStripWrong : ChangeSpec := { name := "fnExactIsValidStrip", fn := fun _ => fun
  | [d] => { results := [.lit (.bool false)], args := [d] }
  | _ => none }
def FnExactIsValidStripWrongFalsely : Prop := fnExactIsValidStripRow.holds Try.pinned (OpenSpec.ofChange fnExactIsValidStripWrong)

/-- 'laws.FnExactViaPoint': WHATEVER THE INPUT: true; the input reads as it did. -/
def fnExactViaPointSpec : ChangeSpec := { name := "fnExactViaPoint", fn := fun _ => fun
  | [d1, d2, d3] => { results := [.lit (.bool true)], args := [d1, d2, d3] }
  | _ => none }
def fnExactViaPointRow : OpenClaim := { program := "ytchekagoaidlpaa", sum := "54973938d2a92b369fa343ae69bbc3d43979e52f8f2b29ef0cb0bb901e1cfb3a", func := "loop.example/g00875/laws.FnExactViaPoint", spec := "fnExactViaPoint", apart := false }
def FnExactViaPointSaid : Prop := fnExactViaPointRow.holds Try.pinned (OpenSpec.ofChange fnExactViaPointSpec)

/-- ITS FALSE NEIGHBOUR: 'it returns false'. Refute it at one input. -/
def fnExactViaPointWrong : ChangeSpec := { name := "fnExactViaPoint", fn := fun _ => fun
  | [d1, d2, d3] => { results := [.lit (.bool false)], args := [d1, d2, d3] }
  | _ => none }
def FnExactViaPointWrongFalsely : Prop := fnExactViaPointRow.holds Try.pinned (OpenSpec.ofChange fnExactViaPointWrong)

/-- 'laws.FnExactCutRoute': WHATEVER THE INPUT: true; the input reads as it did. -/
def fnExactCutRouteSpec : ChangeSpec := { name := "fnExactCutRoute", fn := fun _ => fun
  | [d1, d2] => { results := [.lit (.bool true)], args := [d1, d2] }
  | _ => none }
def fnExactCutRouteRow : OpenClaim := { program := "ytchekagoaidlpaa", sum := "54973938d2a92b369fa343ae69bbc3d43979e52f8f2b29ef0cb0bb901e1cfb3a", func := "loop.example/g00875/laws.FnExactCutRoute", spec := "fnExactCutRoute", apart := false }
def FnExactCutRouteSaid : Prop := fnExactCutRouteRow.holds Try.pinned (OpenSpec.ofChange fnExactCutRouteSpec)

/-- ITS FALSE NEIGHBOUR: 'it returns false'. Refute it at one input. -/
def fnExactCutRouteWrong : ChangeSpec := { name := "fnExactCutRoute", fn := fun _ => fun
  | [d1, d2] => { results := [.lit (.bool false)], args := [d1, d2] }
  | _ => none }
def FnExactCutRouteWrongFalsely : Prop := fnExactCutRouteRow.holds Try.pinned (OpenSpec.ofChange fnExactCutRouteWrong)

/-- 'laws.FnExactDelayStrip': WHATEVER THE INPUT: true; the input reads as it did. -/
def fnExactDelayStripSpec : ChangeSpec := { name := "fnExactDelayStrip", fn := fun _ => fun
  | [d1, d2] => { results := [.lit (.bool true)], args := [d1, d2] }
  | _ => none }
def fnExactDelayStripRow : OpenClaim := { program := "ytchekagoaidlpaa", sum := "54973938d2a92b369fa343ae69bbc3d43979e52f8f2b29ef0cb0bb901e1cfb3a", func := "loop.example/g00875/laws.FnExactDelayStrip", spec := "fnExactDelayStrip", apart := false }
def FnExactDelayStripSaid : Prop := fnExactDelayStripRow.holds Try.pinned (OpenSpec.ofChange fnExactDelayStripSpec)

/-- ITS FALSE NEIGHBOUR: 'it returns false'. Refute it at one input. -/
def fnExactDelayStripWrong : ChangeSpec := { name := "fnExactDelayStrip", fn := fun _ => fun
  | [d1, d2] => { results := [.lit (.bool false)], args := [d1, d2] }
  | _ => none }
def FnExactDelayStripWrongFalsely : Prop := fnExactDelayStripRow.holds Try.pinned (OpenSpec.ofChange fnExactDelayStripWrong)

/-- 'laws.FnExactCommonPoints': WHATEVER THE INPUT: true; the input reads as it did. -/
def fnExactCommonPointsSpec : ChangeSpec := { name := "fnExactCommonPoints", fn := fun _ => fun
  | [d1, d2] => { results := [.lit (.bool true)], args := [d1, d2] }
  | _ => none }
def fnExactCommonPointsRow : OpenClaim := { program := "ytchekagoaidlpaa", sum := "54973938d2a92b369fa343ae69bbc3d43979e52f8f2b29ef0cb0bb901e1cfb3a", func := "loop.example/g00875/laws.FnExactCommonPoints", spec := "fnExactCommonPoints", apart := false }
def FnExactCommonPointsSaid : Prop := fnExactCommonPointsRow.holds Try.pinned (OpenSpec.ofChange fnExactCommonPointsSpec)

/-- ITS FALSE NEIGHBOUR: 'it returns false'. Refute it at one input. -/
def fnExactCommonPointsWrong : ChangeSpec := { name := "fnExactCommonPoints", fn := fun _ => fun
  | [d1, d2] => { results := [.lit (.bool false)], args := [d1, d2] }
  | _ => none }
def FnExactCommonPointsWrongFalsely : Prop := fnExactCommonPointsRow.holds Try.pinned (OpenSpec.ofChange fnExactCommonPointsWrong)

/-- 'laws.FnExactStripText': WHATEVER THE INPUT: true; the input reads as it did. -/
def fnExactStripTextSpec : ChangeSpec := { name := "fnExactStripText", fn := fun _ => fun
  | [d] => { results := [.lit (.bool true)], args := [d] }
  | _ => none }
def fnExactStripTextRow : OpenClaim := { program := "ytchekagoaidlpaa", sum := "54973938d2a92b369fa343ae69bbc3d43979e52f8f2b29ef0cb0bb901e1cfb3a", func := "loop.example/g00875/laws.FnExactStripText", spec := "fnExactStripText", recurses := true, apart := false }
def FnExactStripTextSaid : Prop := fnExactStripTextRow.holds Try.pinned (OpenSpec.ofChange fnExactStripTextSpec)

/-- ITS FALSE NEIGHBOUR: 'it returns false'. Refute it at one input. -/
def fnExactStripTextWrong : ChangeSpec := { name := "fnExactStripText", fn := fun _ => fun
  | [d] => { results := [.lit (.bool false)], args := [d] }
  | _ => none }
def FnExactStripTextWrongFalsely : Prop := fnExactStripTextRow.holds Try.pinned (OpenSpec.ofChange fnExactStripTextWrong)

/-- 'laws.FnExactStripsAt': WHATEVER THE INPUT: true; the input reads as it did. -/
def fnExactStripsAtSpec : ChangeSpec := { name := "fnExactStripsAt", fn := fun _ => fun
  | [d1, d2, d3, d4] => { results := [.lit (.bool true)], args := [d1, d2, d3, d4] }
  | _ => none }
def fnExactStripsAtRow : OpenClaim := { program := "ytchekagoaidlpaa", sum := "54973938d2a92b369fa343ae69bbc3d43979e52f8f2b29ef0cb0bb901e1cfb3a", func := "loop.example/g00875/laws.FnExactStripsAt", spec := "fnExactStripsAt", apart := false }
def FnExactStripsAtSaid : Prop := fnExactStripsAtRow.holds Try.pinned (OpenSpec.ofChange fnExactStripsAtSpec)

/-- ITS FALSE NEIGHBOUR: 'it returns false'. Refute it at one input. -/
def fnExactStripsAtWrong : ChangeSpec := { name := "fnExactStripsAt", fn := fun _ => fun
  | [d1, d2, d3, d4] => { results := [.lit (.bool false)], args := [d1, d2, d3, d4] }
  | _ => none }
def FnExactStripsAtWrongFalsely : Prop := fnExactStripsAtRow.holds Try.pinned (OpenSpec.ofChange fnExactStripsAtWrong)

/-- 'laws.FnExactOrderStrips': WHATEVER THE INPUT: true; the input reads as it did. -/
def fnExactOrderStripsSpec : ChangeSpec := { name := "fnExactOrderStrips", fn := fun _ => fun
  | [d] => { results := [.lit (.bool true)], args := [d] }
  | _ => none }
def fnExactOrderStripsRow : OpenClaim := { program := "ytchekagoaidlpaa", sum := "54973938d2a92b369fa343ae69bbc3d43979e52f8f2b29ef0cb0bb901e1cfb3a", func := "loop.example/g00875/laws.FnExactOrderStrips", spec := "fnExactOrderStrips", apart := false }
def FnExactOrderStripsSaid : Prop := fnExactOrderStripsRow.holds Try.pinned (OpenSpec.ofChange fnExactOrderStripsSpec)

/-- ITS FALSE NEIGHBOUR: 'it returns false'. Refute it at one input. -/
def fnExactOrderStripsWrong : ChangeSpec := { name := "fnExactOrderStrips", fn := fun _ => fun
  | [d] => { results := [.lit (.bool false)], args := [d] }
  | _ => none }
def FnExactOrderStripsWrongFalsely : Prop := fnExactOrderStripsRow.holds Try.pinned (OpenSpec.ofChange fnExactOrderStripsWrong)

/-- 'laws.FnExactParseStrip': WHATEVER THE INPUT: true; the input reads as it did. -/
def fnExactParseStripSpec : ChangeSpec := { name := "fnExactParseStrip", fn := fun _ => fun
  | [d] => { results := [.lit (.bool true)], args := [d] }
  | _ => none }
def fnExactParseStripRow : OpenClaim := { program := "ytchekagoaidlpaa", sum := "54973938d2a92b369fa343ae69bbc3d43979e52f8f2b29ef0cb0bb901e1cfb3a", func := "loop.example/g00875/laws.FnExactParseStrip", spec := "fnExactParseStrip", recurses := true, apart := false }
def FnExactParseStripSaid : Prop := fnExactParseStripRow.holds Try.pinned (OpenSpec.ofChange fnExactParseStripSpec)

/-- ITS FALSE NEIGHBOUR: 'it returns false'. Refute it at one input. -/
def fnExactParseStripWrong : ChangeSpec := { name := "fnExactParseStrip", fn := fun _ => fun
  | [d] => { results := [.lit (.bool false)], args := [d] }
  | _ => none }
def FnExactParseStripWrongFalsely : Prop := fnExactParseStripRow.holds Try.pinned (OpenSpec.ofChange fnExactParseStripWrong)

/-- 'laws.FnStripLists': WHATEVER THE INPUT: true; the input reads as it did. -/
def fnStripListsSpec : ChangeSpec := { name := "fnStripLists", fn := fun _ => fun
  | [d] => { results := [.lit (.bool true)], args := [d] }
  | _ => none }
def fnStripListsRow : OpenClaim := { program := "ytchekagoaidlpaa", sum := "54973938d2a92b369fa343ae69bbc3d43979e52f8f2b29ef0cb0bb901e1cfb3a", func := "loop.example/g00875/laws.FnStripLists", spec := "fnStripLists", recurses := true, apart := false }
def FnStripListsSaid : Prop := fnStripListsRow.holds Try.pinned (OpenSpec.ofChange fnStripListsSpec)

/-- ITS FALSE NEIGHBOUR: 'it returns false'. Refute it at one input. -/
def fnStripListsWrong : ChangeSpec := { name := "fnStripLists", fn := fun _ => fun
  | [d] => { results := [.lit (.bool false)], args := [d] }
  | _ => none }
def FnStripListsWrongFalsely : Prop := fnStripListsRow.holds Try.pinned (OpenSpec.ofChange fnStripListsWrong)

/-- 'laws.FnStrips': WHATEVER THE INPUT: true; the input reads as it did. -/
def fnStripsSpec : ChangeSpec := { name := "fnStrips", fn := fun _ => fun
  | [d] => { results := [.lit (.bool true)], args := [d] }
  | _ => none }
def fnStripsRow : OpenClaim := { program := "ytchekagoaidlpaa", sum := "54973938d2a92b369fa343ae69bbc3d43979e52f8f2b29ef0cb0bb901e1cfb3a", func := "loop.example/g00875/laws.FnStrips", spec := "fnStrips", recurses := true, apart := false }
def FnStripsSaid : Prop := fnStripsRow.holds Try.pinned (OpenSpec.ofChange fnStripsSpec)

/-- ITS FALSE NEIGHBOUR: 'it returns false'. Refute it at one input. -/
def fnStripsWrong : ChangeSpec := { name := "fnStrips", fn := fun _ => fun
  | [d] => { results := [.lit (.bool false)], args := [d] }
  | _ => none }
def FnStripsWrongFalsely : Prop := fnStripsRow.holds Try.pinned (OpenSpec.ofChange fnStripsWrong)

/- THE SECOND FORM. 'bulk': how many values and letters a reading holds, each counted each time it is reached (what is shared counts as often as it is met; a slice's spare places count too). A statement '..UptoSaid' is the law's where the arguments, and the package variables that the reading takes, are together of bulk at most 1048576: NARROWER than '..Said'. Prove '..Said' where nothing that the law and all that it calls make is longer than what came in: it says more and counts as full. Else prove '..UptoSaid'. A law counts once. -/
mutual
def uptoBulk {H : Type} : DataW H → Nat
  | .lit (.string bytes) => bytes.length + 1
  | .lit _ => 1
  | .nil => 1
  | .ptr d => uptoBulk d + 1
  | .slice elems spare => uptoBulkAll elems + uptoBulkAll spare + 1
  | .agg parts => uptoBulkAll parts + 1
  | .iface _ d => uptoBulk d + 1
  | .map entries => uptoBulkEntries entries + 1
  | .held _ => 1
def uptoBulkAll {H : Type} : List (DataW H) → Nat
  | [] => 0
  | d :: r => uptoBulk d + uptoBulkAll r
def uptoBulkEntries {H : Type} : List (Lit × DataW H) → Nat
  | [] => 0
  | x :: r => uptoBulkEntry x + uptoBulkEntries r
def uptoBulkEntry {H : Type} : Lit × DataW H → Nat
  | (.string bytes, d) => bytes.length + uptoBulk d + 1
  | (_, d) => uptoBulk d + 1
 end
def uptoSmall : (H : Type) → List (DataW H) → Bool := fun _ ds => decide (uptoBulkAll ds ≤ 1048576)
def OpenSpec.upto (s : _root_.Go.ChangeSpec) : _root_.Go.OpenSpec := { _root_.Go.OpenSpec.ofChange s with cond := some uptoSmall }

/-- 'laws.FnExactIsValidStrip', WHERE WHAT IT READS IS OF BULK AT MOST 1048576: true; the input reads as it did. -/
def fnExactIsValidStripUptoRow : OpenClaim := { program := "ytchekagoaidlpaa", sum := "54973938d2a92b369fa343ae69bbc3d43979e52f8f2b29ef0cb0bb901e1cfb3a", func := "loop.example/g00875/laws.FnExactIsValidStrip", spec := "fnExactIsValidStrip", apart := false, narrowed := true }
def FnExactIsValidStripUptoSaid : Prop := fnExactIsValidStripUptoRow.holds Try.pinned (OpenSpec.upto fnExactIsValidStripSpec)

/-- 'laws.FnExactViaPoint', WHERE WHAT IT READS IS OF BULK AT MOST 1048576: true; the input reads as it did. -/
def fnExactViaPointUptoRow : OpenClaim := { program := "ytchekagoaidlpaa", sum := "54973938d2a92b369fa343ae69bbc3d43979e52f8f2b29ef0cb0bb901e1cfb3a", func := "loop.example/g00875/laws.FnExactViaPoint", spec := "fnExactViaPoint", apart := false, narrowed := true }
def FnExactViaPointUptoSaid : Prop := fnExactViaPointUptoRow.holds Try.pinned (OpenSpec.upto fnExactViaPointSpec)

/-- 'laws.FnExactCutRoute', WHERE WHAT IT READS IS OF BULK AT MOST 1048576: true; the input reads as it did. -/
def fnExactCutRouteUptoRow : OpenClaim := { program := "ytchekagoaidlpaa", sum := "54973938d2a92b369fa343ae69bbc3d43979e52f8f2b29ef0cb0bb901e1cfb3a", func := "loop.example/g00875/laws.FnExactCutRoute", spec := "fnExactCutRoute", apart := false, narrowed := true }
def FnExactCutRouteUptoSaid : Prop := fnExactCutRouteUptoRow.holds Try.pinned (OpenSpec.upto fnExactCutRouteSpec)

/-- 'laws.FnExactDelayStrip', WHERE WHAT IT READS IS OF BULK AT MOST 1048576: true; the input reads as it did. -/
def fnExactDelayStripUptoRow : OpenClaim := { program := "ytchekagoaidlpaa", sum := "54973938d2a92b369fa343ae69bbc3d43979e52f8f2b29ef0cb0bb901e1cfb3a", func := "loop.example/g00875/laws.FnExactDelayStrip", spec := "fnExactDelayStrip", apart := false, narrowed := true }
def FnExactDelayStripUptoSaid : Prop := fnExactDelayStripUptoRow.holds Try.pinned (OpenSpec.upto fnExactDelayStripSpec)

/-- 'laws.FnExactCommonPoints', WHERE WHAT IT READS IS OF BULK AT MOST 1048576: true; the input reads as it did. -/
def fnExactCommonPointsUptoRow : OpenClaim := { program := "ytchekagoaidlpaa", sum := "54973938d2a92b369fa343ae69bbc3d43979e52f8f2b29ef0cb0bb901e1cfb3a", func := "loop.example/g00875/laws.FnExactCommonPoints", spec := "fnExactCommonPoints", apart := false, narrowed := true }
def FnExactCommonPointsUptoSaid : Prop := fnExactCommonPointsUptoRow.holds Try.pinned (OpenSpec.upto fnExactCommonPointsSpec)

/-- 'laws.FnExactStripText', WHERE WHAT IT READS IS OF BULK AT MOST 1048576: true; the input reads as it did. -/
def fnExactStripTextUptoRow : OpenClaim := { program := "ytchekagoaidlpaa", sum := "54973938d2a92b369fa343ae69bbc3d43979e52f8f2b29ef0cb0bb901e1cfb3a", func := "loop.example/g00875/laws.FnExactStripText", spec := "fnExactStripText", recurses := true, apart := false, narrowed := true }
def FnExactStripTextUptoSaid : Prop := fnExactStripTextUptoRow.holds Try.pinned (OpenSpec.upto fnExactStripTextSpec)

/-- 'laws.FnExactStripsAt', WHERE WHAT IT READS IS OF BULK AT MOST 1048576: true; the input reads as it did. -/
def fnExactStripsAtUptoRow : OpenClaim := { program := "ytchekagoaidlpaa", sum := "54973938d2a92b369fa343ae69bbc3d43979e52f8f2b29ef0cb0bb901e1cfb3a", func := "loop.example/g00875/laws.FnExactStripsAt", spec := "fnExactStripsAt", apart := false, narrowed := true }
def FnExactStripsAtUptoSaid : Prop := fnExactStripsAtUptoRow.holds Try.pinned (OpenSpec.upto fnExactStripsAtSpec)

/-- 'laws.FnExactOrderStrips', WHERE WHAT IT READS IS OF BULK AT MOST 1048576: true; the input reads as it did. -/
def fnExactOrderStripsUptoRow : OpenClaim := { program := "ytchekagoaidlpaa", sum := "54973938d2a92b369fa343ae69bbc3d43979e52f8f2b29ef0cb0bb901e1cfb3a", func := "loop.example/g00875/laws.FnExactOrderStrips", spec := "fnExactOrderStrips", apart := false, narrowed := true }
def FnExactOrderStripsUptoSaid : Prop := fnExactOrderStripsUptoRow.holds Try.pinned (OpenSpec.upto fnExactOrderStripsSpec)

/-- 'laws.FnExactParseStrip', WHERE WHAT IT READS IS OF BULK AT MOST 1048576: true; the input reads as it did. -/
def fnExactParseStripUptoRow : OpenClaim := { program := "ytchekagoaidlpaa", sum := "54973938d2a92b369fa343ae69bbc3d43979e52f8f2b29ef0cb0bb901e1cfb3a", func := "loop.example/g00875/laws.FnExactParseStrip", spec := "fnExactParseStrip", recurses := true, apart := false, narrowed := true }
def FnExactParseStripUptoSaid : Prop := fnExactParseStripUptoRow.holds Try.pinned (OpenSpec.upto fnExactParseStripSpec)

/-- 'laws.FnStripLists', WHERE WHAT IT READS IS OF BULK AT MOST 1048576: true; the input reads as it did. -/
def fnStripListsUptoRow : OpenClaim := { program := "ytchekagoaidlpaa", sum := "54973938d2a92b369fa343ae69bbc3d43979e52f8f2b29ef0cb0bb901e1cfb3a", func := "loop.example/g00875/laws.FnStripLists", spec := "fnStripLists", recurses := true, apart := false, narrowed := true }
def FnStripListsUptoSaid : Prop := fnStripListsUptoRow.holds Try.pinned (OpenSpec.upto fnStripListsSpec)

/-- 'laws.FnStrips', WHERE WHAT IT READS IS OF BULK AT MOST 1048576: true; the input reads as it did. -/
def fnStripsUptoRow : OpenClaim := { program := "ytchekagoaidlpaa", sum := "54973938d2a92b369fa343ae69bbc3d43979e52f8f2b29ef0cb0bb901e1cfb3a", func := "loop.example/g00875/laws.FnStrips", spec := "fnStrips", recurses := true, apart := false, narrowed := true }
def FnStripsUptoSaid : Prop := fnStripsUptoRow.holds Try.pinned (OpenSpec.upto fnStripsSpec)

end Rows
end Go.Proofs.Ytchekagoaidlpaa
