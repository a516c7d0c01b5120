/-
  No cell of these rows narrows 'for every input' (looked for: loops, veiled, ifaces, maps, wideKeys, modest, calm, conditions, laid).
  DERIVED. THE GIVEN ROWS OF THIS SEAT. 4 by the template 'for every input the law returns true; each argument reads behind the call as it read before'; 0 by the template 'total and deterministic' (their statements: YtnhdcbhcocgjhaaTotals.lean).
  GIVEN WITH THE SEED: the statements are not yours to turn. If you find one false, say at which input.
  Laid BY PROGRAM, IN A SANDBOX (cutbox-rows.mjs): the forced cells as the released guide's own fill.sh prints them over the translation dd0821bc4fc0cc50… (all of the seat's roots in one cut). By AI agents, Wed Nov 11 2026. No macro, syntax, notation, axiom, sorry.
-/
import Derived.Test.YtnhdcbhcocgjhaaChecked
import GoSem.Claim
import GoSem.ClaimJoined
import GoSem.ClaimMapViews
import Derived.JoinedTies
import Derived.KernelRfl
namespace Go.Proofs.Ytnhdcbhcocgjhaa
/- THE CELL 'sum', in the pinned program and in every row, IS THE sha256 OF THE DUMP (.gsa) THAT YtnhdcbhcocgjhaaProg.lean LOADS. Nothing in Lean hashes anything: it is a label: what it is worth is what the hold of that sum in a sandbox is worth. -/
noncomputable def Try.pinned : Pinned := { name := "ytnhdcbhcocgjhaa", sum := "dd0821bc4fc0cc50d924e086ad2f00be4c26add8e8f20fd3c426d6f7915f3c99", checked := Try.checked }
namespace Rows
def none {H : Type} : Left H := { results := [], args := [] }

/-- 'laws.FnExactEngineNew': WHATEVER THE INPUT: true; the input reads as it did. -/
def fnExactEngineNewSpec : ChangeSpec := { name := "fnExactEngineNew", fn := fun _ => fun
  | [] => { results := [.lit (.bool true)], args := [] }
  | _ => none }
def fnExactEngineNewRow : OpenClaim := { program := "ytnhdcbhcocgjhaa", sum := "dd0821bc4fc0cc50d924e086ad2f00be4c26add8e8f20fd3c426d6f7915f3c99", func := "loop.example/g00965/laws.FnExactEngineNew", spec := "fnExactEngineNew", apart := false }
def FnExactEngineNewSaid : Prop := fnExactEngineNewRow.holds Try.pinned (OpenSpec.ofChange fnExactEngineNewSpec)

/-- ITS FALSE NEIGHBOUR: 'it returns false'. Refute it at one input. -/
def fnExactEngineNewWrong : ChangeSpec := { name := "fnExactEngineNew", fn := fun _ => fun
  | [] => { results := [.lit (.bool false)], args := [] }
  | _ => none }
def FnExactEngineNewWrongFalsely : Prop := fnExactEngineNewRow.holds Try.pinned (OpenSpec.ofChange fnExactEngineNewWrong)

/-- 'laws.FnExactReadNote': WHATEVER THE INPUT: true; the input reads as it did. -/
def fnExactReadNoteSpec : ChangeSpec := { name := "fnExactReadNote", fn := fun _ => fun
  | [d] => { results := [.lit (.bool true)], args := [d] }
  | _ => none }
def fnExactReadNoteRow : OpenClaim := { program := "ytnhdcbhcocgjhaa", sum := "dd0821bc4fc0cc50d924e086ad2f00be4c26add8e8f20fd3c426d6f7915f3c99", func := "loop.example/g00965/laws.FnExactReadNote", spec := "fnExactReadNote", apart := false }
def FnExactReadNoteSaid : Prop := fnExactReadNoteRow.holds Try.pinned (OpenSpec.ofChange fnExactReadNoteSpec)

/-- ITS FALSE NEIGHBOUR: 'it returns false'. Refute it at one input. -/
def fnExactReadNoteWrong : ChangeSpec := { name := "fnExactReadNote", fn := fun _ => fun
  | [d] => { results := [.lit (.bool false)], args := [d] }
  | _ => none }
def FnExactReadNoteWrongFalsely : Prop := fnExactReadNoteRow.holds Try.pinned (OpenSpec.ofChange fnExactReadNoteWrong)

/-- 'laws.FnExactNotesIn': WHATEVER THE INPUT: true; the input reads as it did. -/
def fnExactNotesInSpec : ChangeSpec := { name := "fnExactNotesIn", fn := fun _ => fun
  | [d] => { results := [.lit (.bool true)], args := [d] }
  | _ => none }
def fnExactNotesInRow : OpenClaim := { program := "ytnhdcbhcocgjhaa", sum := "dd0821bc4fc0cc50d924e086ad2f00be4c26add8e8f20fd3c426d6f7915f3c99", func := "loop.example/g00965/laws.FnExactNotesIn", spec := "fnExactNotesIn", apart := false }
def FnExactNotesInSaid : Prop := fnExactNotesInRow.holds Try.pinned (OpenSpec.ofChange fnExactNotesInSpec)

/-- ITS FALSE NEIGHBOUR: 'it returns false'. Refute it at one input. -/
def fnExactNotesInWrong : ChangeSpec := { name := "fnExactNotesIn", fn := fun _ => fun
  | [d] => { results := [.lit (.bool false)], args := [d] }
  | _ => none }
def FnExactNotesInWrongFalsely : Prop := fnExactNotesInRow.holds Try.pinned (OpenSpec.ofChange fnExactNotesInWrong)

/-- 'laws.FnExactBreak': WHATEVER THE INPUT: true; the input reads as it did. -/
def fnExactBreakSpec : ChangeSpec := { name := "fnExactBreak", fn := fun _ => fun
  | [d] => { results := [.lit (.bool true)], args := [d] }
  | _ => none }
def fnExactBreakRow : OpenClaim := { program := "ytnhdcbhcocgjhaa", sum := "dd0821bc4fc0cc50d924e086ad2f00be4c26add8e8f20fd3c426d6f7915f3c99", func := "loop.example/g00965/laws.FnExactBreak", spec := "fnExactBreak", apart := false }
def FnExactBreakSaid : Prop := fnExactBreakRow.holds Try.pinned (OpenSpec.ofChange fnExactBreakSpec)

/-- ITS FALSE NEIGHBOUR: 'it returns false'. Refute it at one input. -/
def fnExactBreakWrong : ChangeSpec := { name := "fnExactBreak", fn := fun _ => fun
  | [d] => { results := [.lit (.bool false)], args := [d] }
  | _ => none }
def FnExactBreakWrongFalsely : Prop := fnExactBreakRow.holds Try.pinned (OpenSpec.ofChange fnExactBreakWrong)

/- THE SECOND FORM. 'bulk': how many values and letters a reading holds, each counted each time it is reached (what is shared counts as often as it is met; a slice's spare places count too). A statement '..UptoSaid' is the law's where the arguments, and the package variables that the reading takes, are together of bulk at most 1048576: NARROWER than '..Said'. Prove '..Said' where nothing that the law and all that it calls make is longer than what came in: it says more and counts as full. Else prove '..UptoSaid'. A law counts once. -/
mutual
def uptoBulk {H : Type} : DataW H → Nat
  | .lit (.string bytes) => bytes.length + 1
  | .lit _ => 1
  | .nil => 1
  | .ptr d => uptoBulk d + 1
  | .slice elems spare => uptoBulkAll elems + uptoBulkAll spare + 1
  | .agg parts => uptoBulkAll parts + 1
  | .iface _ d => uptoBulk d + 1
  | .map entries => uptoBulkEntries entries + 1
  | .held _ => 1
def uptoBulkAll {H : Type} : List (DataW H) → Nat
  | [] => 0
  | d :: r => uptoBulk d + uptoBulkAll r
def uptoBulkEntries {H : Type} : List (Lit × DataW H) → Nat
  | [] => 0
  | x :: r => uptoBulkEntry x + uptoBulkEntries r
def uptoBulkEntry {H : Type} : Lit × DataW H → Nat
  | (.string bytes, d) => bytes.length + uptoBulk d + 1
  | (_, d) => uptoBulk d + 1
 end
def uptoSmall : (H : Type) → List (DataW H) → Bool := fun _ ds => decide (uptoBulkAll ds ≤ 1048576)
def OpenSpec.upto (s : _root_.Go.ChangeSpec) : _root_.Go.OpenSpec := { _root_.Go.OpenSpec.ofChange s with cond := some uptoSmall }

/-- 'laws.FnExactEngineNew', WHERE WHAT IT READS IS OF BULK AT MOST 1048576: true; the input reads as it did. -/
def fnExactEngineNewUptoRow : OpenClaim := { program := "ytnhdcbhcocgjhaa", sum := "dd0821bc4fc0cc50d924e086ad2f00be4c26add8e8f20fd3c426d6f7915f3c99", func := "loop.example/g00965/laws.FnExactEngineNew", spec := "fnExactEngineNew", apart := false, narrowed := true }
def FnExactEngineNewUptoSaid : Prop := fnExactEngineNewUptoRow.holds Try.pinned (OpenSpec.upto fnExactEngineNewSpec)

/-- 'laws.FnExactReadNote', WHERE WHAT IT READS IS OF BULK AT MOST 1048576: true; the input reads as it did. -/
def fnExactReadNoteUptoRow : OpenClaim := { program := "ytnhdcbhcocgjhaa", sum := "dd0821bc4fc0cc50d924e086ad2f00be4c26add8e8f20fd3c426d6f7915f3c99", func := "loop.example/g00965/laws.FnExactReadNote", spec := "fnExactReadNote", apart := false, narrowed := true }
def FnExactReadNoteUptoSaid : Prop := fnExactReadNoteUptoRow.holds Try.pinned (OpenSpec.upto fnExactReadNoteSpec)

/-- 'laws.FnExactNotesIn', WHERE WHAT IT READS IS OF BULK AT MOST 1048576: true; the input reads as it did. -/
def fnExactNotesInUptoRow : OpenClaim := { program := "ytnhdcbhcocgjhaa", sum := "dd0821bc4fc0cc50d924e086ad2f00be4c26add8e8f20fd3c426d6f7915f3c99", func := "loop.example/g00965/laws.FnExactNotesIn", spec := "fnExactNotesIn", apart := false, narrowed := true }
def FnExactNotesInUptoSaid : Prop := fnExactNotesInUptoRow.holds Try.pinned (OpenSpec.upto fnExactNotesInSpec)

/-- 'laws.FnExactBreak', WHERE WHAT IT READS IS OF BULK AT MOST 1048576: true; the input reads as it did. -/
def fnExactBreakUptoRow : OpenClaim := { program := "ytnhdcbhcocgjhaa", sum := "dd0821bc4fc0cc50d924e086ad2f00be4c26add8e8f20fd3c426d6f7915f3c99", func := "loop.example/g00965/laws.FnExactBreak", spec := "fnExactBreak", apart := false, narrowed := true }
def FnExactBreakUptoSaid : Prop := fnExactBreakUptoRow.holds Try.pinned (OpenSpec.upto fnExactBreakSpec)

end Rows
end Go.Proofs.Ytnhdcbhcocgjhaa
