/-
  No cell of these rows narrows 'for every input' (looked for: loops, veiled, ifaces, maps, wideKeys, modest, calm, conditions, laid).
  DERIVED. THE GIVEN ROWS OF THIS SEAT. 12 by the template 'for every input the law returns true; each argument reads behind the call as it read before'; 0 by the template 'total and deterministic' (their statements: YthobdkipjbamfaaTotals.lean).
  GIVEN WITH THE SEED: the statements are not yours to turn. If you find one false, say at which input.
  Laid BY PROGRAM, IN A SANDBOX (cutbox-rows.mjs): the forced cells as the released guide's own fill.sh prints them over the translation 21a3a68f4ca3e6ec… (all of the seat's roots in one cut). By AI agents, Wed Nov 11 2026. No macro, syntax, notation, axiom, sorry.
-/
import Derived.Test.YthobdkipjbamfaaChecked
import GoSem.Claim
import GoSem.ClaimJoined
import GoSem.ClaimMapViews
import Derived.JoinedTies
import Derived.KernelRfl
namespace Go.Proofs.Ythobdkipjbamfaa
/- THE CELL 'sum', in the pinned program and in every row, IS THE sha256 OF THE DUMP (.gsa) THAT YthobdkipjbamfaaProg.lean LOADS. Nothing in Lean hashes anything: it is a label: what it is worth is what the hold of that sum in a sandbox is worth. -/
noncomputable def Try.pinned : Pinned := { name := "ythobdkipjbamfaa", sum := "21a3a68f4ca3e6ecef4a5e3b2e21370ba959f4f37f19b1cd7fbdae1f1c677448", checked := Try.checked }
namespace Rows
def none {H : Type} : Left H := { results := [], args := [] }

/-- 'laws.FnExactOverOf': WHATEVER THE INPUT: true; the input reads as it did. -/
def fnExactOverOfSpec : ChangeSpec := { name := "fnExactOverOf", fn := fun _ => fun
  | [d] => { results := [.lit (.bool true)], args := [d] }
  | _ => none }
def fnExactOverOfRow : OpenClaim := { program := "ythobdkipjbamfaa", sum := "21a3a68f4ca3e6ecef4a5e3b2e21370ba959f4f37f19b1cd7fbdae1f1c677448", func := "loop.example/g00965/laws.FnExactOverOf", spec := "fnExactOverOf", apart := false }
def FnExactOverOfSaid : Prop := fnExactOverOfRow.holds Try.pinned (OpenSpec.ofChange fnExactOverOfSpec)

/-- ITS FALSE NEIGHBOUR: 'it returns false'. Refute it at one input. -/
def fnExactOverOfWrong : ChangeSpec := { name := "fnExactOverOf", fn := fun _ => fun
  | [d] => { results := [.lit (.bool false)], args := [d] }
  | _ => none }
def FnExactOverOfWrongFalsely : Prop := fnExactOverOfRow.holds Try.pinned (OpenSpec.ofChange fnExactOverOfWrong)

/-- 'laws.FnExactReadNote': WHATEVER THE INPUT: true; the input reads as it did. -/
def fnExactReadNoteSpec : ChangeSpec := { name := "fnExactReadNote", fn := fun _ => fun
  | [d] => { results := [.lit (.bool true)], args := [d] }
  | _ => none }
def fnExactReadNoteRow : OpenClaim := { program := "ythobdkipjbamfaa", sum := "21a3a68f4ca3e6ecef4a5e3b2e21370ba959f4f37f19b1cd7fbdae1f1c677448", func := "loop.example/g00965/laws.FnExactReadNote", spec := "fnExactReadNote", apart := false }
def FnExactReadNoteSaid : Prop := fnExactReadNoteRow.holds Try.pinned (OpenSpec.ofChange fnExactReadNoteSpec)

/-- ITS FALSE NEIGHBOUR: 'it returns false'. Refute it at one input. -/
def fnExactReadNoteWrong : ChangeSpec := { name := "fnExactReadNote", fn := fun _ => fun
  | [d] => { results := [.lit (.bool false)], args := [d] }
  | _ => none }
def FnExactReadNoteWrongFalsely : Prop := fnExactReadNoteRow.holds Try.pinned (OpenSpec.ofChange fnExactReadNoteWrong)

/-- 'laws.FnExactNotesText': WHATEVER THE INPUT: true; the input reads as it did. -/
def fnExactNotesTextSpec : ChangeSpec := { name := "fnExactNotesText", fn := fun _ => fun
  | [d] => { results := [.lit (.bool true)], args := [d] }
  | _ => none }
def fnExactNotesTextRow : OpenClaim := { program := "ythobdkipjbamfaa", sum := "21a3a68f4ca3e6ecef4a5e3b2e21370ba959f4f37f19b1cd7fbdae1f1c677448", func := "loop.example/g00965/laws.FnExactNotesText", spec := "fnExactNotesText", apart := false }
def FnExactNotesTextSaid : Prop := fnExactNotesTextRow.holds Try.pinned (OpenSpec.ofChange fnExactNotesTextSpec)

/-- ITS FALSE NEIGHBOUR: 'it returns false'. Refute it at one input. -/
def fnExactNotesTextWrong : ChangeSpec := { name := "fnExactNotesText", fn := fun _ => fun
  | [d] => { results := [.lit (.bool false)], args := [d] }
  | _ => none }
def FnExactNotesTextWrongFalsely : Prop := fnExactNotesTextRow.holds Try.pinned (OpenSpec.ofChange fnExactNotesTextWrong)

/-- 'laws.FnExactLateOf': WHATEVER THE INPUT: true; the input reads as it did. -/
def fnExactLateOfSpec : ChangeSpec := { name := "fnExactLateOf", fn := fun _ => fun
  | [d] => { results := [.lit (.bool true)], args := [d] }
  | _ => none }
def fnExactLateOfRow : OpenClaim := { program := "ythobdkipjbamfaa", sum := "21a3a68f4ca3e6ecef4a5e3b2e21370ba959f4f37f19b1cd7fbdae1f1c677448", func := "loop.example/g00965/laws.FnExactLateOf", spec := "fnExactLateOf", apart := false }
def FnExactLateOfSaid : Prop := fnExactLateOfRow.holds Try.pinned (OpenSpec.ofChange fnExactLateOfSpec)

/-- ITS FALSE NEIGHBOUR: 'it returns false'. Refute it at one input. -/
def fnExactLateOfWrong : ChangeSpec := { name := "fnExactLateOf", fn := fun _ => fun
  | [d] => { results := [.lit (.bool false)], args := [d] }
  | _ => none }
def FnExactLateOfWrongFalsely : Prop := fnExactLateOfRow.holds Try.pinned (OpenSpec.ofChange fnExactLateOfWrong)

/-- 'laws.FnExactReadyOf': WHATEVER THE INPUT: true; the input reads as it did. -/
def fnExactReadyOfSpec : ChangeSpec := { name := "fnExactReadyOf", fn := fun _ => fun
  | [d] => { results := [.lit (.bool true)], args := [d] }
  | _ => none }
def fnExactReadyOfRow : OpenClaim := { program := "ythobdkipjbamfaa", sum := "21a3a68f4ca3e6ecef4a5e3b2e21370ba959f4f37f19b1cd7fbdae1f1c677448", func := "loop.example/g00965/laws.FnExactReadyOf", spec := "fnExactReadyOf", unfollowed := true, recurses := true, apart := false }
def FnExactReadyOfSaid : Prop := fnExactReadyOfRow.holds Try.pinned (OpenSpec.ofChange fnExactReadyOfSpec)

/-- ITS FALSE NEIGHBOUR: 'it returns false'. Refute it at one input. -/
def fnExactReadyOfWrong : ChangeSpec := { name := "fnExactReadyOf", fn := fun _ => fun
  | [d] => { results := [.lit (.bool false)], args := [d] }
  | _ => none }
def FnExactReadyOfWrongFalsely : Prop := fnExactReadyOfRow.holds Try.pinned (OpenSpec.ofChange fnExactReadyOfWrong)

/-- 'laws.FnExactEngineNew': WHATEVER THE INPUT: true; the input reads as it did. -/
def fnExactEngineNewSpec : ChangeSpec := { name := "fnExactEngineNew", fn := fun _ => fun
  | [] => { results := [.lit (.bool true)], args := [] }
  | _ => none }
def fnExactEngineNewRow : OpenClaim := { program := "ythobdkipjbamfaa", sum := "21a3a68f4ca3e6ecef4a5e3b2e21370ba959f4f37f19b1cd7fbdae1f1c677448", func := "loop.example/g00965/laws.FnExactEngineNew", spec := "fnExactEngineNew", apart := false }
def FnExactEngineNewSaid : Prop := fnExactEngineNewRow.holds Try.pinned (OpenSpec.ofChange fnExactEngineNewSpec)

/-- ITS FALSE NEIGHBOUR: 'it returns false'. Refute it at one input. -/
def fnExactEngineNewWrong : ChangeSpec := { name := "fnExactEngineNew", fn := fun _ => fun
  | [] => { results := [.lit (.bool false)], args := [] }
  | _ => none }
def FnExactEngineNewWrongFalsely : Prop := fnExactEngineNewRow.holds Try.pinned (OpenSpec.ofChange fnExactEngineNewWrong)

/-- 'laws.FnExactSwept': WHATEVER THE INPUT: true; the input reads as it did. -/
def fnExactSweptSpec : ChangeSpec := { name := "fnExactSwept", fn := fun _ => fun
  | [d1, d2] => { results := [.lit (.bool true)], args := [d1, d2] }
  | _ => none }
def fnExactSweptRow : OpenClaim := { program := "ythobdkipjbamfaa", sum := "21a3a68f4ca3e6ecef4a5e3b2e21370ba959f4f37f19b1cd7fbdae1f1c677448", func := "loop.example/g00965/laws.FnExactSwept", spec := "fnExactSwept", unfollowed := true, recurses := true, apart := false }
def FnExactSweptSaid : Prop := fnExactSweptRow.holds Try.pinned (OpenSpec.ofChange fnExactSweptSpec)

/-- ITS FALSE NEIGHBOUR: 'it returns false'. Refute it at one input. -/
def fnExactSweptWrong : ChangeSpec := { name := "fnExactSwept", fn := fun _ => fun
  | [d1, d2] => { results := [.lit (.bool false)], args := [d1, d2] }
  | _ => none }
def FnExactSweptWrongFalsely : Prop := fnExactSweptRow.holds Try.pinned (OpenSpec.ofChange fnExactSweptWrong)

/-- 'laws.FnExactNotesIn': WHATEVER THE INPUT: true; the input reads as it did. -/
def fnExactNotesInSpec : ChangeSpec := { name := "fnExactNotesIn", fn := fun _ => fun
  | [d] => { results := [.lit (.bool true)], args := [d] }
  | _ => none }
def fnExactNotesInRow : OpenClaim := { program := "ythobdkipjbamfaa", sum := "21a3a68f4ca3e6ecef4a5e3b2e21370ba959f4f37f19b1cd7fbdae1f1c677448", func := "loop.example/g00965/laws.FnExactNotesIn", spec := "fnExactNotesIn", apart := false }
def FnExactNotesInSaid : Prop := fnExactNotesInRow.holds Try.pinned (OpenSpec.ofChange fnExactNotesInSpec)

/-- ITS FALSE NEIGHBOUR: 'it returns false'. Refute it at one input. -/
def fnExactNotesInWrong : ChangeSpec := { name := "fnExactNotesIn", fn := fun _ => fun
  | [d] => { results := [.lit (.bool false)], args := [d] }
  | _ => none }
def FnExactNotesInWrongFalsely : Prop := fnExactNotesInRow.holds Try.pinned (OpenSpec.ofChange fnExactNotesInWrong)

/-- 'laws.FnExactBreak': WHATEVER THE INPUT: true; the input reads as it did. -/
def fnExactBreakSpec : ChangeSpec := { name := "fnExactBreak", fn := fun _ => fun
  | [d] => { results := [.lit (.bool true)], args := [d] }
  | _ => none }
def fnExactBreakRow : OpenClaim := { program := "ythobdkipjbamfaa", sum := "21a3a68f4ca3e6ecef4a5e3b2e21370ba959f4f37f19b1cd7fbdae1f1c677448", func := "loop.example/g00965/laws.FnExactBreak", spec := "fnExactBreak", apart := false }
def FnExactBreakSaid : Prop := fnExactBreakRow.holds Try.pinned (OpenSpec.ofChange fnExactBreakSpec)

/-- ITS FALSE NEIGHBOUR: 'it returns false'. Refute it at one input. -/
def fnExactBreakWrong : ChangeSpec := { name := "fnExactBreak", fn := fun _ => fun
  | [d] => { results := [.lit (.bool false)], args := [d] }
  | _ => none }
def FnExactBreakWrongFalsely : Prop := fnExactBreakRow.holds Try.pinned (OpenSpec.ofChange fnExactBreakWrong)

/-- 'laws.FnExactRunFails': WHATEVER THE INPUT: true; the input reads as it did. -/
def fnExactRunFailsSpec : ChangeSpec := { name := "fnExactRunFails", fn := fun _ => fun
  | [d1, d2] => { results := [.lit (.bool true)], args := [d1, d2] }
  | _ => none }
def fnExactRunFailsRow : OpenClaim := { program := "ythobdkipjbamfaa", sum := "21a3a68f4ca3e6ecef4a5e3b2e21370ba959f4f37f19b1cd7fbdae1f1c677448", func := "loop.example/g00965/laws.FnExactRunFails", spec := "fnExactRunFails", recurses := true, apart := false }
def FnExactRunFailsSaid : Prop := fnExactRunFailsRow.holds Try.pinned (OpenSpec.ofChange fnExactRunFailsSpec)

/-- ITS FALSE NEIGHBOUR: 'it returns false'. Refute it at one input. -/
def fnExactRunFailsWrong : ChangeSpec := { name := "fnExactRunFails", fn := fun _ => fun
  | [d1, d2] => { results := [.lit (.bool false)], args := [d1, d2] }
  | _ => none }
def FnExactRunFailsWrongFalsely : Prop := fnExactRunFailsRow.holds Try.pinned (OpenSpec.ofChange fnExactRunFailsWrong)

/-- 'laws.FnExactRunDone': WHATEVER THE INPUT: true; the input reads as it did. -/
def fnExactRunDoneSpec : ChangeSpec := { name := "fnExactRunDone", fn := fun _ => fun
  | [d1, d2] => { results := [.lit (.bool true)], args := [d1, d2] }
  | _ => none }
def fnExactRunDoneRow : OpenClaim := { program := "ythobdkipjbamfaa", sum := "21a3a68f4ca3e6ecef4a5e3b2e21370ba959f4f37f19b1cd7fbdae1f1c677448", func := "loop.example/g00965/laws.FnExactRunDone", spec := "fnExactRunDone", recurses := true, apart := false }
def FnExactRunDoneSaid : Prop := fnExactRunDoneRow.holds Try.pinned (OpenSpec.ofChange fnExactRunDoneSpec)

/-- ITS FALSE NEIGHBOUR: 'it returns false'. Refute it at one input. -/
def fnExactRunDoneWrong : ChangeSpec := { name := "fnExactRunDone", fn := fun _ => fun
  | [d1, d2] => { results := [.lit (.bool false)], args := [d1, d2] }
  | _ => none }
def FnExactRunDoneWrongFalsely : Prop := fnExactRunDoneRow.holds Try.pinned (OpenSpec.ofChange fnExactRunDoneWrong)

/-- 'laws.FnExactYardOk': WHATEVER THE INPUT: true; the input reads as it did. -/
def fnExactYardOkSpec : ChangeSpec := { name := "fnExactYardOk", fn := fun _ => fun
  | [d] => { results := [.lit (.bool true)], args := [d] }
  | _ => none }
def fnExactYardOkRow : OpenClaim := { program := "ythobdkipjbamfaa", sum := "21a3a68f4ca3e6ecef4a5e3b2e21370ba959f4f37f19b1cd7fbdae1f1c677448", func := "loop.example/g00965/laws.FnExactYardOk", spec := "fnExactYardOk", unfollowed := true, recurses := true, apart := false }
def FnExactYardOkSaid : Prop := fnExactYardOkRow.holds Try.pinned (OpenSpec.ofChange fnExactYardOkSpec)

/-- ITS FALSE NEIGHBOUR: 'it returns false'. Refute it at one input. -/
def fnExactYardOkWrong : ChangeSpec := { name := "fnExactYardOk", fn := fun _ => fun
  | [d] => { results := [.lit (.bool false)], args := [d] }
  | _ => none }
def FnExactYardOkWrongFalsely : Prop := fnExactYardOkRow.holds Try.pinned (OpenSpec.ofChange fnExactYardOkWrong)

/- THE SECOND FORM. 'bulk': how many values and letters a reading holds, each counted each time it is reached (what is shared counts as often as it is met; a slice's spare places count too). A statement '..UptoSaid' is the law's where the arguments, and the package variables that the reading takes, are together of bulk at most 1048576: NARROWER than '..Said'. Prove '..Said' where nothing that the law and all that it calls make is longer than what came in: it says more and counts as full. Else prove '..UptoSaid'. A law counts once. -/
mutual
def uptoBulk {H : Type} : DataW H → Nat
  | .lit (.string bytes) => bytes.length + 1
  | .lit _ => 1
  | .nil => 1
  | .ptr d => uptoBulk d + 1
  | .slice elems spare => uptoBulkAll elems + uptoBulkAll spare + 1
  | .agg parts => uptoBulkAll parts + 1
  | .iface _ d => uptoBulk d + 1
  | .map entries => uptoBulkEntries entries + 1
  | .held _ => 1
def uptoBulkAll {H : Type} : List (DataW H) → Nat
  | [] => 0
  | d :: r => uptoBulk d + uptoBulkAll r
def uptoBulkEntries {H : Type} : List (Lit × DataW H) → Nat
  | [] => 0
  | x :: r => uptoBulkEntry x + uptoBulkEntries r
def uptoBulkEntry {H : Type} : Lit × DataW H → Nat
  | (.string bytes, d) => bytes.length + uptoBulk d + 1
  | (_, d) => uptoBulk d + 1
 end
def uptoSmall : (H : Type) → List (DataW H) → Bool := fun _ ds => decide (uptoBulkAll ds ≤ 1048576)
def OpenSpec.upto (s : _root_.Go.ChangeSpec) : _root_.Go.OpenSpec := { _root_.Go.OpenSpec.ofChange s with cond := some uptoSmall }

/-- 'laws.FnExactOverOf', WHERE WHAT IT READS IS OF BULK AT MOST 1048576: true; the input reads as it did. -/
def fnExactOverOfUptoRow : OpenClaim := { program := "ythobdkipjbamfaa", sum := "21a3a68f4ca3e6ecef4a5e3b2e21370ba959f4f37f19b1cd7fbdae1f1c677448", func := "loop.example/g00965/laws.FnExactOverOf", spec := "fnExactOverOf", apart := false, narrowed := true }
def FnExactOverOfUptoSaid : Prop := fnExactOverOfUptoRow.holds Try.pinned (OpenSpec.upto fnExactOverOfSpec)

/-- 'laws.FnExactReadNote', WHERE WHAT IT READS IS OF BULK AT MOST 1048576: true; the input reads as it did. -/
def fnExactReadNoteUptoRow : OpenClaim := { program := "ythobdkipjbamfaa", sum := "21a3a68f4ca3e6ecef4a5e3b2e21370ba959f4f37f19b1cd7fbdae1f1c677448", func := "loop.example/g00965/laws.FnExactReadNote", spec := "fnExactReadNote", apart := false, narrowed := true }
def FnExactReadNoteUptoSaid : Prop := fnExactReadNoteUptoRow.holds Try.pinned (OpenSpec.upto fnExactReadNoteSpec)

/-- 'laws.FnExactNotesText', WHERE WHAT IT READS IS OF BULK AT MOST 1048576: true; the input reads as it did. -/
def fnExactNotesTextUptoRow : OpenClaim := { program := "ythobdkipjbamfaa", sum := "21a3a68f4ca3e6ecef4a5e3b2e21370ba959f4f37f19b1cd7fbdae1f1c677448", func := "loop.example/g00965/laws.FnExactNotesText", spec := "fnExactNotesText", apart := false, narrowed := true }
def FnExactNotesTextUptoSaid : Prop := fnExactNotesTextUptoRow.holds Try.pinned (OpenSpec.upto fnExactNotesTextSpec)

/-- 'laws.FnExactLateOf', WHERE WHAT IT READS IS OF BULK AT MOST 1048576: true; the input reads as it did. -/
def fnExactLateOfUptoRow : OpenClaim := { program := "ythobdkipjbamfaa", sum := "21a3a68f4ca3e6ecef4a5e3b2e21370ba959f4f37f19b1cd7fbdae1f1c677448", func := "loop.example/g00965/laws.FnExactLateOf", spec := "fnExactLateOf", apart := false, narrowed := true }
def FnExactLateOfUptoSaid : Prop := fnExactLateOfUptoRow.holds Try.pinned (OpenSpec.upto fnExactLateOfSpec)

/-- 'laws.FnExactReadyOf', WHERE WHAT IT READS IS OF BULK AT MOST 1048576: true; the input reads as it did. -/
def fnExactReadyOfUptoRow : OpenClaim := { program := "ythobdkipjbamfaa", sum := "21a3a68f4ca3e6ecef4a5e3b2e21370ba959f4f37f19b1cd7fbdae1f1c677448", func := "loop.example/g00965/laws.FnExactReadyOf", spec := "fnExactReadyOf", unfollowed := true, recurses := true, apart := false, narrowed := true }
def FnExactReadyOfUptoSaid : Prop := fnExactReadyOfUptoRow.holds Try.pinned (OpenSpec.upto fnExactReadyOfSpec)

/-- 'laws.FnExactEngineNew', WHERE WHAT IT READS IS OF BULK AT MOST 1048576: true; the input reads as it did. -/
def fnExactEngineNewUptoRow : OpenClaim := { program := "ythobdkipjbamfaa", sum := "21a3a68f4ca3e6ecef4a5e3b2e21370ba959f4f37f19b1cd7fbdae1f1c677448", func := "loop.example/g00965/laws.FnExactEngineNew", spec := "fnExactEngineNew", apart := false, narrowed := true }
def FnExactEngineNewUptoSaid : Prop := fnExactEngineNewUptoRow.holds Try.pinned (OpenSpec.upto fnExactEngineNewSpec)

/-- 'laws.FnExactSwept', WHERE WHAT IT READS IS OF BULK AT MOST 1048576: true; the input reads as it did. -/
def fnExactSweptUptoRow : OpenClaim := { program := "ythobdkipjbamfaa", sum := "21a3a68f4ca3e6ecef4a5e3b2e21370ba959f4f37f19b1cd7fbdae1f1c677448", func := "loop.example/g00965/laws.FnExactSwept", spec := "fnExactSwept", unfollowed := true, recurses := true, apart := false, narrowed := true }
def FnExactSweptUptoSaid : Prop := fnExactSweptUptoRow.holds Try.pinned (OpenSpec.upto fnExactSweptSpec)

/-- 'laws.FnExactNotesIn', WHERE WHAT IT READS IS OF BULK AT MOST 1048576: true; the input reads as it did. -/
def fnExactNotesInUptoRow : OpenClaim := { program := "ythobdkipjbamfaa", sum := "21a3a68f4ca3e6ecef4a5e3b2e21370ba959f4f37f19b1cd7fbdae1f1c677448", func := "loop.example/g00965/laws.FnExactNotesIn", spec := "fnExactNotesIn", apart := false, narrowed := true }
def FnExactNotesInUptoSaid : Prop := fnExactNotesInUptoRow.holds Try.pinned (OpenSpec.upto fnExactNotesInSpec)

/-- 'laws.FnExactBreak', WHERE WHAT IT READS IS OF BULK AT MOST 1048576: true; the input reads as it did. -/
def fnExactBreakUptoRow : OpenClaim := { program := "ythobdkipjbamfaa", sum := "21a3a68f4ca3e6ecef4a5e3b2e21370ba959f4f37f19b1cd7fbdae1f1c677448", func := "loop.example/g00965/laws.FnExactBreak", spec := "fnExactBreak", apart := false, narrowed := true }
def FnExactBreakUptoSaid : Prop := fnExactBreakUptoRow.holds Try.pinned (OpenSpec.upto fnExactBreakSpec)

/-- 'laws.FnExactRunFails', WHERE WHAT IT READS IS OF BULK AT MOST 1048576: true; the input reads as it did. -/
def fnExactRunFailsUptoRow : OpenClaim := { program := "ythobdkipjbamfaa", sum := "21a3a68f4ca3e6ecef4a5e3b2e21370ba959f4f37f19b1cd7fbdae1f1c677448", func := "loop.example/g00965/laws.FnExactRunFails", spec := "fnExactRunFails", recurses := true, apart := false, narrowed := true }
def FnExactRunFailsUptoSaid : Prop := fnExactRunFailsUptoRow.holds Try.pinned (OpenSpec.upto fnExactRunFailsSpec)

/-- 'laws.FnExactRunDone', WHERE WHAT IT READS IS OF BULK AT MOST 1048576: true; the input reads as it did. -/
def fnExactRunDoneUptoRow : OpenClaim := { program := "ythobdkipjbamfaa", sum := "21a3a68f4ca3e6ecef4a5e3b2e21370ba959f4f37f19b1cd7fbdae1f1c677448", func := "loop.example/g00965/laws.FnExactRunDone", spec := "fnExactRunDone", recurses := true, apart := false, narrowed := true }
def FnExactRunDoneUptoSaid : Prop := fnExactRunDoneUptoRow.holds Try.pinned (OpenSpec.upto fnExactRunDoneSpec)

/-- 'laws.FnExactYardOk', WHERE WHAT IT READS IS OF BULK AT MOST 1048576: true; the input reads as it did. -/
def fnExactYardOkUptoRow : OpenClaim := { program := "ythobdkipjbamfaa", sum := "21a3a68f4ca3e6ecef4a5e3b2e21370ba959f4f37f19b1cd7fbdae1f1c677448", func := "loop.example/g00965/laws.FnExactYardOk", spec := "fnExactYardOk", unfollowed := true, recurses := true, apart := false, narrowed := true }
def FnExactYardOkUptoSaid : Prop := fnExactYardOkUptoRow.holds Try.pinned (OpenSpec.upto fnExactYardOkSpec)

end Rows
end Go.Proofs.Ythobdkipjbamfaa
