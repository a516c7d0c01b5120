/-
  No cell of these rows narrows 'for every input' (looked for: loops, veiled, ifaces, maps, wideKeys, modest, calm, conditions, laid).
  DERIVED. THE GIVEN ROWS OF THIS SEAT. 4 by the template 'for every input the law returns true; each argument reads behind the call as it read before'; 0 by the template 'total and deterministic' (their statements: YtmnpailnelmpiaaTotals.lean).
  GIVEN WITH THE SEED: the statements are not yours to turn. If you find one false, say at which input.
  Laid BY PROGRAM, IN A SANDBOX (cutbox-rows.mjs): the forced cells as the released guide's own fill.sh prints them over the translation 51b26d703c080dd0… (all of the seat's roots in one cut). By AI agents, Wed Nov 11 2026. No macro, syntax, notation, axiom, sorry.
-/
import Derived.Test.YtmnpailnelmpiaaChecked
import GoSem.Claim
import GoSem.ClaimJoined
import GoSem.ClaimMapViews
import Derived.JoinedTies
import Derived.KernelRfl
namespace Go.Proofs.Ytmnpailnelmpiaa
/- THE CELL 'sum', in the pinned program and in every row, IS THE sha256 OF THE DUMP (.gsa) THAT YtmnpailnelmpiaaProg.lean LOADS. Nothing in Lean hashes anything: it is a label: what it is worth is what the hold of that sum in a sandbox is worth. -/
noncomputable def Try.pinned : Pinned := { name := "ytmnpailnelmpiaa", sum := "51b26d703c080dd0241240b3de3d4e0ba43eeeb83ef3c77b473e347e57a8526a", checked := Try.checked }
namespace Rows
def none {H : Type} : Left H := { results := [], args := [] }

/-- 'laws.FnExactReadNote': WHATEVER THE INPUT: true; the input reads as it did. -/
def fnExactReadNoteSpec : ChangeSpec := { name := "fnExactReadNote", fn := fun _ => fun
  | [d] => { results := [.lit (.bool true)], args := [d] }
  | _ => none }
def fnExactReadNoteRow : OpenClaim := { program := "ytmnpailnelmpiaa", sum := "51b26d703c080dd0241240b3de3d4e0ba43eeeb83ef3c77b473e347e57a8526a", func := "loop.example/g00965/laws.FnExactReadNote", spec := "fnExactReadNote", apart := false }
def FnExactReadNoteSaid : Prop := fnExactReadNoteRow.holds Try.pinned (OpenSpec.ofChange fnExactReadNoteSpec)

/-- ITS FALSE NEIGHBOUR: 'it returns false'. Refute it at one input. -/
def fnExactReadNoteWrong : ChangeSpec := { name := "fnExactReadNote", fn := fun _ => fun
  | [d] => { results := [.lit (.bool false)], args := [d] }
  | _ => none }
def FnExactReadNoteWrongFalsely : Prop := fnExactReadNoteRow.holds Try.pinned (OpenSpec.ofChange fnExactReadNoteWrong)

/-- 'laws.FnExactNotesIn': WHATEVER THE INPUT: true; the input reads as it did. -/
def fnExactNotesInSpec : ChangeSpec := { name := "fnExactNotesIn", fn := fun _ => fun
  | [d] => { results := [.lit (.bool true)], args := [d] }
  | _ => none }
def fnExactNotesInRow : OpenClaim := { program := "ytmnpailnelmpiaa", sum := "51b26d703c080dd0241240b3de3d4e0ba43eeeb83ef3c77b473e347e57a8526a", func := "loop.example/g00965/laws.FnExactNotesIn", spec := "fnExactNotesIn", apart := false }
def FnExactNotesInSaid : Prop := fnExactNotesInRow.holds Try.pinned (OpenSpec.ofChange fnExactNotesInSpec)

/-- ITS FALSE NEIGHBOUR: 'it returns false'. Refute it at one input. -/
def fnExactNotesInWrong : ChangeSpec := { name := "fnExactNotesIn", fn := fun _ => fun
  | [d] => { results := [.lit (.bool false)], args := [d] }
  | _ => none }
def FnExactNotesInWrongFalsely : Prop := fnExactNotesInRow.holds Try.pinned (OpenSpec.ofChange fnExactNotesInWrong)

/-- 'laws.FnExactReadYard': WHATEVER THE INPUT: true; the input reads as it did. -/
def fnExactReadYardSpec : ChangeSpec := { name := "fnExactReadYard", fn := fun _ => fun
  | [d] => { results := [.lit (.bool true)], args := [d] }
  | _ => none }
def fnExactReadYardRow : OpenClaim := { program := "ytmnpailnelmpiaa", sum := "51b26d703c080dd0241240b3de3d4e0ba43eeeb83ef3c77b473e347e57a8526a", func := "loop.example/g00965/laws.FnExactReadYard", spec := "fnExactReadYard", unfollowed := true, recurses := true, apart := false }
def FnExactReadYardSaid : Prop := fnExactReadYardRow.holds Try.pinned (OpenSpec.ofChange fnExactReadYardSpec)

/-- ITS FALSE NEIGHBOUR: 'it returns false'. Refute it at one input. -/
def fnExactReadYardWrong : ChangeSpec := { name := "fnExactReadYard", fn := fun _ => fun
  | [d] => { results := [.lit (.bool false)], args := [d] }
  | _ => none }
def FnExactReadYardWrongFalsely : Prop := fnExactReadYardRow.holds Try.pinned (OpenSpec.ofChange fnExactReadYardWrong)

/-- 'laws.FnNotes': WHATEVER THE INPUT: true; the input reads as it did. -/
def fnNotesSpec : ChangeSpec := { name := "fnNotes", fn := fun _ => fun
  | [d] => { results := [.lit (.bool true)], args := [d] }
  | _ => none }
def fnNotesRow : OpenClaim := { program := "ytmnpailnelmpiaa", sum := "51b26d703c080dd0241240b3de3d4e0ba43eeeb83ef3c77b473e347e57a8526a", func := "loop.example/g00965/laws.FnNotes", spec := "fnNotes", apart := false }
def FnNotesSaid : Prop := fnNotesRow.holds Try.pinned (OpenSpec.ofChange fnNotesSpec)

/-- ITS FALSE NEIGHBOUR: 'it returns false'. Refute it at one input. -/
def fnNotesWrong : ChangeSpec := { name := "fnNotes", fn := fun _ => fun
  | [d] => { results := [.lit (.bool false)], args := [d] }
  | _ => none }
def FnNotesWrongFalsely : Prop := fnNotesRow.holds Try.pinned (OpenSpec.ofChange fnNotesWrong)

/- THE SECOND FORM. 'bulk': how many values and letters a reading holds, each counted each time it is reached (what is shared counts as often as it is met; a slice's spare places count too). A statement '..UptoSaid' is the law's where the arguments, and the package variables that the reading takes, are together of bulk at most 1048576: NARROWER than '..Said'. Prove '..Said' where nothing that the law and all that it calls make is longer than what came in: it says more and counts as full. Else prove '..UptoSaid'. A law counts once. -/
mutual
def uptoBulk {H : Type} : DataW H → Nat
  | .lit (.string bytes) => bytes.length + 1
  | .lit _ => 1
  | .nil => 1
  | .ptr d => uptoBulk d + 1
  | .slice elems spare => uptoBulkAll elems + uptoBulkAll spare + 1
  | .agg parts => uptoBulkAll parts + 1
  | .iface _ d => uptoBulk d + 1
  | .map entries => uptoBulkEntries entries + 1
  | .held _ => 1
def uptoBulkAll {H : Type} : List (DataW H) → Nat
  | [] => 0
  | d :: r => uptoBulk d + uptoBulkAll r
def uptoBulkEntries {H : Type} : List (Lit × DataW H) → Nat
  | [] => 0
  | x :: r => uptoBulkEntry x + uptoBulkEntries r
def uptoBulkEntry {H : Type} : Lit × DataW H → Nat
  | (.string bytes, d) => bytes.length + uptoBulk d + 1
  | (_, d) => uptoBulk d + 1
 end
def uptoSmall : (H : Type) → List (DataW H) → Bool := fun _ ds => decide (uptoBulkAll ds ≤ 1048576)
def OpenSpec.upto (s : _root_.Go.ChangeSpec) : _root_.Go.OpenSpec := { _root_.Go.OpenSpec.ofChange s with cond := some uptoSmall }

/-- 'laws.FnExactReadNote', WHERE WHAT IT READS IS OF BULK AT MOST 1048576: true; the input reads as it did. -/
def fnExactReadNoteUptoRow : OpenClaim := { program := "ytmnpailnelmpiaa", sum := "51b26d703c080dd0241240b3de3d4e0ba43eeeb83ef3c77b473e347e57a8526a", func := "loop.example/g00965/laws.FnExactReadNote", spec := "fnExactReadNote", apart := false, narrowed := true }
def FnExactReadNoteUptoSaid : Prop := fnExactReadNoteUptoRow.holds Try.pinned (OpenSpec.upto fnExactReadNoteSpec)

/-- 'laws.FnExactNotesIn', WHERE WHAT IT READS IS OF BULK AT MOST 1048576: true; the input reads as it did. -/
def fnExactNotesInUptoRow : OpenClaim := { program := "ytmnpailnelmpiaa", sum := "51b26d703c080dd0241240b3de3d4e0ba43eeeb83ef3c77b473e347e57a8526a", func := "loop.example/g00965/laws.FnExactNotesIn", spec := "fnExactNotesIn", apart := false, narrowed := true }
def FnExactNotesInUptoSaid : Prop := fnExactNotesInUptoRow.holds Try.pinned (OpenSpec.upto fnExactNotesInSpec)

/-- 'laws.FnExactReadYard', WHERE WHAT IT READS IS OF BULK AT MOST 1048576: true; the input reads as it did. -/
def fnExactReadYardUptoRow : OpenClaim := { program := "ytmnpailnelmpiaa", sum := "51b26d703c080dd0241240b3de3d4e0ba43eeeb83ef3c77b473e347e57a8526a", func := "loop.example/g00965/laws.FnExactReadYard", spec := "fnExactReadYard", unfollowed := true, recurses := true, apart := false, narrowed := true }
def FnExactReadYardUptoSaid : Prop := fnExactReadYardUptoRow.holds Try.pinned (OpenSpec.upto fnExactReadYardSpec)

/-- 'laws.FnNotes', WHERE WHAT IT READS IS OF BULK AT MOST 1048576: true; the input reads as it did. -/
def fnNotesUptoRow : OpenClaim := { program := "ytmnpailnelmpiaa", sum := "51b26d703c080dd0241240b3de3d4e0ba43eeeb83ef3c77b473e347e57a8526a", func := "loop.example/g00965/laws.FnNotes", spec := "fnNotes", apart := false, narrowed := true }
def FnNotesUptoSaid : Prop := fnNotesUptoRow.holds Try.pinned (OpenSpec.upto fnNotesSpec)

end Rows
end Go.Proofs.Ytmnpailnelmpiaa
