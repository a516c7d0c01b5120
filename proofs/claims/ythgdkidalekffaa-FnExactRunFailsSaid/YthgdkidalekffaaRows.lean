/-
  No cell of these rows narrows 'for every input' (looked for: loops, veiled, ifaces, maps, wideKeys, modest, calm, conditions, laid).
  DERIVED. THE GIVEN ROWS OF THIS SEAT. 5 by the template 'for every input the law returns true; each argument reads behind the call as it read before'; 0 by the template 'total and deterministic' (their statements: YthgdkidalekffaaTotals.lean).
  GIVEN WITH THE SEED: the statements are not yours to turn. If you find one false, say at which input.
  Laid BY PROGRAM, IN A SANDBOX (cutbox-rows.mjs): the forced cells as the released guide's own fill.sh prints them over the translation ddab572178495f5d… (all of the seat's roots in one cut). By AI agents, Wed Nov 11 2026. No macro, syntax, notation, axiom, sorry.
-/
import Derived.Test.YthgdkidalekffaaChecked
import GoSem.Claim
import GoSem.ClaimJoined
import GoSem.ClaimMapViews
import Derived.JoinedTies
import Derived.KernelRfl
namespace Go.Proofs.Ythgdkidalekffaa
/- THE CELL 'sum', in the pinned program and in every row, IS THE sha256 OF THE DUMP (.gsa) THAT YthgdkidalekffaaProg.lean LOADS. Nothing in Lean hashes anything: it is a label: what it is worth is what the hold of that sum in a sandbox is worth. -/
noncomputable def Try.pinned : Pinned := { name := "ythgdkidalekffaa", sum := "ddab572178495f5d980dee47af437a6712284760c0cce5afbf404da07eb4c2af", checked := Try.checked }
namespace Rows
def none {H : Type} : Left H := { results := [], args := [] }

/-- 'laws.FnExactRunFails': WHATEVER THE INPUT: true; the input reads as it did. -/
def fnExactRunFailsSpec : ChangeSpec := { name := "fnExactRunFails", fn := fun _ => fun
  | [d1, d2] => { results := [.lit (.bool true)], args := [d1, d2] }
  | _ => none }
def fnExactRunFailsRow : OpenClaim := { program := "ythgdkidalekffaa", sum := "ddab572178495f5d980dee47af437a6712284760c0cce5afbf404da07eb4c2af", func := "loop.example/g00965/laws.FnExactRunFails", spec := "fnExactRunFails", recurses := true, apart := false }
def FnExactRunFailsSaid : Prop := fnExactRunFailsRow.holds Try.pinned (OpenSpec.ofChange fnExactRunFailsSpec)

/-- ITS FALSE NEIGHBOUR: 'it returns false'. Refute it at one input. -/
def fnExactRunFailsWrong : ChangeSpec := { name := "fnExactRunFails", fn := fun _ => fun
  | [d1, d2] => { results := [.lit (.bool false)], args := [d1, d2] }
  | _ => none }
def FnExactRunFailsWrongFalsely : Prop := fnExactRunFailsRow.holds Try.pinned (OpenSpec.ofChange fnExactRunFailsWrong)

/-- 'laws.FnExactRunDone': WHATEVER THE INPUT: true; the input reads as it did. -/
def fnExactRunDoneSpec : ChangeSpec := { name := "fnExactRunDone", fn := fun _ => fun
  | [d1, d2] => { results := [.lit (.bool true)], args := [d1, d2] }
  | _ => none }
def fnExactRunDoneRow : OpenClaim := { program := "ythgdkidalekffaa", sum := "ddab572178495f5d980dee47af437a6712284760c0cce5afbf404da07eb4c2af", func := "loop.example/g00965/laws.FnExactRunDone", spec := "fnExactRunDone", recurses := true, apart := false }
def FnExactRunDoneSaid : Prop := fnExactRunDoneRow.holds Try.pinned (OpenSpec.ofChange fnExactRunDoneSpec)

/-- ITS FALSE NEIGHBOUR: 'it returns false'. Refute it at one input. -/
def fnExactRunDoneWrong : ChangeSpec := { name := "fnExactRunDone", fn := fun _ => fun
  | [d1, d2] => { results := [.lit (.bool false)], args := [d1, d2] }
  | _ => none }
def FnExactRunDoneWrongFalsely : Prop := fnExactRunDoneRow.holds Try.pinned (OpenSpec.ofChange fnExactRunDoneWrong)

/-- 'laws.FnExactYardOk': WHATEVER THE INPUT: true; the input reads as it did. -/
def fnExactYardOkSpec : ChangeSpec := { name := "fnExactYardOk", fn := fun _ => fun
  | [d] => { results := [.lit (.bool true)], args := [d] }
  | _ => none }
def fnExactYardOkRow : OpenClaim := { program := "ythgdkidalekffaa", sum := "ddab572178495f5d980dee47af437a6712284760c0cce5afbf404da07eb4c2af", func := "loop.example/g00965/laws.FnExactYardOk", spec := "fnExactYardOk", unfollowed := true, recurses := true, apart := false }
def FnExactYardOkSaid : Prop := fnExactYardOkRow.holds Try.pinned (OpenSpec.ofChange fnExactYardOkSpec)

/-- ITS FALSE NEIGHBOUR: 'it returns false'. Refute it at one input. -/
def fnExactYardOkWrong : ChangeSpec := { name := "fnExactYardOk", fn := fun _ => fun
  | [d] => { results := [.lit (.bool false)], args := [d] }
  | _ => none }
def FnExactYardOkWrongFalsely : Prop := fnExactYardOkRow.holds Try.pinned (OpenSpec.ofChange fnExactYardOkWrong)

/-- 'laws.FnExactNotesText': WHATEVER THE INPUT: true; the input reads as it did. -/
def fnExactNotesTextSpec : ChangeSpec := { name := "fnExactNotesText", fn := fun _ => fun
  | [d] => { results := [.lit (.bool true)], args := [d] }
  | _ => none }
def fnExactNotesTextRow : OpenClaim := { program := "ythgdkidalekffaa", sum := "ddab572178495f5d980dee47af437a6712284760c0cce5afbf404da07eb4c2af", func := "loop.example/g00965/laws.FnExactNotesText", spec := "fnExactNotesText", apart := false }
def FnExactNotesTextSaid : Prop := fnExactNotesTextRow.holds Try.pinned (OpenSpec.ofChange fnExactNotesTextSpec)

/-- ITS FALSE NEIGHBOUR: 'it returns false'. Refute it at one input. -/
def fnExactNotesTextWrong : ChangeSpec := { name := "fnExactNotesText", fn := fun _ => fun
  | [d] => { results := [.lit (.bool false)], args := [d] }
  | _ => none }
def FnExactNotesTextWrongFalsely : Prop := fnExactNotesTextRow.holds Try.pinned (OpenSpec.ofChange fnExactNotesTextWrong)

/-- 'laws.FnExactYardText': WHATEVER THE INPUT: true; the input reads as it did. -/
def fnExactYardTextSpec : ChangeSpec := { name := "fnExactYardText", fn := fun _ => fun
  | [d] => { results := [.lit (.bool true)], args := [d] }
  | _ => none }
def fnExactYardTextRow : OpenClaim := { program := "ythgdkidalekffaa", sum := "ddab572178495f5d980dee47af437a6712284760c0cce5afbf404da07eb4c2af", func := "loop.example/g00965/laws.FnExactYardText", spec := "fnExactYardText", unfollowed := true, recurses := true, apart := false }
def FnExactYardTextSaid : Prop := fnExactYardTextRow.holds Try.pinned (OpenSpec.ofChange fnExactYardTextSpec)

/-- ITS FALSE NEIGHBOUR: 'it returns false'. Refute it at one input. -/
def fnExactYardTextWrong : ChangeSpec := { name := "fnExactYardText", fn := fun _ => fun
  | [d] => { results := [.lit (.bool false)], args := [d] }
  | _ => none }
def FnExactYardTextWrongFalsely : Prop := fnExactYardTextRow.holds Try.pinned (OpenSpec.ofChange fnExactYardTextWrong)

/- THE SECOND FORM. 'bulk': how many values and letters a reading holds, each counted each time it is reached (what is shared counts as often as it is met; a slice's spare places count too). A statement '..UptoSaid' is the law's where the arguments, and the package variables that the reading takes, are together of bulk at most 1048576: NARROWER than '..Said'. Prove '..Said' where nothing that the law and all that it calls make is longer than what came in: it says more and counts as full. Else prove '..UptoSaid'. A law counts once. -/
mutual
def uptoBulk {H : Type} : DataW H → Nat
  | .lit (.string bytes) => bytes.length + 1
  | .lit _ => 1
  | .nil => 1
  | .ptr d => uptoBulk d + 1
  | .slice elems spare => uptoBulkAll elems + uptoBulkAll spare + 1
  | .agg parts => uptoBulkAll parts + 1
  | .iface _ d => uptoBulk d + 1
  | .map entries => uptoBulkEntries entries + 1
  | .held _ => 1
def uptoBulkAll {H : Type} : List (DataW H) → Nat
  | [] => 0
  | d :: r => uptoBulk d + uptoBulkAll r
def uptoBulkEntries {H : Type} : List (Lit × DataW H) → Nat
  | [] => 0
  | x :: r => uptoBulkEntry x + uptoBulkEntries r
def uptoBulkEntry {H : Type} : Lit × DataW H → Nat
  | (.string bytes, d) => bytes.length + uptoBulk d + 1
  | (_, d) => uptoBulk d + 1
 end
def uptoSmall : (H : Type) → List (DataW H) → Bool := fun _ ds => decide (uptoBulkAll ds ≤ 1048576)
def OpenSpec.upto (s : _root_.Go.ChangeSpec) : _root_.Go.OpenSpec := { _root_.Go.OpenSpec.ofChange s with cond := some uptoSmall }

/-- 'laws.FnExactRunFails', WHERE WHAT IT READS IS OF BULK AT MOST 1048576: true; the input reads as it did. -/
def fnExactRunFailsUptoRow : OpenClaim := { program := "ythgdkidalekffaa", sum := "ddab572178495f5d980dee47af437a6712284760c0cce5afbf404da07eb4c2af", func := "loop.example/g00965/laws.FnExactRunFails", spec := "fnExactRunFails", recurses := true, apart := false, narrowed := true }
def FnExactRunFailsUptoSaid : Prop := fnExactRunFailsUptoRow.holds Try.pinned (OpenSpec.upto fnExactRunFailsSpec)

/-- 'laws.FnExactRunDone', WHERE WHAT IT READS IS OF BULK AT MOST 1048576: true; the input reads as it did. -/
def fnExactRunDoneUptoRow : OpenClaim := { program := "ythgdkidalekffaa", sum := "ddab572178495f5d980dee47af437a6712284760c0cce5afbf404da07eb4c2af", func := "loop.example/g00965/laws.FnExactRunDone", spec := "fnExactRunDone", recurses := true, apart := false, narrowed := true }
def FnExactRunDoneUptoSaid : Prop := fnExactRunDoneUptoRow.holds Try.pinned (OpenSpec.upto fnExactRunDoneSpec)

/-- 'laws.FnExactYardOk', WHERE WHAT IT READS IS OF BULK AT MOST 1048576: true; the input reads as it did. -/
def fnExactYardOkUptoRow : OpenClaim := { program := "ythgdkidalekffaa", sum := "ddab572178495f5d980dee47af437a6712284760c0cce5afbf404da07eb4c2af", func := "loop.example/g00965/laws.FnExactYardOk", spec := "fnExactYardOk", unfollowed := true, recurses := true, apart := false, narrowed := true }
def FnExactYardOkUptoSaid : Prop := fnExactYardOkUptoRow.holds Try.pinned (OpenSpec.upto fnExactYardOkSpec)

/-- 'laws.FnExactNotesText', WHERE WHAT IT READS IS OF BULK AT MOST 1048576: true; the input reads as it did. -/
def fnExactNotesTextUptoRow : OpenClaim := { program := "ythgdkidalekffaa", sum := "ddab572178495f5d980dee47af437a6712284760c0cce5afbf404da07eb4c2af", func := "loop.example/g00965/laws.FnExactNotesText", spec := "fnExactNotesText", apart := false, narrowed := true }
def FnExactNotesTextUptoSaid : Prop := fnExactNotesTextUptoRow.holds Try.pinned (OpenSpec.upto fnExactNotesTextSpec)

/-- 'laws.FnExactYardText', WHERE WHAT IT READS IS OF BULK AT MOST 1048576: true; the input reads as it did. -/
def fnExactYardTextUptoRow : OpenClaim := { program := "ythgdkidalekffaa", sum := "ddab572178495f5d980dee47af437a6712284760c0cce5afbf404da07eb4c2af", func := "loop.example/g00965/laws.FnExactYardText", spec := "fnExactYardText", unfollowed := true, recurses := true, apart := false, narrowed := true }
def FnExactYardTextUptoSaid : Prop := fnExactYardTextUptoRow.holds Try.pinned (OpenSpec.upto fnExactYardTextSpec)

end Rows
end Go.Proofs.Ythgdkidalekffaa
