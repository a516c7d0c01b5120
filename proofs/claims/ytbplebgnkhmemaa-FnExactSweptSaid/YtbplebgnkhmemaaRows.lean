/-
  No cell of these rows narrows 'for every input' (looked for: loops, veiled, ifaces, maps, wideKeys, modest, calm, conditions, laid).
  DERIVED. THE GIVEN ROWS OF THIS SEAT. 5 by the template 'for every input the law returns true; each argument reads behind the call as it read before'; 0 by the template 'total and deterministic' (their statements: YtbplebgnkhmemaaTotals.lean).
  GIVEN WITH THE SEED: the statements are not yours to turn. If you find one false, say at which input.
  Laid BY PROGRAM, IN A SANDBOX (cutbox-rows.mjs): the forced cells as the released guide's own fill.sh prints them over the translation 64430827e2a45197… (all of the seat's roots in one cut). By AI agents, Wed Nov 11 2026. No macro, syntax, notation, axiom, sorry.
-/
import Derived.Test.YtbplebgnkhmemaaChecked
import GoSem.Claim
import GoSem.ClaimJoined
import GoSem.ClaimMapViews
import Derived.JoinedTies
import Derived.KernelRfl
namespace Go.Proofs.Ytbplebgnkhmemaa
/- THE CELL 'sum', in the pinned program and in every row, IS THE sha256 OF THE DUMP (.gsa) THAT YtbplebgnkhmemaaProg.lean LOADS. Nothing in Lean hashes anything: it is a label: what it is worth is what the hold of that sum in a sandbox is worth. -/
noncomputable def Try.pinned : Pinned := { name := "ytbplebgnkhmemaa", sum := "64430827e2a4519721ff62a4268fa6096b93328bd0a8d0caa43e79a54872a0f8", checked := Try.checked }
namespace Rows
def none {H : Type} : Left H := { results := [], args := [] }

/-- 'laws.FnExactYardOk': WHATEVER THE INPUT: true; the input reads as it did. -/
def fnExactYardOkSpec : ChangeSpec := { name := "fnExactYardOk", fn := fun _ => fun
  | [d] => { results := [.lit (.bool true)], args := [d] }
  | _ => none }
def fnExactYardOkRow : OpenClaim := { program := "ytbplebgnkhmemaa", sum := "64430827e2a4519721ff62a4268fa6096b93328bd0a8d0caa43e79a54872a0f8", func := "loop.example/g00965/laws.FnExactYardOk", spec := "fnExactYardOk", unfollowed := true, recurses := true, apart := false }
def FnExactYardOkSaid : Prop := fnExactYardOkRow.holds Try.pinned (OpenSpec.ofChange fnExactYardOkSpec)

/-- ITS FALSE NEIGHBOUR: 'it returns false'. Refute it at one input. -/
def fnExactYardOkWrong : ChangeSpec := { name := "fnExactYardOk", fn := fun _ => fun
  | [d] => { results := [.lit (.bool false)], args := [d] }
  | _ => none }
def FnExactYardOkWrongFalsely : Prop := fnExactYardOkRow.holds Try.pinned (OpenSpec.ofChange fnExactYardOkWrong)

/-- 'laws.FnExactNotesText': WHATEVER THE INPUT: true; the input reads as it did. -/
def fnExactNotesTextSpec : ChangeSpec := { name := "fnExactNotesText", fn := fun _ => fun
  | [d] => { results := [.lit (.bool true)], args := [d] }
  | _ => none }
def fnExactNotesTextRow : OpenClaim := { program := "ytbplebgnkhmemaa", sum := "64430827e2a4519721ff62a4268fa6096b93328bd0a8d0caa43e79a54872a0f8", func := "loop.example/g00965/laws.FnExactNotesText", spec := "fnExactNotesText", apart := false }
def FnExactNotesTextSaid : Prop := fnExactNotesTextRow.holds Try.pinned (OpenSpec.ofChange fnExactNotesTextSpec)

/-- ITS FALSE NEIGHBOUR: 'it returns false'. Refute it at one input. -/
def fnExactNotesTextWrong : ChangeSpec := { name := "fnExactNotesText", fn := fun _ => fun
  | [d] => { results := [.lit (.bool false)], args := [d] }
  | _ => none }
def FnExactNotesTextWrongFalsely : Prop := fnExactNotesTextRow.holds Try.pinned (OpenSpec.ofChange fnExactNotesTextWrong)

/-- 'laws.FnExactYardText': WHATEVER THE INPUT: true; the input reads as it did. -/
def fnExactYardTextSpec : ChangeSpec := { name := "fnExactYardText", fn := fun _ => fun
  | [d] => { results := [.lit (.bool true)], args := [d] }
  | _ => none }
def fnExactYardTextRow : OpenClaim := { program := "ytbplebgnkhmemaa", sum := "64430827e2a4519721ff62a4268fa6096b93328bd0a8d0caa43e79a54872a0f8", func := "loop.example/g00965/laws.FnExactYardText", spec := "fnExactYardText", unfollowed := true, recurses := true, apart := false }
def FnExactYardTextSaid : Prop := fnExactYardTextRow.holds Try.pinned (OpenSpec.ofChange fnExactYardTextSpec)

/-- ITS FALSE NEIGHBOUR: 'it returns false'. Refute it at one input. -/
def fnExactYardTextWrong : ChangeSpec := { name := "fnExactYardText", fn := fun _ => fun
  | [d] => { results := [.lit (.bool false)], args := [d] }
  | _ => none }
def FnExactYardTextWrongFalsely : Prop := fnExactYardTextRow.holds Try.pinned (OpenSpec.ofChange fnExactYardTextWrong)

/-- 'laws.FnExactSwept': WHATEVER THE INPUT: true; the input reads as it did. -/
def fnExactSweptSpec : ChangeSpec := { name := "fnExactSwept", fn := fun _ => fun
  | [d1, d2] => { results := [.lit (.bool true)], args := [d1, d2] }
  | _ => none }
def fnExactSweptRow : OpenClaim := { program := "ytbplebgnkhmemaa", sum := "64430827e2a4519721ff62a4268fa6096b93328bd0a8d0caa43e79a54872a0f8", func := "loop.example/g00965/laws.FnExactSwept", spec := "fnExactSwept", unfollowed := true, recurses := true, apart := false }
def FnExactSweptSaid : Prop := fnExactSweptRow.holds Try.pinned (OpenSpec.ofChange fnExactSweptSpec)

/-- ITS FALSE NEIGHBOUR: 'it returns false'. Refute it at one input. -/
def fnExactSweptWrong : ChangeSpec := { name := "fnExactSwept", fn := fun _ => fun
  | [d1, d2] => { results := [.lit (.bool false)], args := [d1, d2] }
  | _ => none }
def FnExactSweptWrongFalsely : Prop := fnExactSweptRow.holds Try.pinned (OpenSpec.ofChange fnExactSweptWrong)

/-- 'laws.FnExactEngineNew': WHATEVER THE INPUT: true; the input reads as it did. -/
def fnExactEngineNewSpec : ChangeSpec := { name := "fnExactEngineNew", fn := fun _ => fun
  | [] => { results := [.lit (.bool true)], args := [] }
  | _ => none }
def fnExactEngineNewRow : OpenClaim := { program := "ytbplebgnkhmemaa", sum := "64430827e2a4519721ff62a4268fa6096b93328bd0a8d0caa43e79a54872a0f8", func := "loop.example/g00965/laws.FnExactEngineNew", spec := "fnExactEngineNew", apart := false }
def FnExactEngineNewSaid : Prop := fnExactEngineNewRow.holds Try.pinned (OpenSpec.ofChange fnExactEngineNewSpec)

/-- ITS FALSE NEIGHBOUR: 'it returns false'. Refute it at one input. -/
def fnExactEngineNewWrong : ChangeSpec := { name := "fnExactEngineNew", fn := fun _ => fun
  | [] => { results := [.lit (.bool false)], args := [] }
  | _ => none }
def FnExactEngineNewWrongFalsely : Prop := fnExactEngineNewRow.holds Try.pinned (OpenSpec.ofChange fnExactEngineNewWrong)

/- THE SECOND FORM. 'bulk': how many values and letters a reading holds, each counted each time it is reached (what is shared counts as often as it is met; a slice's spare places count too). A statement '..UptoSaid' is the law's where the arguments, and the package variables that the reading takes, are together of bulk at most 1048576: NARROWER than '..Said'. Prove '..Said' where nothing that the law and all that it calls make is longer than what came in: it says more and counts as full. Else prove '..UptoSaid'. A law counts once. -/
mutual
def uptoBulk {H : Type} : DataW H → Nat
  | .lit (.string bytes) => bytes.length + 1
  | .lit _ => 1
  | .nil => 1
  | .ptr d => uptoBulk d + 1
  | .slice elems spare => uptoBulkAll elems + uptoBulkAll spare + 1
  | .agg parts => uptoBulkAll parts + 1
  | .iface _ d => uptoBulk d + 1
  | .map entries => uptoBulkEntries entries + 1
  | .held _ => 1
def uptoBulkAll {H : Type} : List (DataW H) → Nat
  | [] => 0
  | d :: r => uptoBulk d + uptoBulkAll r
def uptoBulkEntries {H : Type} : List (Lit × DataW H) → Nat
  | [] => 0
  | x :: r => uptoBulkEntry x + uptoBulkEntries r
def uptoBulkEntry {H : Type} : Lit × DataW H → Nat
  | (.string bytes, d) => bytes.length + uptoBulk d + 1
  | (_, d) => uptoBulk d + 1
 end
def uptoSmall : (H : Type) → List (DataW H) → Bool := fun _ ds => decide (uptoBulkAll ds ≤ 1048576)
def OpenSpec.upto (s : _root_.Go.ChangeSpec) : _root_.Go.OpenSpec := { _root_.Go.OpenSpec.ofChange s with cond := some uptoSmall }

/-- 'laws.FnExactYardOk', WHERE WHAT IT READS IS OF BULK AT MOST 1048576: true; the input reads as it did. -/
def fnExactYardOkUptoRow : OpenClaim := { program := "ytbplebgnkhmemaa", sum := "64430827e2a4519721ff62a4268fa6096b93328bd0a8d0caa43e79a54872a0f8", func := "loop.example/g00965/laws.FnExactYardOk", spec := "fnExactYardOk", unfollowed := true, recurses := true, apart := false, narrowed := true }
def FnExactYardOkUptoSaid : Prop := fnExactYardOkUptoRow.holds Try.pinned (OpenSpec.upto fnExactYardOkSpec)

/-- 'laws.FnExactNotesText', WHERE WHAT IT READS IS OF BULK AT MOST 1048576: true; the input reads as it did. -/
def fnExactNotesTextUptoRow : OpenClaim := { program := "ytbplebgnkhmemaa", sum := "64430827e2a4519721ff62a4268fa6096b93328bd0a8d0caa43e79a54872a0f8", func := "loop.example/g00965/laws.FnExactNotesText", spec := "fnExactNotesText", apart := false, narrowed := true }
def FnExactNotesTextUptoSaid : Prop := fnExactNotesTextUptoRow.holds Try.pinned (OpenSpec.upto fnExactNotesTextSpec)

/-- 'laws.FnExactYardText', WHERE WHAT IT READS IS OF BULK AT MOST 1048576: true; the input reads as it did. -/
def fnExactYardTextUptoRow : OpenClaim := { program := "ytbplebgnkhmemaa", sum := "64430827e2a4519721ff62a4268fa6096b93328bd0a8d0caa43e79a54872a0f8", func := "loop.example/g00965/laws.FnExactYardText", spec := "fnExactYardText", unfollowed := true, recurses := true, apart := false, narrowed := true }
def FnExactYardTextUptoSaid : Prop := fnExactYardTextUptoRow.holds Try.pinned (OpenSpec.upto fnExactYardTextSpec)

/-- 'laws.FnExactSwept', WHERE WHAT IT READS IS OF BULK AT MOST 1048576: true; the input reads as it did. -/
def fnExactSweptUptoRow : OpenClaim := { program := "ytbplebgnkhmemaa", sum := "64430827e2a4519721ff62a4268fa6096b93328bd0a8d0caa43e79a54872a0f8", func := "loop.example/g00965/laws.FnExactSwept", spec := "fnExactSwept", unfollowed := true, recurses := true, apart := false, narrowed := true }
def FnExactSweptUptoSaid : Prop := fnExactSweptUptoRow.holds Try.pinned (OpenSpec.upto fnExactSweptSpec)

/-- 'laws.FnExactEngineNew', WHERE WHAT IT READS IS OF BULK AT MOST 1048576: true; the input reads as it did. -/
def fnExactEngineNewUptoRow : OpenClaim := { program := "ytbplebgnkhmemaa", sum := "64430827e2a4519721ff62a4268fa6096b93328bd0a8d0caa43e79a54872a0f8", func := "loop.example/g00965/laws.FnExactEngineNew", spec := "fnExactEngineNew", apart := false, narrowed := true }
def FnExactEngineNewUptoSaid : Prop := fnExactEngineNewUptoRow.holds Try.pinned (OpenSpec.upto fnExactEngineNewSpec)

end Rows
end Go.Proofs.Ytbplebgnkhmemaa
