/-
  No cell of these rows narrows 'for every input' (looked for: loops, veiled, ifaces, maps, wideKeys, modest, calm, conditions, laid).
  DERIVED. THE GIVEN ROWS OF THIS SEAT. 7 by the template 'for every input the law returns true; each argument reads behind the call as it read before'; 0 by the template 'total and deterministic' (their statements: YtbplebgnkhmemaaGreatTotals.lean).
  GIVEN WITH THE SEED: the statements are not yours to turn. If you find one false, say at which input.
  Laid BY PROGRAM, IN A SANDBOX (cutbox-rows.mjs): the forced cells as the released guide's own fill.sh prints them over the translation 1a0f4f0f208bb160… (all of the seat's roots in one cut). By AI agents, Wed Nov 11 2026. No macro, syntax, notation, axiom, sorry.
-/
import Derived.Test.YtbplebgnkhmemaaGreatChecked
import GoSem.Claim
import GoSem.ClaimJoined
import GoSem.ClaimMapViews
import Derived.JoinedTies
import Derived.KernelRfl
namespace Go.Proofs.YtbplebgnkhmemaaGreat
/- THE CELL 'sum', in the pinned program and in every row, IS THE sha256 OF THE DUMP (.gsa) THAT YtbplebgnkhmemaaGreatProg.lean LOADS. Nothing in Lean hashes anything: it is a label: what it is worth is what the hold of that sum in a sandbox is worth. -/
noncomputable def Tryz.pinned : Pinned := { name := "ytbplebgnkhmemaagreat", sum := "1a0f4f0f208bb160656c88c755fc880be5caa1eda191e2ba4e6a4a9a95734dd8", checked := Tryz.checked }
namespace Rows
def none {H : Type} : Left H := { results := [], args := [] }

/-- 'laws.FnExactMarkText': WHATEVER THE INPUT: true; the input reads as it did. -/
def fnExactMarkTextSpec : ChangeSpec := { name := "fnExactMarkText", fn := fun _ => fun
  | [d1, d2] => { results := [.lit (.bool true)], args := [d1, d2] }
  | _ => none }
def fnExactMarkTextRow : OpenClaim := { program := "ytbplebgnkhmemaagreat", sum := "1a0f4f0f208bb160656c88c755fc880be5caa1eda191e2ba4e6a4a9a95734dd8", func := "loop.example/g00965/laws.FnExactMarkText", spec := "fnExactMarkText", unfollowed := true, recurses := true, apart := false }
def FnExactMarkTextSaid : Prop := fnExactMarkTextRow.holds Tryz.pinned (OpenSpec.ofChange fnExactMarkTextSpec)

/-- ITS FALSE NEIGHBOUR: 'it returns false'. Refute it at one input. -/
def fnExactMarkTextWrong : ChangeSpec := { name := "fnExactMarkText", fn := fun _ => fun
  | [d1, d2] => { results := [.lit (.bool false)], args := [d1, d2] }
  | _ => none }
def FnExactMarkTextWrongFalsely : Prop := fnExactMarkTextRow.holds Tryz.pinned (OpenSpec.ofChange fnExactMarkTextWrong)

/-- 'laws.FnExactCancel': WHATEVER THE INPUT: true; the input reads as it did. -/
def fnExactCancelSpec : ChangeSpec := { name := "fnExactCancel", fn := fun _ => fun
  | [d1, d2] => { results := [.lit (.bool true)], args := [d1, d2] }
  | _ => none }
def fnExactCancelRow : OpenClaim := { program := "ytbplebgnkhmemaagreat", sum := "1a0f4f0f208bb160656c88c755fc880be5caa1eda191e2ba4e6a4a9a95734dd8", func := "loop.example/g00965/laws.FnExactCancel", spec := "fnExactCancel", unfollowed := true, recurses := true, apart := false }
def FnExactCancelSaid : Prop := fnExactCancelRow.holds Tryz.pinned (OpenSpec.ofChange fnExactCancelSpec)

/-- ITS FALSE NEIGHBOUR: 'it returns false'. Refute it at one input. -/
def fnExactCancelWrong : ChangeSpec := { name := "fnExactCancel", fn := fun _ => fun
  | [d1, d2] => { results := [.lit (.bool false)], args := [d1, d2] }
  | _ => none }
def FnExactCancelWrongFalsely : Prop := fnExactCancelRow.holds Tryz.pinned (OpenSpec.ofChange fnExactCancelWrong)

/-- 'laws.FnExactRestart': WHATEVER THE INPUT: true; the input reads as it did. -/
def fnExactRestartSpec : ChangeSpec := { name := "fnExactRestart", fn := fun _ => fun
  | [d] => { results := [.lit (.bool true)], args := [d] }
  | _ => none }
def fnExactRestartRow : OpenClaim := { program := "ytbplebgnkhmemaagreat", sum := "1a0f4f0f208bb160656c88c755fc880be5caa1eda191e2ba4e6a4a9a95734dd8", func := "loop.example/g00965/laws.FnExactRestart", spec := "fnExactRestart", inPlace := ["slices.overlaps[loop.example/g00965/impl.Entry]"], unfollowed := true, recurses := true, apart := false }
def FnExactRestartSaid : Prop := fnExactRestartRow.holds Tryz.pinned (OpenSpec.ofChange fnExactRestartSpec)

/-- ITS FALSE NEIGHBOUR: 'it returns false'. Refute it at one input. -/
def fnExactRestartWrong : ChangeSpec := { name := "fnExactRestart", fn := fun _ => fun
  | [d] => { results := [.lit (.bool false)], args := [d] }
  | _ => none }
def FnExactRestartWrongFalsely : Prop := fnExactRestartRow.holds Tryz.pinned (OpenSpec.ofChange fnExactRestartWrong)

/-- 'laws.FnExactSubmit': WHATEVER THE INPUT: true; the input reads as it did. -/
def fnExactSubmitSpec : ChangeSpec := { name := "fnExactSubmit", fn := fun _ => fun
  | [d1, d2, d3] => { results := [.lit (.bool true)], args := [d1, d2, d3] }
  | _ => none }
def fnExactSubmitRow : OpenClaim := { program := "ytbplebgnkhmemaagreat", sum := "1a0f4f0f208bb160656c88c755fc880be5caa1eda191e2ba4e6a4a9a95734dd8", func := "loop.example/g00965/laws.FnExactSubmit", spec := "fnExactSubmit", inPlace := ["slices.overlaps[loop.example/g00965/impl.Entry]"], unfollowed := true, recurses := true, apart := false }
def FnExactSubmitSaid : Prop := fnExactSubmitRow.holds Tryz.pinned (OpenSpec.ofChange fnExactSubmitSpec)

/-- ITS FALSE NEIGHBOUR: 'it returns false'. Refute it at one input. -/
def fnExactSubmitWrong : ChangeSpec := { name := "fnExactSubmit", fn := fun _ => fun
  | [d1, d2, d3] => { results := [.lit (.bool false)], args := [d1, d2, d3] }
  | _ => none }
def FnExactSubmitWrongFalsely : Prop := fnExactSubmitRow.holds Tryz.pinned (OpenSpec.ofChange fnExactSubmitWrong)

/-- 'laws.FnExactComplete': WHATEVER THE INPUT: true; the input reads as it did. -/
def fnExactCompleteSpec : ChangeSpec := { name := "fnExactComplete", fn := fun _ => fun
  | [d1, d2, d3, d4] => { results := [.lit (.bool true)], args := [d1, d2, d3, d4] }
  | _ => none }
def fnExactCompleteRow : OpenClaim := { program := "ytbplebgnkhmemaagreat", sum := "1a0f4f0f208bb160656c88c755fc880be5caa1eda191e2ba4e6a4a9a95734dd8", func := "loop.example/g00965/laws.FnExactComplete", spec := "fnExactComplete", inPlace := ["slices.overlaps[loop.example/g00965/impl.Entry]"], unfollowed := true, recurses := true, apart := false }
def FnExactCompleteSaid : Prop := fnExactCompleteRow.holds Tryz.pinned (OpenSpec.ofChange fnExactCompleteSpec)

/-- ITS FALSE NEIGHBOUR: 'it returns false'. Refute it at one input. -/
def fnExactCompleteWrong : ChangeSpec := { name := "fnExactComplete", fn := fun _ => fun
  | [d1, d2, d3, d4] => { results := [.lit (.bool false)], args := [d1, d2, d3, d4] }
  | _ => none }
def FnExactCompleteWrongFalsely : Prop := fnExactCompleteRow.holds Tryz.pinned (OpenSpec.ofChange fnExactCompleteWrong)

/-- 'laws.FnExactFail': WHATEVER THE INPUT: true; the input reads as it did. -/
def fnExactFailSpec : ChangeSpec := { name := "fnExactFail", fn := fun _ => fun
  | [d1, d2, d3, d4] => { results := [.lit (.bool true)], args := [d1, d2, d3, d4] }
  | _ => none }
def fnExactFailRow : OpenClaim := { program := "ytbplebgnkhmemaagreat", sum := "1a0f4f0f208bb160656c88c755fc880be5caa1eda191e2ba4e6a4a9a95734dd8", func := "loop.example/g00965/laws.FnExactFail", spec := "fnExactFail", inPlace := ["slices.overlaps[loop.example/g00965/impl.Entry]"], unfollowed := true, recurses := true, apart := false }
def FnExactFailSaid : Prop := fnExactFailRow.holds Tryz.pinned (OpenSpec.ofChange fnExactFailSpec)

/-- ITS FALSE NEIGHBOUR: 'it returns false'. Refute it at one input. -/
def fnExactFailWrong : ChangeSpec := { name := "fnExactFail", fn := fun _ => fun
  | [d1, d2, d3, d4] => { results := [.lit (.bool false)], args := [d1, d2, d3, d4] }
  | _ => none }
def FnExactFailWrongFalsely : Prop := fnExactFailRow.holds Tryz.pinned (OpenSpec.ofChange fnExactFailWrong)

/-- 'laws.FnExactTick': WHATEVER THE INPUT: true; the input reads as it did. -/
def fnExactTickSpec : ChangeSpec := { name := "fnExactTick", fn := fun _ => fun
  | [d] => { results := [.lit (.bool true)], args := [d] }
  | _ => none }
def fnExactTickRow : OpenClaim := { program := "ytbplebgnkhmemaagreat", sum := "1a0f4f0f208bb160656c88c755fc880be5caa1eda191e2ba4e6a4a9a95734dd8", func := "loop.example/g00965/laws.FnExactTick", spec := "fnExactTick", inPlace := ["slices.overlaps[loop.example/g00965/impl.Entry]"], unfollowed := true, recurses := true, apart := false }
def FnExactTickSaid : Prop := fnExactTickRow.holds Tryz.pinned (OpenSpec.ofChange fnExactTickSpec)

/-- ITS FALSE NEIGHBOUR: 'it returns false'. Refute it at one input. -/
def fnExactTickWrong : ChangeSpec := { name := "fnExactTick", fn := fun _ => fun
  | [d] => { results := [.lit (.bool false)], args := [d] }
  | _ => none }
def FnExactTickWrongFalsely : Prop := fnExactTickRow.holds Tryz.pinned (OpenSpec.ofChange fnExactTickWrong)

/- THE SECOND FORM. 'bulk': how many values and letters a reading holds, each counted each time it is reached (what is shared counts as often as it is met; a slice's spare places count too). A statement '..UptoSaid' is the law's where the arguments, and the package variables that the reading takes, are together of bulk at most 1048576: NARROWER than '..Said'. Prove '..Said' where nothing that the law and all that it calls make is longer than what came in: it says more and counts as full. Else prove '..UptoSaid'. A law counts once. -/
mutual
def uptoBulk {H : Type} : DataW H → Nat
  | .lit (.string bytes) => bytes.length + 1
  | .lit _ => 1
  | .nil => 1
  | .ptr d => uptoBulk d + 1
  | .slice elems spare => uptoBulkAll elems + uptoBulkAll spare + 1
  | .agg parts => uptoBulkAll parts + 1
  | .iface _ d => uptoBulk d + 1
  | .map entries => uptoBulkEntries entries + 1
  | .held _ => 1
def uptoBulkAll {H : Type} : List (DataW H) → Nat
  | [] => 0
  | d :: r => uptoBulk d + uptoBulkAll r
def uptoBulkEntries {H : Type} : List (Lit × DataW H) → Nat
  | [] => 0
  | x :: r => uptoBulkEntry x + uptoBulkEntries r
def uptoBulkEntry {H : Type} : Lit × DataW H → Nat
  | (.string bytes, d) => bytes.length + uptoBulk d + 1
  | (_, d) => uptoBulk d + 1
 end
def uptoSmall : (H : Type) → List (DataW H) → Bool := fun _ ds => decide (uptoBulkAll ds ≤ 1048576)
def OpenSpec.upto (s : _root_.Go.ChangeSpec) : _root_.Go.OpenSpec := { _root_.Go.OpenSpec.ofChange s with cond := some uptoSmall }

/-- 'laws.FnExactMarkText', WHERE WHAT IT READS IS OF BULK AT MOST 1048576: true; the input reads as it did. -/
def fnExactMarkTextUptoRow : OpenClaim := { program := "ytbplebgnkhmemaagreat", sum := "1a0f4f0f208bb160656c88c755fc880be5caa1eda191e2ba4e6a4a9a95734dd8", func := "loop.example/g00965/laws.FnExactMarkText", spec := "fnExactMarkText", unfollowed := true, recurses := true, apart := false, narrowed := true }
def FnExactMarkTextUptoSaid : Prop := fnExactMarkTextUptoRow.holds Tryz.pinned (OpenSpec.upto fnExactMarkTextSpec)

/-- 'laws.FnExactCancel', WHERE WHAT IT READS IS OF BULK AT MOST 1048576: true; the input reads as it did. -/
def fnExactCancelUptoRow : OpenClaim := { program := "ytbplebgnkhmemaagreat", sum := "1a0f4f0f208bb160656c88c755fc880be5caa1eda191e2ba4e6a4a9a95734dd8", func := "loop.example/g00965/laws.FnExactCancel", spec := "fnExactCancel", unfollowed := true, recurses := true, apart := false, narrowed := true }
def FnExactCancelUptoSaid : Prop := fnExactCancelUptoRow.holds Tryz.pinned (OpenSpec.upto fnExactCancelSpec)

/-- 'laws.FnExactRestart', WHERE WHAT IT READS IS OF BULK AT MOST 1048576: true; the input reads as it did. -/
def fnExactRestartUptoRow : OpenClaim := { program := "ytbplebgnkhmemaagreat", sum := "1a0f4f0f208bb160656c88c755fc880be5caa1eda191e2ba4e6a4a9a95734dd8", func := "loop.example/g00965/laws.FnExactRestart", spec := "fnExactRestart", inPlace := ["slices.overlaps[loop.example/g00965/impl.Entry]"], unfollowed := true, recurses := true, apart := false, narrowed := true }
def FnExactRestartUptoSaid : Prop := fnExactRestartUptoRow.holds Tryz.pinned (OpenSpec.upto fnExactRestartSpec)

/-- 'laws.FnExactSubmit', WHERE WHAT IT READS IS OF BULK AT MOST 1048576: true; the input reads as it did. -/
def fnExactSubmitUptoRow : OpenClaim := { program := "ytbplebgnkhmemaagreat", sum := "1a0f4f0f208bb160656c88c755fc880be5caa1eda191e2ba4e6a4a9a95734dd8", func := "loop.example/g00965/laws.FnExactSubmit", spec := "fnExactSubmit", inPlace := ["slices.overlaps[loop.example/g00965/impl.Entry]"], unfollowed := true, recurses := true, apart := false, narrowed := true }
def FnExactSubmitUptoSaid : Prop := fnExactSubmitUptoRow.holds Tryz.pinned (OpenSpec.upto fnExactSubmitSpec)

/-- 'laws.FnExactComplete', WHERE WHAT IT READS IS OF BULK AT MOST 1048576: true; the input reads as it did. -/
def fnExactCompleteUptoRow : OpenClaim := { program := "ytbplebgnkhmemaagreat", sum := "1a0f4f0f208bb160656c88c755fc880be5caa1eda191e2ba4e6a4a9a95734dd8", func := "loop.example/g00965/laws.FnExactComplete", spec := "fnExactComplete", inPlace := ["slices.overlaps[loop.example/g00965/impl.Entry]"], unfollowed := true, recurses := true, apart := false, narrowed := true }
def FnExactCompleteUptoSaid : Prop := fnExactCompleteUptoRow.holds Tryz.pinned (OpenSpec.upto fnExactCompleteSpec)

/-- 'laws.FnExactFail', WHERE WHAT IT READS IS OF BULK AT MOST 1048576: true; the input reads as it did. -/
def fnExactFailUptoRow : OpenClaim := { program := "ytbplebgnkhmemaagreat", sum := "1a0f4f0f208bb160656c88c755fc880be5caa1eda191e2ba4e6a4a9a95734dd8", func := "loop.example/g00965/laws.FnExactFail", spec := "fnExactFail", inPlace := ["slices.overlaps[loop.example/g00965/impl.Entry]"], unfollowed := true, recurses := true, apart := false, narrowed := true }
def FnExactFailUptoSaid : Prop := fnExactFailUptoRow.holds Tryz.pinned (OpenSpec.upto fnExactFailSpec)

/-- 'laws.FnExactTick', WHERE WHAT IT READS IS OF BULK AT MOST 1048576: true; the input reads as it did. -/
def fnExactTickUptoRow : OpenClaim := { program := "ytbplebgnkhmemaagreat", sum := "1a0f4f0f208bb160656c88c755fc880be5caa1eda191e2ba4e6a4a9a95734dd8", func := "loop.example/g00965/laws.FnExactTick", spec := "fnExactTick", inPlace := ["slices.overlaps[loop.example/g00965/impl.Entry]"], unfollowed := true, recurses := true, apart := false, narrowed := true }
def FnExactTickUptoSaid : Prop := fnExactTickUptoRow.holds Tryz.pinned (OpenSpec.upto fnExactTickSpec)

end Rows
end Go.Proofs.YtbplebgnkhmemaaGreat
