/-
  No cell of these rows narrows 'for every input' (looked for: loops, veiled, ifaces, maps, wideKeys, modest, calm, conditions, laid).
  DERIVED. THE GIVEN ROWS OF THIS SEAT. 8 by the template 'for every input the law returns true; each argument reads behind the call as it read before'; 0 by the template 'total and deterministic' (their statements: YtnhdcbhcocgjhaaGreatTotals.lean).
  GIVEN WITH THE SEED: the statements are not yours to turn. If you find one false, say at which input.
  Laid BY PROGRAM, IN A SANDBOX (cutbox-rows.mjs): the forced cells as the released guide's own fill.sh prints them over the translation 8ad1c30350dec988… (all of the seat's roots in one cut). By AI agents, Wed Nov 11 2026. No macro, syntax, notation, axiom, sorry.
-/
import Derived.Test.YtnhdcbhcocgjhaaGreatChecked
import GoSem.Claim
import GoSem.ClaimJoined
import GoSem.ClaimMapViews
import Derived.JoinedTies
import Derived.KernelRfl
namespace Go.Proofs.YtnhdcbhcocgjhaaGreat
/- THE CELL 'sum', in the pinned program and in every row, IS THE sha256 OF THE DUMP (.gsa) THAT YtnhdcbhcocgjhaaGreatProg.lean LOADS. Nothing in Lean hashes anything: it is a label: what it is worth is what the hold of that sum in a sandbox is worth. -/
noncomputable def Tryz.pinned : Pinned := { name := "ytnhdcbhcocgjhaagreat", sum := "8ad1c30350dec988cfa8cef551bf31f15705117b68a42013ecf5b54d4effdc0e", checked := Tryz.checked }
namespace Rows
def none {H : Type} : Left H := { results := [], args := [] }

/-- 'laws.FnExactComplete': WHATEVER THE INPUT: true; the input reads as it did. -/
def fnExactCompleteSpec : ChangeSpec := { name := "fnExactComplete", fn := fun _ => fun
  | [d1, d2, d3, d4] => { results := [.lit (.bool true)], args := [d1, d2, d3, d4] }
  | _ => none }
def fnExactCompleteRow : OpenClaim := { program := "ytnhdcbhcocgjhaagreat", sum := "8ad1c30350dec988cfa8cef551bf31f15705117b68a42013ecf5b54d4effdc0e", func := "loop.example/g00965/laws.FnExactComplete", spec := "fnExactComplete", inPlace := ["slices.overlaps[loop.example/g00965/impl.Entry]"], unfollowed := true, recurses := true, apart := false }
def FnExactCompleteSaid : Prop := fnExactCompleteRow.holds Tryz.pinned (OpenSpec.ofChange fnExactCompleteSpec)

/-- ITS FALSE NEIGHBOUR: 'it returns false'. Refute it at one input. -/
def fnExactCompleteWrong : ChangeSpec := { name := "fnExactComplete", fn := fun _ => fun
  | [d1, d2, d3, d4] => { results := [.lit (.bool false)], args := [d1, d2, d3, d4] }
  | _ => none }
def FnExactCompleteWrongFalsely : Prop := fnExactCompleteRow.holds Tryz.pinned (OpenSpec.ofChange fnExactCompleteWrong)

/-- 'laws.FnExactFail': WHATEVER THE INPUT: true; the input reads as it did. -/
def fnExactFailSpec : ChangeSpec := { name := "fnExactFail", fn := fun _ => fun
  | [d1, d2, d3, d4] => { results := [.lit (.bool true)], args := [d1, d2, d3, d4] }
  | _ => none }
def fnExactFailRow : OpenClaim := { program := "ytnhdcbhcocgjhaagreat", sum := "8ad1c30350dec988cfa8cef551bf31f15705117b68a42013ecf5b54d4effdc0e", func := "loop.example/g00965/laws.FnExactFail", spec := "fnExactFail", inPlace := ["slices.overlaps[loop.example/g00965/impl.Entry]"], unfollowed := true, recurses := true, apart := false }
def FnExactFailSaid : Prop := fnExactFailRow.holds Tryz.pinned (OpenSpec.ofChange fnExactFailSpec)

/-- ITS FALSE NEIGHBOUR: 'it returns false'. Refute it at one input. -/
def fnExactFailWrong : ChangeSpec := { name := "fnExactFail", fn := fun _ => fun
  | [d1, d2, d3, d4] => { results := [.lit (.bool false)], args := [d1, d2, d3, d4] }
  | _ => none }
def FnExactFailWrongFalsely : Prop := fnExactFailRow.holds Tryz.pinned (OpenSpec.ofChange fnExactFailWrong)

/-- 'laws.FnExactTick': WHATEVER THE INPUT: true; the input reads as it did. -/
def fnExactTickSpec : ChangeSpec := { name := "fnExactTick", fn := fun _ => fun
  | [d] => { results := [.lit (.bool true)], args := [d] }
  | _ => none }
def fnExactTickRow : OpenClaim := { program := "ytnhdcbhcocgjhaagreat", sum := "8ad1c30350dec988cfa8cef551bf31f15705117b68a42013ecf5b54d4effdc0e", func := "loop.example/g00965/laws.FnExactTick", spec := "fnExactTick", inPlace := ["slices.overlaps[loop.example/g00965/impl.Entry]"], unfollowed := true, recurses := true, apart := false }
def FnExactTickSaid : Prop := fnExactTickRow.holds Tryz.pinned (OpenSpec.ofChange fnExactTickSpec)

/-- ITS FALSE NEIGHBOUR: 'it returns false'. Refute it at one input. -/
def fnExactTickWrong : ChangeSpec := { name := "fnExactTick", fn := fun _ => fun
  | [d] => { results := [.lit (.bool false)], args := [d] }
  | _ => none }
def FnExactTickWrongFalsely : Prop := fnExactTickRow.holds Tryz.pinned (OpenSpec.ofChange fnExactTickWrong)

/-- 'laws.FnExactRestart': WHATEVER THE INPUT: true; the input reads as it did. -/
def fnExactRestartSpec : ChangeSpec := { name := "fnExactRestart", fn := fun _ => fun
  | [d] => { results := [.lit (.bool true)], args := [d] }
  | _ => none }
def fnExactRestartRow : OpenClaim := { program := "ytnhdcbhcocgjhaagreat", sum := "8ad1c30350dec988cfa8cef551bf31f15705117b68a42013ecf5b54d4effdc0e", func := "loop.example/g00965/laws.FnExactRestart", spec := "fnExactRestart", inPlace := ["slices.overlaps[loop.example/g00965/impl.Entry]"], unfollowed := true, recurses := true, apart := false }
def FnExactRestartSaid : Prop := fnExactRestartRow.holds Tryz.pinned (OpenSpec.ofChange fnExactRestartSpec)

/-- ITS FALSE NEIGHBOUR: 'it returns false'. Refute it at one input. -/
def fnExactRestartWrong : ChangeSpec := { name := "fnExactRestart", fn := fun _ => fun
  | [d] => { results := [.lit (.bool false)], args := [d] }
  | _ => none }
def FnExactRestartWrongFalsely : Prop := fnExactRestartRow.holds Tryz.pinned (OpenSpec.ofChange fnExactRestartWrong)

/-- 'laws.FnExactPoll': WHATEVER THE INPUT: true; the input reads as it did. -/
def fnExactPollSpec : ChangeSpec := { name := "fnExactPoll", fn := fun _ => fun
  | [d1, d2, d3] => { results := [.lit (.bool true)], args := [d1, d2, d3] }
  | _ => none }
def fnExactPollRow : OpenClaim := { program := "ytnhdcbhcocgjhaagreat", sum := "8ad1c30350dec988cfa8cef551bf31f15705117b68a42013ecf5b54d4effdc0e", func := "loop.example/g00965/laws.FnExactPoll", spec := "fnExactPoll", inPlace := ["slices.overlaps[loop.example/g00965/impl.Entry]"], unfollowed := true, recurses := true, apart := false }
def FnExactPollSaid : Prop := fnExactPollRow.holds Tryz.pinned (OpenSpec.ofChange fnExactPollSpec)

/-- ITS FALSE NEIGHBOUR: 'it returns false'. Refute it at one input. -/
def fnExactPollWrong : ChangeSpec := { name := "fnExactPoll", fn := fun _ => fun
  | [d1, d2, d3] => { results := [.lit (.bool false)], args := [d1, d2, d3] }
  | _ => none }
def FnExactPollWrongFalsely : Prop := fnExactPollRow.holds Tryz.pinned (OpenSpec.ofChange fnExactPollWrong)

/-- 'laws.FnExactForget': WHATEVER THE INPUT: true; the input reads as it did. -/
def fnExactForgetSpec : ChangeSpec := { name := "fnExactForget", fn := fun _ => fun
  | [d1, d2] => { results := [.lit (.bool true)], args := [d1, d2] }
  | _ => none }
def fnExactForgetRow : OpenClaim := { program := "ytnhdcbhcocgjhaagreat", sum := "8ad1c30350dec988cfa8cef551bf31f15705117b68a42013ecf5b54d4effdc0e", func := "loop.example/g00965/laws.FnExactForget", spec := "fnExactForget", unfollowed := true, recurses := true, apart := false }
def FnExactForgetSaid : Prop := fnExactForgetRow.holds Tryz.pinned (OpenSpec.ofChange fnExactForgetSpec)

/-- ITS FALSE NEIGHBOUR: 'it returns false'. Refute it at one input. -/
def fnExactForgetWrong : ChangeSpec := { name := "fnExactForget", fn := fun _ => fun
  | [d1, d2] => { results := [.lit (.bool false)], args := [d1, d2] }
  | _ => none }
def FnExactForgetWrongFalsely : Prop := fnExactForgetRow.holds Tryz.pinned (OpenSpec.ofChange fnExactForgetWrong)

/-- 'laws.FnExactShut': WHATEVER THE INPUT: true; the input reads as it did. -/
def fnExactShutSpec : ChangeSpec := { name := "fnExactShut", fn := fun _ => fun
  | [d] => { results := [.lit (.bool true)], args := [d] }
  | _ => none }
def fnExactShutRow : OpenClaim := { program := "ytnhdcbhcocgjhaagreat", sum := "8ad1c30350dec988cfa8cef551bf31f15705117b68a42013ecf5b54d4effdc0e", func := "loop.example/g00965/laws.FnExactShut", spec := "fnExactShut", unfollowed := true, recurses := true, apart := false }
def FnExactShutSaid : Prop := fnExactShutRow.holds Tryz.pinned (OpenSpec.ofChange fnExactShutSpec)

/-- ITS FALSE NEIGHBOUR: 'it returns false'. Refute it at one input. -/
def fnExactShutWrong : ChangeSpec := { name := "fnExactShut", fn := fun _ => fun
  | [d] => { results := [.lit (.bool false)], args := [d] }
  | _ => none }
def FnExactShutWrongFalsely : Prop := fnExactShutRow.holds Tryz.pinned (OpenSpec.ofChange fnExactShutWrong)

/-- 'laws.FnExactCommit': WHATEVER THE INPUT: true; the input reads as it did. -/
def fnExactCommitSpec : ChangeSpec := { name := "fnExactCommit", fn := fun _ => fun
  | [d] => { results := [.lit (.bool true)], args := [d] }
  | _ => none }
def fnExactCommitRow : OpenClaim := { program := "ytnhdcbhcocgjhaagreat", sum := "8ad1c30350dec988cfa8cef551bf31f15705117b68a42013ecf5b54d4effdc0e", func := "loop.example/g00965/laws.FnExactCommit", spec := "fnExactCommit", unfollowed := true, recurses := true, apart := false }
def FnExactCommitSaid : Prop := fnExactCommitRow.holds Tryz.pinned (OpenSpec.ofChange fnExactCommitSpec)

/-- ITS FALSE NEIGHBOUR: 'it returns false'. Refute it at one input. -/
def fnExactCommitWrong : ChangeSpec := { name := "fnExactCommit", fn := fun _ => fun
  | [d] => { results := [.lit (.bool false)], args := [d] }
  | _ => none }
def FnExactCommitWrongFalsely : Prop := fnExactCommitRow.holds Tryz.pinned (OpenSpec.ofChange fnExactCommitWrong)

/- THE SECOND FORM. 'bulk': how many values and letters a reading holds, each counted each time it is reached (what is shared counts as often as it is met; a slice's spare places count too). A statement '..UptoSaid' is the law's where the arguments, and the package variables that the reading takes, are together of bulk at most 1048576: NARROWER than '..Said'. Prove '..Said' where nothing that the law and all that it calls make is longer than what came in: it says more and counts as full. Else prove '..UptoSaid'. A law counts once. -/
mutual
def uptoBulk {H : Type} : DataW H → Nat
  | .lit (.string bytes) => bytes.length + 1
  | .lit _ => 1
  | .nil => 1
  | .ptr d => uptoBulk d + 1
  | .slice elems spare => uptoBulkAll elems + uptoBulkAll spare + 1
  | .agg parts => uptoBulkAll parts + 1
  | .iface _ d => uptoBulk d + 1
  | .map entries => uptoBulkEntries entries + 1
  | .held _ => 1
def uptoBulkAll {H : Type} : List (DataW H) → Nat
  | [] => 0
  | d :: r => uptoBulk d + uptoBulkAll r
def uptoBulkEntries {H : Type} : List (Lit × DataW H) → Nat
  | [] => 0
  | x :: r => uptoBulkEntry x + uptoBulkEntries r
def uptoBulkEntry {H : Type} : Lit × DataW H → Nat
  | (.string bytes, d) => bytes.length + uptoBulk d + 1
  | (_, d) => uptoBulk d + 1
 end
def uptoSmall : (H : Type) → List (DataW H) → Bool := fun _ ds => decide (uptoBulkAll ds ≤ 1048576)
def OpenSpec.upto (s : _root_.Go.ChangeSpec) : _root_.Go.OpenSpec := { _root_.Go.OpenSpec.ofChange s with cond := some uptoSmall }

/-- 'laws.FnExactComplete', WHERE WHAT IT READS IS OF BULK AT MOST 1048576: true; the input reads as it did. -/
def fnExactCompleteUptoRow : OpenClaim := { program := "ytnhdcbhcocgjhaagreat", sum := "8ad1c30350dec988cfa8cef551bf31f15705117b68a42013ecf5b54d4effdc0e", func := "loop.example/g00965/laws.FnExactComplete", spec := "fnExactComplete", inPlace := ["slices.overlaps[loop.example/g00965/impl.Entry]"], unfollowed := true, recurses := true, apart := false, narrowed := true }
def FnExactCompleteUptoSaid : Prop := fnExactCompleteUptoRow.holds Tryz.pinned (OpenSpec.upto fnExactCompleteSpec)

/-- 'laws.FnExactFail', WHERE WHAT IT READS IS OF BULK AT MOST 1048576: true; the input reads as it did. -/
def fnExactFailUptoRow : OpenClaim := { program := "ytnhdcbhcocgjhaagreat", sum := "8ad1c30350dec988cfa8cef551bf31f15705117b68a42013ecf5b54d4effdc0e", func := "loop.example/g00965/laws.FnExactFail", spec := "fnExactFail", inPlace := ["slices.overlaps[loop.example/g00965/impl.Entry]"], unfollowed := true, recurses := true, apart := false, narrowed := true }
def FnExactFailUptoSaid : Prop := fnExactFailUptoRow.holds Tryz.pinned (OpenSpec.upto fnExactFailSpec)

/-- 'laws.FnExactTick', WHERE WHAT IT READS IS OF BULK AT MOST 1048576: true; the input reads as it did. -/
def fnExactTickUptoRow : OpenClaim := { program := "ytnhdcbhcocgjhaagreat", sum := "8ad1c30350dec988cfa8cef551bf31f15705117b68a42013ecf5b54d4effdc0e", func := "loop.example/g00965/laws.FnExactTick", spec := "fnExactTick", inPlace := ["slices.overlaps[loop.example/g00965/impl.Entry]"], unfollowed := true, recurses := true, apart := false, narrowed := true }
def FnExactTickUptoSaid : Prop := fnExactTickUptoRow.holds Tryz.pinned (OpenSpec.upto fnExactTickSpec)

/-- 'laws.FnExactRestart', WHERE WHAT IT READS IS OF BULK AT MOST 1048576: true; the input reads as it did. -/
def fnExactRestartUptoRow : OpenClaim := { program := "ytnhdcbhcocgjhaagreat", sum := "8ad1c30350dec988cfa8cef551bf31f15705117b68a42013ecf5b54d4effdc0e", func := "loop.example/g00965/laws.FnExactRestart", spec := "fnExactRestart", inPlace := ["slices.overlaps[loop.example/g00965/impl.Entry]"], unfollowed := true, recurses := true, apart := false, narrowed := true }
def FnExactRestartUptoSaid : Prop := fnExactRestartUptoRow.holds Tryz.pinned (OpenSpec.upto fnExactRestartSpec)

/-- 'laws.FnExactPoll', WHERE WHAT IT READS IS OF BULK AT MOST 1048576: true; the input reads as it did. -/
def fnExactPollUptoRow : OpenClaim := { program := "ytnhdcbhcocgjhaagreat", sum := "8ad1c30350dec988cfa8cef551bf31f15705117b68a42013ecf5b54d4effdc0e", func := "loop.example/g00965/laws.FnExactPoll", spec := "fnExactPoll", inPlace := ["slices.overlaps[loop.example/g00965/impl.Entry]"], unfollowed := true, recurses := true, apart := false, narrowed := true }
def FnExactPollUptoSaid : Prop := fnExactPollUptoRow.holds Tryz.pinned (OpenSpec.upto fnExactPollSpec)

/-- 'laws.FnExactForget', WHERE WHAT IT READS IS OF BULK AT MOST 1048576: true; the input reads as it did. -/
def fnExactForgetUptoRow : OpenClaim := { program := "ytnhdcbhcocgjhaagreat", sum := "8ad1c30350dec988cfa8cef551bf31f15705117b68a42013ecf5b54d4effdc0e", func := "loop.example/g00965/laws.FnExactForget", spec := "fnExactForget", unfollowed := true, recurses := true, apart := false, narrowed := true }
def FnExactForgetUptoSaid : Prop := fnExactForgetUptoRow.holds Tryz.pinned (OpenSpec.upto fnExactForgetSpec)

/-- 'laws.FnExactShut', WHERE WHAT IT READS IS OF BULK AT MOST 1048576: true; the input reads as it did. -/
def fnExactShutUptoRow : OpenClaim := { program := "ytnhdcbhcocgjhaagreat", sum := "8ad1c30350dec988cfa8cef551bf31f15705117b68a42013ecf5b54d4effdc0e", func := "loop.example/g00965/laws.FnExactShut", spec := "fnExactShut", unfollowed := true, recurses := true, apart := false, narrowed := true }
def FnExactShutUptoSaid : Prop := fnExactShutUptoRow.holds Tryz.pinned (OpenSpec.upto fnExactShutSpec)

/-- 'laws.FnExactCommit', WHERE WHAT IT READS IS OF BULK AT MOST 1048576: true; the input reads as it did. -/
def fnExactCommitUptoRow : OpenClaim := { program := "ytnhdcbhcocgjhaagreat", sum := "8ad1c30350dec988cfa8cef551bf31f15705117b68a42013ecf5b54d4effdc0e", func := "loop.example/g00965/laws.FnExactCommit", spec := "fnExactCommit", unfollowed := true, recurses := true, apart := false, narrowed := true }
def FnExactCommitUptoSaid : Prop := fnExactCommitUptoRow.holds Tryz.pinned (OpenSpec.upto fnExactCommitSpec)

end Rows
end Go.Proofs.YtnhdcbhcocgjhaaGreat
