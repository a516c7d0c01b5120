/-
  No cell of these rows narrows 'for every input' (looked for: loops, veiled, ifaces, maps, wideKeys, modest, calm, conditions, laid).
  DERIVED. THE GIVEN ROWS OF THIS SEAT. 8 by the template 'for every input the law returns true; each argument reads behind the call as it read before'; 0 by the template 'total and deterministic' (their statements: YtcehjhiglmifjaaGreatTotals.lean).
  GIVEN WITH THE SEED: the statements are not yours to turn. If you find one false, say at which input.
  Laid BY PROGRAM, IN A SANDBOX (cutbox-rows.mjs): the forced cells as the released guide's own fill.sh prints them over the translation 8e2c94820f63a9fb… (all of the seat's roots in one cut). By AI agents, Wed Nov 11 2026. No macro, syntax, notation, axiom, sorry.
-/
import Derived.Test.YtcehjhiglmifjaaGreatChecked
import GoSem.Claim
import GoSem.ClaimJoined
import GoSem.ClaimMapViews
import Derived.JoinedTies
import Derived.KernelRfl
namespace Go.Proofs.YtcehjhiglmifjaaGreat
/- THE CELL 'sum', in the pinned program and in every row, IS THE sha256 OF THE DUMP (.gsa) THAT YtcehjhiglmifjaaGreatProg.lean LOADS. Nothing in Lean hashes anything: it is a label: what it is worth is what the hold of that sum in a sandbox is worth. -/
noncomputable def Tryz.pinned : Pinned := { name := "ytcehjhiglmifjaagreat", sum := "8e2c94820f63a9fb23491cba71cee3a606a053cc269d9c310b22b7e033e57dc9", checked := Tryz.checked }
namespace Rows
def none {H : Type} : Left H := { results := [], args := [] }

/-- 'laws.FnPolls': WHATEVER THE INPUT: true; the input reads as it did. -/
def fnPollsSpec : ChangeSpec := { name := "fnPolls", fn := fun _ => fun
  | [d] => { results := [.lit (.bool true)], args := [d] }
  | _ => none }
def fnPollsRow : OpenClaim := { program := "ytcehjhiglmifjaagreat", sum := "8e2c94820f63a9fb23491cba71cee3a606a053cc269d9c310b22b7e033e57dc9", func := "loop.example/g00965/laws.FnPolls", spec := "fnPolls", inPlace := ["slices.overlaps[loop.example/g00965/impl.Entry]"], unfollowed := true, recurses := true, apart := false }
def FnPollsSaid : Prop := fnPollsRow.holds Tryz.pinned (OpenSpec.ofChange fnPollsSpec)

/-- ITS FALSE NEIGHBOUR: 'it returns false'. Refute it at one input. -/
def fnPollsWrong : ChangeSpec := { name := "fnPolls", fn := fun _ => fun
  | [d] => { results := [.lit (.bool false)], args := [d] }
  | _ => none }
def FnPollsWrongFalsely : Prop := fnPollsRow.holds Tryz.pinned (OpenSpec.ofChange fnPollsWrong)

/-- 'laws.FnDeeds': WHATEVER THE INPUT: true; the input reads as it did. -/
def fnDeedsSpec : ChangeSpec := { name := "fnDeeds", fn := fun _ => fun
  | [d] => { results := [.lit (.bool true)], args := [d] }
  | _ => none }
def fnDeedsRow : OpenClaim := { program := "ytcehjhiglmifjaagreat", sum := "8e2c94820f63a9fb23491cba71cee3a606a053cc269d9c310b22b7e033e57dc9", func := "loop.example/g00965/laws.FnDeeds", spec := "fnDeeds", inPlace := ["slices.overlaps[loop.example/g00965/impl.Entry]"], unfollowed := true, recurses := true, apart := false }
def FnDeedsSaid : Prop := fnDeedsRow.holds Tryz.pinned (OpenSpec.ofChange fnDeedsSpec)

/-- ITS FALSE NEIGHBOUR: 'it returns false'. Refute it at one input. -/
def fnDeedsWrong : ChangeSpec := { name := "fnDeeds", fn := fun _ => fun
  | [d] => { results := [.lit (.bool false)], args := [d] }
  | _ => none }
def FnDeedsWrongFalsely : Prop := fnDeedsRow.holds Tryz.pinned (OpenSpec.ofChange fnDeedsWrong)

/-- 'laws.FnMarks': WHATEVER THE INPUT: true; the input reads as it did. -/
def fnMarksSpec : ChangeSpec := { name := "fnMarks", fn := fun _ => fun
  | [d] => { results := [.lit (.bool true)], args := [d] }
  | _ => none }
def fnMarksRow : OpenClaim := { program := "ytcehjhiglmifjaagreat", sum := "8e2c94820f63a9fb23491cba71cee3a606a053cc269d9c310b22b7e033e57dc9", func := "loop.example/g00965/laws.FnMarks", spec := "fnMarks", inPlace := ["slices.overlaps[loop.example/g00965/impl.Entry]"], unfollowed := true, recurses := true, apart := false }
def FnMarksSaid : Prop := fnMarksRow.holds Tryz.pinned (OpenSpec.ofChange fnMarksSpec)

/-- ITS FALSE NEIGHBOUR: 'it returns false'. Refute it at one input. -/
def fnMarksWrong : ChangeSpec := { name := "fnMarks", fn := fun _ => fun
  | [d] => { results := [.lit (.bool false)], args := [d] }
  | _ => none }
def FnMarksWrongFalsely : Prop := fnMarksRow.holds Tryz.pinned (OpenSpec.ofChange fnMarksWrong)

/-- 'laws.FnTexts': WHATEVER THE INPUT: true; the input reads as it did. -/
def fnTextsSpec : ChangeSpec := { name := "fnTexts", fn := fun _ => fun
  | [d] => { results := [.lit (.bool true)], args := [d] }
  | _ => none }
def fnTextsRow : OpenClaim := { program := "ytcehjhiglmifjaagreat", sum := "8e2c94820f63a9fb23491cba71cee3a606a053cc269d9c310b22b7e033e57dc9", func := "loop.example/g00965/laws.FnTexts", spec := "fnTexts", unfollowed := true, recurses := true, apart := false }
def FnTextsSaid : Prop := fnTextsRow.holds Tryz.pinned (OpenSpec.ofChange fnTextsSpec)

/-- ITS FALSE NEIGHBOUR: 'it returns false'. Refute it at one input. -/
def fnTextsWrong : ChangeSpec := { name := "fnTexts", fn := fun _ => fun
  | [d] => { results := [.lit (.bool false)], args := [d] }
  | _ => none }
def FnTextsWrongFalsely : Prop := fnTextsRow.holds Tryz.pinned (OpenSpec.ofChange fnTextsWrong)

/-- 'laws.FnSubmits': WHATEVER THE INPUT: true; the input reads as it did. -/
def fnSubmitsSpec : ChangeSpec := { name := "fnSubmits", fn := fun _ => fun
  | [d] => { results := [.lit (.bool true)], args := [d] }
  | _ => none }
def fnSubmitsRow : OpenClaim := { program := "ytcehjhiglmifjaagreat", sum := "8e2c94820f63a9fb23491cba71cee3a606a053cc269d9c310b22b7e033e57dc9", func := "loop.example/g00965/laws.FnSubmits", spec := "fnSubmits", inPlace := ["slices.overlaps[loop.example/g00965/impl.Entry]"], unfollowed := true, recurses := true, apart := false }
def FnSubmitsSaid : Prop := fnSubmitsRow.holds Tryz.pinned (OpenSpec.ofChange fnSubmitsSpec)

/-- ITS FALSE NEIGHBOUR: 'it returns false'. Refute it at one input. -/
def fnSubmitsWrong : ChangeSpec := { name := "fnSubmits", fn := fun _ => fun
  | [d] => { results := [.lit (.bool false)], args := [d] }
  | _ => none }
def FnSubmitsWrongFalsely : Prop := fnSubmitsRow.holds Tryz.pinned (OpenSpec.ofChange fnSubmitsWrong)

/-- 'laws.FnRestarts': WHATEVER THE INPUT: true; the input reads as it did. -/
def fnRestartsSpec : ChangeSpec := { name := "fnRestarts", fn := fun _ => fun
  | [d] => { results := [.lit (.bool true)], args := [d] }
  | _ => none }
def fnRestartsRow : OpenClaim := { program := "ytcehjhiglmifjaagreat", sum := "8e2c94820f63a9fb23491cba71cee3a606a053cc269d9c310b22b7e033e57dc9", func := "loop.example/g00965/laws.FnRestarts", spec := "fnRestarts", inPlace := ["slices.overlaps[loop.example/g00965/impl.Entry]"], unfollowed := true, recurses := true, apart := false }
def FnRestartsSaid : Prop := fnRestartsRow.holds Tryz.pinned (OpenSpec.ofChange fnRestartsSpec)

/-- ITS FALSE NEIGHBOUR: 'it returns false'. Refute it at one input. -/
def fnRestartsWrong : ChangeSpec := { name := "fnRestarts", fn := fun _ => fun
  | [d] => { results := [.lit (.bool false)], args := [d] }
  | _ => none }
def FnRestartsWrongFalsely : Prop := fnRestartsRow.holds Tryz.pinned (OpenSpec.ofChange fnRestartsWrong)

/-- 'laws.FnTicks': WHATEVER THE INPUT: true; the input reads as it did. -/
def fnTicksSpec : ChangeSpec := { name := "fnTicks", fn := fun _ => fun
  | [d] => { results := [.lit (.bool true)], args := [d] }
  | _ => none }
def fnTicksRow : OpenClaim := { program := "ytcehjhiglmifjaagreat", sum := "8e2c94820f63a9fb23491cba71cee3a606a053cc269d9c310b22b7e033e57dc9", func := "loop.example/g00965/laws.FnTicks", spec := "fnTicks", inPlace := ["slices.overlaps[loop.example/g00965/impl.Entry]"], unfollowed := true, recurses := true, apart := false }
def FnTicksSaid : Prop := fnTicksRow.holds Tryz.pinned (OpenSpec.ofChange fnTicksSpec)

/-- ITS FALSE NEIGHBOUR: 'it returns false'. Refute it at one input. -/
def fnTicksWrong : ChangeSpec := { name := "fnTicks", fn := fun _ => fun
  | [d] => { results := [.lit (.bool false)], args := [d] }
  | _ => none }
def FnTicksWrongFalsely : Prop := fnTicksRow.holds Tryz.pinned (OpenSpec.ofChange fnTicksWrong)

/-- 'laws.FnTells': WHATEVER THE INPUT: true; the input reads as it did. -/
def fnTellsSpec : ChangeSpec := { name := "fnTells", fn := fun _ => fun
  | [d] => { results := [.lit (.bool true)], args := [d] }
  | _ => none }
def fnTellsRow : OpenClaim := { program := "ytcehjhiglmifjaagreat", sum := "8e2c94820f63a9fb23491cba71cee3a606a053cc269d9c310b22b7e033e57dc9", func := "loop.example/g00965/laws.FnTells", spec := "fnTells", inPlace := ["slices.overlaps[loop.example/g00965/impl.Entry]"], unfollowed := true, recurses := true, apart := false }
def FnTellsSaid : Prop := fnTellsRow.holds Tryz.pinned (OpenSpec.ofChange fnTellsSpec)

/-- ITS FALSE NEIGHBOUR: 'it returns false'. Refute it at one input. -/
def fnTellsWrong : ChangeSpec := { name := "fnTells", fn := fun _ => fun
  | [d] => { results := [.lit (.bool false)], args := [d] }
  | _ => none }
def FnTellsWrongFalsely : Prop := fnTellsRow.holds Tryz.pinned (OpenSpec.ofChange fnTellsWrong)

/- THE SECOND FORM. 'bulk': how many values and letters a reading holds, each counted each time it is reached (what is shared counts as often as it is met; a slice's spare places count too). A statement '..UptoSaid' is the law's where the arguments, and the package variables that the reading takes, are together of bulk at most 1048576: NARROWER than '..Said'. Prove '..Said' where nothing that the law and all that it calls make is longer than what came in: it says more and counts as full. Else prove '..UptoSaid'. A law counts once. -/
mutual
def uptoBulk {H : Type} : DataW H → Nat
  | .lit (.string bytes) => bytes.length + 1
  | .lit _ => 1
  | .nil => 1
  | .ptr d => uptoBulk d + 1
  | .slice elems spare => uptoBulkAll elems + uptoBulkAll spare + 1
  | .agg parts => uptoBulkAll parts + 1
  | .iface _ d => uptoBulk d + 1
  | .map entries => uptoBulkEntries entries + 1
  | .held _ => 1
def uptoBulkAll {H : Type} : List (DataW H) → Nat
  | [] => 0
  | d :: r => uptoBulk d + uptoBulkAll r
def uptoBulkEntries {H : Type} : List (Lit × DataW H) → Nat
  | [] => 0
  | x :: r => uptoBulkEntry x + uptoBulkEntries r
def uptoBulkEntry {H : Type} : Lit × DataW H → Nat
  | (.string bytes, d) => bytes.length + uptoBulk d + 1
  | (_, d) => uptoBulk d + 1
 end
def uptoSmall : (H : Type) → List (DataW H) → Bool := fun _ ds => decide (uptoBulkAll ds ≤ 1048576)
def OpenSpec.upto (s : _root_.Go.ChangeSpec) : _root_.Go.OpenSpec := { _root_.Go.OpenSpec.ofChange s with cond := some uptoSmall }

/-- 'laws.FnPolls', WHERE WHAT IT READS IS OF BULK AT MOST 1048576: true; the input reads as it did. -/
def fnPollsUptoRow : OpenClaim := { program := "ytcehjhiglmifjaagreat", sum := "8e2c94820f63a9fb23491cba71cee3a606a053cc269d9c310b22b7e033e57dc9", func := "loop.example/g00965/laws.FnPolls", spec := "fnPolls", inPlace := ["slices.overlaps[loop.example/g00965/impl.Entry]"], unfollowed := true, recurses := true, apart := false, narrowed := true }
def FnPollsUptoSaid : Prop := fnPollsUptoRow.holds Tryz.pinned (OpenSpec.upto fnPollsSpec)

/-- 'laws.FnDeeds', WHERE WHAT IT READS IS OF BULK AT MOST 1048576: true; the input reads as it did. -/
def fnDeedsUptoRow : OpenClaim := { program := "ytcehjhiglmifjaagreat", sum := "8e2c94820f63a9fb23491cba71cee3a606a053cc269d9c310b22b7e033e57dc9", func := "loop.example/g00965/laws.FnDeeds", spec := "fnDeeds", inPlace := ["slices.overlaps[loop.example/g00965/impl.Entry]"], unfollowed := true, recurses := true, apart := false, narrowed := true }
def FnDeedsUptoSaid : Prop := fnDeedsUptoRow.holds Tryz.pinned (OpenSpec.upto fnDeedsSpec)

/-- 'laws.FnMarks', WHERE WHAT IT READS IS OF BULK AT MOST 1048576: true; the input reads as it did. -/
def fnMarksUptoRow : OpenClaim := { program := "ytcehjhiglmifjaagreat", sum := "8e2c94820f63a9fb23491cba71cee3a606a053cc269d9c310b22b7e033e57dc9", func := "loop.example/g00965/laws.FnMarks", spec := "fnMarks", inPlace := ["slices.overlaps[loop.example/g00965/impl.Entry]"], unfollowed := true, recurses := true, apart := false, narrowed := true }
def FnMarksUptoSaid : Prop := fnMarksUptoRow.holds Tryz.pinned (OpenSpec.upto fnMarksSpec)

/-- 'laws.FnTexts', WHERE WHAT IT READS IS OF BULK AT MOST 1048576: true; the input reads as it did. -/
def fnTextsUptoRow : OpenClaim := { program := "ytcehjhiglmifjaagreat", sum := "8e2c94820f63a9fb23491cba71cee3a606a053cc269d9c310b22b7e033e57dc9", func := "loop.example/g00965/laws.FnTexts", spec := "fnTexts", unfollowed := true, recurses := true, apart := false, narrowed := true }
def FnTextsUptoSaid : Prop := fnTextsUptoRow.holds Tryz.pinned (OpenSpec.upto fnTextsSpec)

/-- 'laws.FnSubmits', WHERE WHAT IT READS IS OF BULK AT MOST 1048576: true; the input reads as it did. -/
def fnSubmitsUptoRow : OpenClaim := { program := "ytcehjhiglmifjaagreat", sum := "8e2c94820f63a9fb23491cba71cee3a606a053cc269d9c310b22b7e033e57dc9", func := "loop.example/g00965/laws.FnSubmits", spec := "fnSubmits", inPlace := ["slices.overlaps[loop.example/g00965/impl.Entry]"], unfollowed := true, recurses := true, apart := false, narrowed := true }
def FnSubmitsUptoSaid : Prop := fnSubmitsUptoRow.holds Tryz.pinned (OpenSpec.upto fnSubmitsSpec)

/-- 'laws.FnRestarts', WHERE WHAT IT READS IS OF BULK AT MOST 1048576: true; the input reads as it did. -/
def fnRestartsUptoRow : OpenClaim := { program := "ytcehjhiglmifjaagreat", sum := "8e2c94820f63a9fb23491cba71cee3a606a053cc269d9c310b22b7e033e57dc9", func := "loop.example/g00965/laws.FnRestarts", spec := "fnRestarts", inPlace := ["slices.overlaps[loop.example/g00965/impl.Entry]"], unfollowed := true, recurses := true, apart := false, narrowed := true }
def FnRestartsUptoSaid : Prop := fnRestartsUptoRow.holds Tryz.pinned (OpenSpec.upto fnRestartsSpec)

/-- 'laws.FnTicks', WHERE WHAT IT READS IS OF BULK AT MOST 1048576: true; the input reads as it did. -/
def fnTicksUptoRow : OpenClaim := { program := "ytcehjhiglmifjaagreat", sum := "8e2c94820f63a9fb23491cba71cee3a606a053cc269d9c310b22b7e033e57dc9", func := "loop.example/g00965/laws.FnTicks", spec := "fnTicks", inPlace := ["slices.overlaps[loop.example/g00965/impl.Entry]"], unfollowed := true, recurses := true, apart := false, narrowed := true }
def FnTicksUptoSaid : Prop := fnTicksUptoRow.holds Tryz.pinned (OpenSpec.upto fnTicksSpec)

/-- 'laws.FnTells', WHERE WHAT IT READS IS OF BULK AT MOST 1048576: true; the input reads as it did. -/
def fnTellsUptoRow : OpenClaim := { program := "ytcehjhiglmifjaagreat", sum := "8e2c94820f63a9fb23491cba71cee3a606a053cc269d9c310b22b7e033e57dc9", func := "loop.example/g00965/laws.FnTells", spec := "fnTells", inPlace := ["slices.overlaps[loop.example/g00965/impl.Entry]"], unfollowed := true, recurses := true, apart := false, narrowed := true }
def FnTellsUptoSaid : Prop := fnTellsUptoRow.holds Tryz.pinned (OpenSpec.upto fnTellsSpec)

end Rows
end Go.Proofs.YtcehjhiglmifjaaGreat
