/-
  No cell of these rows narrows 'for every input' (looked for: loops, veiled, ifaces, maps, wideKeys, modest, calm, conditions, laid).
  DERIVED. THE GIVEN ROWS OF THIS SEAT. 8 by the template 'for every input the law returns true; each argument reads behind the call as it read before'; 0 by the template 'total and deterministic' (their statements: YtmnpailnelmpiaaGreatTotals.lean).
  GIVEN WITH THE SEED: the statements are not yours to turn. If you find one false, say at which input.
  Laid BY PROGRAM, IN A SANDBOX (cutbox-rows.mjs): the forced cells as the released guide's own fill.sh prints them over the translation fef10543c0f6bc79… (all of the seat's roots in one cut). By AI agents, Wed Nov 11 2026. No macro, syntax, notation, axiom, sorry.
-/
import Derived.Test.YtmnpailnelmpiaaGreatChecked
import GoSem.Claim
import GoSem.ClaimJoined
import GoSem.ClaimMapViews
import Derived.JoinedTies
import Derived.KernelRfl
namespace Go.Proofs.YtmnpailnelmpiaaGreat
/- THE CELL 'sum', in the pinned program and in every row, IS THE sha256 OF THE DUMP (.gsa) THAT YtmnpailnelmpiaaGreatProg.lean LOADS. Nothing in Lean hashes anything: it is a label: what it is worth is what the hold of that sum in a sandbox is worth. -/
noncomputable def Tryz.pinned : Pinned := { name := "ytmnpailnelmpiaagreat", sum := "fef10543c0f6bc79e01d897e5024cfb3bf2db780c87ab6cead849b0b168caa9a", checked := Tryz.checked }
namespace Rows
def none {H : Type} : Left H := { results := [], args := [] }

/-- 'laws.FnExactEngineOk': WHATEVER THE INPUT: true; the input reads as it did. -/
def fnExactEngineOkSpec : ChangeSpec := { name := "fnExactEngineOk", fn := fun _ => fun
  | [d] => { results := [.lit (.bool true)], args := [d] }
  | _ => none }
def fnExactEngineOkRow : OpenClaim := { program := "ytmnpailnelmpiaagreat", sum := "fef10543c0f6bc79e01d897e5024cfb3bf2db780c87ab6cead849b0b168caa9a", func := "loop.example/g00965/laws.FnExactEngineOk", spec := "fnExactEngineOk", unfollowed := true, recurses := true, apart := false }
def FnExactEngineOkSaid : Prop := fnExactEngineOkRow.holds Tryz.pinned (OpenSpec.ofChange fnExactEngineOkSpec)

/-- ITS FALSE NEIGHBOUR: 'it returns false'. Refute it at one input. -/
def fnExactEngineOkWrong : ChangeSpec := { name := "fnExactEngineOk", fn := fun _ => fun
  | [d] => { results := [.lit (.bool false)], args := [d] }
  | _ => none }
def FnExactEngineOkWrongFalsely : Prop := fnExactEngineOkRow.holds Tryz.pinned (OpenSpec.ofChange fnExactEngineOkWrong)

/-- 'laws.FnExactCommit': WHATEVER THE INPUT: true; the input reads as it did. -/
def fnExactCommitSpec : ChangeSpec := { name := "fnExactCommit", fn := fun _ => fun
  | [d] => { results := [.lit (.bool true)], args := [d] }
  | _ => none }
def fnExactCommitRow : OpenClaim := { program := "ytmnpailnelmpiaagreat", sum := "fef10543c0f6bc79e01d897e5024cfb3bf2db780c87ab6cead849b0b168caa9a", func := "loop.example/g00965/laws.FnExactCommit", spec := "fnExactCommit", unfollowed := true, recurses := true, apart := false }
def FnExactCommitSaid : Prop := fnExactCommitRow.holds Tryz.pinned (OpenSpec.ofChange fnExactCommitSpec)

/-- ITS FALSE NEIGHBOUR: 'it returns false'. Refute it at one input. -/
def fnExactCommitWrong : ChangeSpec := { name := "fnExactCommit", fn := fun _ => fun
  | [d] => { results := [.lit (.bool false)], args := [d] }
  | _ => none }
def FnExactCommitWrongFalsely : Prop := fnExactCommitRow.holds Tryz.pinned (OpenSpec.ofChange fnExactCommitWrong)

/-- 'laws.FnExactReadMark': WHATEVER THE INPUT: true; the input reads as it did. -/
def fnExactReadMarkSpec : ChangeSpec := { name := "fnExactReadMark", fn := fun _ => fun
  | [d] => { results := [.lit (.bool true)], args := [d] }
  | _ => none }
def fnExactReadMarkRow : OpenClaim := { program := "ytmnpailnelmpiaagreat", sum := "fef10543c0f6bc79e01d897e5024cfb3bf2db780c87ab6cead849b0b168caa9a", func := "loop.example/g00965/laws.FnExactReadMark", spec := "fnExactReadMark", unfollowed := true, recurses := true, apart := false }
def FnExactReadMarkSaid : Prop := fnExactReadMarkRow.holds Tryz.pinned (OpenSpec.ofChange fnExactReadMarkSpec)

/-- ITS FALSE NEIGHBOUR: 'it returns false'. Refute it at one input. -/
def fnExactReadMarkWrong : ChangeSpec := { name := "fnExactReadMark", fn := fun _ => fun
  | [d] => { results := [.lit (.bool false)], args := [d] }
  | _ => none }
def FnExactReadMarkWrongFalsely : Prop := fnExactReadMarkRow.holds Tryz.pinned (OpenSpec.ofChange fnExactReadMarkWrong)

/-- 'laws.FnExactDo': WHATEVER THE INPUT: true; the input reads as it did. -/
def fnExactDoSpec : ChangeSpec := { name := "fnExactDo", fn := fun _ => fun
  | [d1, d2] => { results := [.lit (.bool true)], args := [d1, d2] }
  | _ => none }
def fnExactDoRow : OpenClaim := { program := "ytmnpailnelmpiaagreat", sum := "fef10543c0f6bc79e01d897e5024cfb3bf2db780c87ab6cead849b0b168caa9a", func := "loop.example/g00965/laws.FnExactDo", spec := "fnExactDo", inPlace := ["slices.overlaps[loop.example/g00965/impl.Entry]"], unfollowed := true, recurses := true, apart := false }
def FnExactDoSaid : Prop := fnExactDoRow.holds Tryz.pinned (OpenSpec.ofChange fnExactDoSpec)

/-- ITS FALSE NEIGHBOUR: 'it returns false'. Refute it at one input. -/
def fnExactDoWrong : ChangeSpec := { name := "fnExactDo", fn := fun _ => fun
  | [d1, d2] => { results := [.lit (.bool false)], args := [d1, d2] }
  | _ => none }
def FnExactDoWrongFalsely : Prop := fnExactDoRow.holds Tryz.pinned (OpenSpec.ofChange fnExactDoWrong)

/-- 'laws.FnExactDoAll': WHATEVER THE INPUT: true; the input reads as it did. -/
def fnExactDoAllSpec : ChangeSpec := { name := "fnExactDoAll", fn := fun _ => fun
  | [d1, d2] => { results := [.lit (.bool true)], args := [d1, d2] }
  | _ => none }
def fnExactDoAllRow : OpenClaim := { program := "ytmnpailnelmpiaagreat", sum := "fef10543c0f6bc79e01d897e5024cfb3bf2db780c87ab6cead849b0b168caa9a", func := "loop.example/g00965/laws.FnExactDoAll", spec := "fnExactDoAll", inPlace := ["slices.overlaps[loop.example/g00965/impl.Entry]"], unfollowed := true, recurses := true, apart := false }
def FnExactDoAllSaid : Prop := fnExactDoAllRow.holds Tryz.pinned (OpenSpec.ofChange fnExactDoAllSpec)

/-- ITS FALSE NEIGHBOUR: 'it returns false'. Refute it at one input. -/
def fnExactDoAllWrong : ChangeSpec := { name := "fnExactDoAll", fn := fun _ => fun
  | [d1, d2] => { results := [.lit (.bool false)], args := [d1, d2] }
  | _ => none }
def FnExactDoAllWrongFalsely : Prop := fnExactDoAllRow.holds Tryz.pinned (OpenSpec.ofChange fnExactDoAllWrong)

/-- 'laws.FnExactReplay': WHATEVER THE INPUT: true; the input reads as it did. -/
def fnExactReplaySpec : ChangeSpec := { name := "fnExactReplay", fn := fun _ => fun
  | [d1, d2] => { results := [.lit (.bool true)], args := [d1, d2] }
  | _ => none }
def fnExactReplayRow : OpenClaim := { program := "ytmnpailnelmpiaagreat", sum := "fef10543c0f6bc79e01d897e5024cfb3bf2db780c87ab6cead849b0b168caa9a", func := "loop.example/g00965/laws.FnExactReplay", spec := "fnExactReplay", inPlace := ["slices.overlaps[loop.example/g00965/impl.Entry]"], unfollowed := true, recurses := true, apart := false }
def FnExactReplaySaid : Prop := fnExactReplayRow.holds Tryz.pinned (OpenSpec.ofChange fnExactReplaySpec)

/-- ITS FALSE NEIGHBOUR: 'it returns false'. Refute it at one input. -/
def fnExactReplayWrong : ChangeSpec := { name := "fnExactReplay", fn := fun _ => fun
  | [d1, d2] => { results := [.lit (.bool false)], args := [d1, d2] }
  | _ => none }
def FnExactReplayWrongFalsely : Prop := fnExactReplayRow.holds Tryz.pinned (OpenSpec.ofChange fnExactReplayWrong)

/-- 'laws.FnYards': WHATEVER THE INPUT: true; the input reads as it did. -/
def fnYardsSpec : ChangeSpec := { name := "fnYards", fn := fun _ => fun
  | [d] => { results := [.lit (.bool true)], args := [d] }
  | _ => none }
def fnYardsRow : OpenClaim := { program := "ytmnpailnelmpiaagreat", sum := "fef10543c0f6bc79e01d897e5024cfb3bf2db780c87ab6cead849b0b168caa9a", func := "loop.example/g00965/laws.FnYards", spec := "fnYards", unfollowed := true, recurses := true, apart := false }
def FnYardsSaid : Prop := fnYardsRow.holds Tryz.pinned (OpenSpec.ofChange fnYardsSpec)

/-- ITS FALSE NEIGHBOUR: 'it returns false'. Refute it at one input. -/
def fnYardsWrong : ChangeSpec := { name := "fnYards", fn := fun _ => fun
  | [d] => { results := [.lit (.bool false)], args := [d] }
  | _ => none }
def FnYardsWrongFalsely : Prop := fnYardsRow.holds Tryz.pinned (OpenSpec.ofChange fnYardsWrong)

/-- 'laws.FnAways': WHATEVER THE INPUT: true; the input reads as it did. -/
def fnAwaysSpec : ChangeSpec := { name := "fnAways", fn := fun _ => fun
  | [d] => { results := [.lit (.bool true)], args := [d] }
  | _ => none }
def fnAwaysRow : OpenClaim := { program := "ytmnpailnelmpiaagreat", sum := "fef10543c0f6bc79e01d897e5024cfb3bf2db780c87ab6cead849b0b168caa9a", func := "loop.example/g00965/laws.FnAways", spec := "fnAways", unfollowed := true, recurses := true, apart := false }
def FnAwaysSaid : Prop := fnAwaysRow.holds Tryz.pinned (OpenSpec.ofChange fnAwaysSpec)

/-- ITS FALSE NEIGHBOUR: 'it returns false'. Refute it at one input. -/
def fnAwaysWrong : ChangeSpec := { name := "fnAways", fn := fun _ => fun
  | [d] => { results := [.lit (.bool false)], args := [d] }
  | _ => none }
def FnAwaysWrongFalsely : Prop := fnAwaysRow.holds Tryz.pinned (OpenSpec.ofChange fnAwaysWrong)

/- THE SECOND FORM. 'bulk': how many values and letters a reading holds, each counted each time it is reached (what is shared counts as often as it is met; a slice's spare places count too). A statement '..UptoSaid' is the law's where the arguments, and the package variables that the reading takes, are together of bulk at most 1048576: NARROWER than '..Said'. Prove '..Said' where nothing that the law and all that it calls make is longer than what came in: it says more and counts as full. Else prove '..UptoSaid'. A law counts once. -/
mutual
def uptoBulk {H : Type} : DataW H → Nat
  | .lit (.string bytes) => bytes.length + 1
  | .lit _ => 1
  | .nil => 1
  | .ptr d => uptoBulk d + 1
  | .slice elems spare => uptoBulkAll elems + uptoBulkAll spare + 1
  | .agg parts => uptoBulkAll parts + 1
  | .iface _ d => uptoBulk d + 1
  | .map entries => uptoBulkEntries entries + 1
  | .held _ => 1
def uptoBulkAll {H : Type} : List (DataW H) → Nat
  | [] => 0
  | d :: r => uptoBulk d + uptoBulkAll r
def uptoBulkEntries {H : Type} : List (Lit × DataW H) → Nat
  | [] => 0
  | x :: r => uptoBulkEntry x + uptoBulkEntries r
def uptoBulkEntry {H : Type} : Lit × DataW H → Nat
  | (.string bytes, d) => bytes.length + uptoBulk d + 1
  | (_, d) => uptoBulk d + 1
 end
def uptoSmall : (H : Type) → List (DataW H) → Bool := fun _ ds => decide (uptoBulkAll ds ≤ 1048576)
def OpenSpec.upto (s : _root_.Go.ChangeSpec) : _root_.Go.OpenSpec := { _root_.Go.OpenSpec.ofChange s with cond := some uptoSmall }

/-- 'laws.FnExactEngineOk', WHERE WHAT IT READS IS OF BULK AT MOST 1048576: true; the input reads as it did. -/
def fnExactEngineOkUptoRow : OpenClaim := { program := "ytmnpailnelmpiaagreat", sum := "fef10543c0f6bc79e01d897e5024cfb3bf2db780c87ab6cead849b0b168caa9a", func := "loop.example/g00965/laws.FnExactEngineOk", spec := "fnExactEngineOk", unfollowed := true, recurses := true, apart := false, narrowed := true }
def FnExactEngineOkUptoSaid : Prop := fnExactEngineOkUptoRow.holds Tryz.pinned (OpenSpec.upto fnExactEngineOkSpec)

/-- 'laws.FnExactCommit', WHERE WHAT IT READS IS OF BULK AT MOST 1048576: true; the input reads as it did. -/
def fnExactCommitUptoRow : OpenClaim := { program := "ytmnpailnelmpiaagreat", sum := "fef10543c0f6bc79e01d897e5024cfb3bf2db780c87ab6cead849b0b168caa9a", func := "loop.example/g00965/laws.FnExactCommit", spec := "fnExactCommit", unfollowed := true, recurses := true, apart := false, narrowed := true }
def FnExactCommitUptoSaid : Prop := fnExactCommitUptoRow.holds Tryz.pinned (OpenSpec.upto fnExactCommitSpec)

/-- 'laws.FnExactReadMark', WHERE WHAT IT READS IS OF BULK AT MOST 1048576: true; the input reads as it did. -/
def fnExactReadMarkUptoRow : OpenClaim := { program := "ytmnpailnelmpiaagreat", sum := "fef10543c0f6bc79e01d897e5024cfb3bf2db780c87ab6cead849b0b168caa9a", func := "loop.example/g00965/laws.FnExactReadMark", spec := "fnExactReadMark", unfollowed := true, recurses := true, apart := false, narrowed := true }
def FnExactReadMarkUptoSaid : Prop := fnExactReadMarkUptoRow.holds Tryz.pinned (OpenSpec.upto fnExactReadMarkSpec)

/-- 'laws.FnExactDo', WHERE WHAT IT READS IS OF BULK AT MOST 1048576: true; the input reads as it did. -/
def fnExactDoUptoRow : OpenClaim := { program := "ytmnpailnelmpiaagreat", sum := "fef10543c0f6bc79e01d897e5024cfb3bf2db780c87ab6cead849b0b168caa9a", func := "loop.example/g00965/laws.FnExactDo", spec := "fnExactDo", inPlace := ["slices.overlaps[loop.example/g00965/impl.Entry]"], unfollowed := true, recurses := true, apart := false, narrowed := true }
def FnExactDoUptoSaid : Prop := fnExactDoUptoRow.holds Tryz.pinned (OpenSpec.upto fnExactDoSpec)

/-- 'laws.FnExactDoAll', WHERE WHAT IT READS IS OF BULK AT MOST 1048576: true; the input reads as it did. -/
def fnExactDoAllUptoRow : OpenClaim := { program := "ytmnpailnelmpiaagreat", sum := "fef10543c0f6bc79e01d897e5024cfb3bf2db780c87ab6cead849b0b168caa9a", func := "loop.example/g00965/laws.FnExactDoAll", spec := "fnExactDoAll", inPlace := ["slices.overlaps[loop.example/g00965/impl.Entry]"], unfollowed := true, recurses := true, apart := false, narrowed := true }
def FnExactDoAllUptoSaid : Prop := fnExactDoAllUptoRow.holds Tryz.pinned (OpenSpec.upto fnExactDoAllSpec)

/-- 'laws.FnExactReplay', WHERE WHAT IT READS IS OF BULK AT MOST 1048576: true; the input reads as it did. -/
def fnExactReplayUptoRow : OpenClaim := { program := "ytmnpailnelmpiaagreat", sum := "fef10543c0f6bc79e01d897e5024cfb3bf2db780c87ab6cead849b0b168caa9a", func := "loop.example/g00965/laws.FnExactReplay", spec := "fnExactReplay", inPlace := ["slices.overlaps[loop.example/g00965/impl.Entry]"], unfollowed := true, recurses := true, apart := false, narrowed := true }
def FnExactReplayUptoSaid : Prop := fnExactReplayUptoRow.holds Tryz.pinned (OpenSpec.upto fnExactReplaySpec)

/-- 'laws.FnYards', WHERE WHAT IT READS IS OF BULK AT MOST 1048576: true; the input reads as it did. -/
def fnYardsUptoRow : OpenClaim := { program := "ytmnpailnelmpiaagreat", sum := "fef10543c0f6bc79e01d897e5024cfb3bf2db780c87ab6cead849b0b168caa9a", func := "loop.example/g00965/laws.FnYards", spec := "fnYards", unfollowed := true, recurses := true, apart := false, narrowed := true }
def FnYardsUptoSaid : Prop := fnYardsUptoRow.holds Tryz.pinned (OpenSpec.upto fnYardsSpec)

/-- 'laws.FnAways', WHERE WHAT IT READS IS OF BULK AT MOST 1048576: true; the input reads as it did. -/
def fnAwaysUptoRow : OpenClaim := { program := "ytmnpailnelmpiaagreat", sum := "fef10543c0f6bc79e01d897e5024cfb3bf2db780c87ab6cead849b0b168caa9a", func := "loop.example/g00965/laws.FnAways", spec := "fnAways", unfollowed := true, recurses := true, apart := false, narrowed := true }
def FnAwaysUptoSaid : Prop := fnAwaysUptoRow.holds Tryz.pinned (OpenSpec.upto fnAwaysSpec)

end Rows
end Go.Proofs.YtmnpailnelmpiaaGreat
