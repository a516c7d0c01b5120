/-
  No cell of these rows narrows 'for every input' (looked for: loops, veiled, ifaces, maps, wideKeys, modest, calm, conditions, laid).
  DERIVED. THE GIVEN ROWS OF THIS SEAT. 12 by the template 'for every input the law returns true; each argument reads behind the call as it read before'; 0 by the template 'total and deterministic' (their statements: YtfjgkakilmiheaaTotals.lean).
  GIVEN WITH THE SEED: the statements are not yours to turn. If you find one false, say at which input.
  Laid BY PROGRAM, IN A SANDBOX (cutbox-rows.mjs): the forced cells as the released guide's own fill.sh prints them over the translation 458f4a033a4739f4… (all of the seat's roots in one cut). By AI agents, Wed Nov 11 2026. No macro, syntax, notation, axiom, sorry.
-/
import Derived.Test.YtfjgkakilmiheaaChecked
import GoSem.Claim
import GoSem.ClaimJoined
import GoSem.ClaimMapViews
import Derived.JoinedTies
import Derived.KernelRfl
namespace Go.Proofs.Ytfjgkakilmiheaa
/- THE CELL 'sum', in the pinned program and in every row, IS THE sha256 OF THE DUMP (.gsa) THAT YtfjgkakilmiheaaProg.lean LOADS. Nothing in Lean hashes anything: it is a label: what it is worth is what the hold of that sum in a sandbox is worth. -/
noncomputable def Try.pinned : Pinned := { name := "ytfjgkakilmiheaa", sum := "458f4a033a4739f45e2ec4fe418cf003cc8d9020eb2e22f32880aa6414b1c594", checked := Try.checked }
namespace Rows
def none {H : Type} : Left H := { results := [], args := [] }

/-- 'laws.FnExactVictimsOf': WHATEVER THE INPUT: true; the input reads as it did. -/
def fnExactVictimsOfSpec : ChangeSpec := { name := "fnExactVictimsOf", fn := fun _ => fun
  | [d1, d2] => { results := [.lit (.bool true)], args := [d1, d2] }
  | _ => none }
def fnExactVictimsOfRow : OpenClaim := { program := "ytfjgkakilmiheaa", sum := "458f4a033a4739f45e2ec4fe418cf003cc8d9020eb2e22f32880aa6414b1c594", func := "loop.example/g00965/laws.FnExactVictimsOf", spec := "fnExactVictimsOf", apart := false }
def FnExactVictimsOfSaid : Prop := fnExactVictimsOfRow.holds Try.pinned (OpenSpec.ofChange fnExactVictimsOfSpec)

/-- ITS FALSE NEIGHBOUR: 'it returns false'. Refute it at one input. -/
def fnExactVictimsOfWrong : ChangeSpec := { name := "fnExactVictimsOf", fn := fun _ => fun
  | [d1, d2] => { results := [.lit (.bool false)], args := [d1, d2] }
  | _ => none }
def FnExactVictimsOfWrongFalsely : Prop := fnExactVictimsOfRow.holds Try.pinned (OpenSpec.ofChange fnExactVictimsOfWrong)

/-- 'laws.FnExactShelfOf': WHATEVER THE INPUT: true; the input reads as it did. -/
def fnExactShelfOfSpec : ChangeSpec := { name := "fnExactShelfOf", fn := fun _ => fun
  | [d] => { results := [.lit (.bool true)], args := [d] }
  | _ => none }
def fnExactShelfOfRow : OpenClaim := { program := "ytfjgkakilmiheaa", sum := "458f4a033a4739f45e2ec4fe418cf003cc8d9020eb2e22f32880aa6414b1c594", func := "loop.example/g00965/laws.FnExactShelfOf", spec := "fnExactShelfOf", apart := false }
def FnExactShelfOfSaid : Prop := fnExactShelfOfRow.holds Try.pinned (OpenSpec.ofChange fnExactShelfOfSpec)

/-- ITS FALSE NEIGHBOUR: 'it returns false'. Refute it at one input. -/
def fnExactShelfOfWrong : ChangeSpec := { name := "fnExactShelfOf", fn := fun _ => fun
  | [d] => { results := [.lit (.bool false)], args := [d] }
  | _ => none }
def FnExactShelfOfWrongFalsely : Prop := fnExactShelfOfRow.holds Try.pinned (OpenSpec.ofChange fnExactShelfOfWrong)

/-- 'laws.FnExactDeedOk': WHATEVER THE INPUT: true; the input reads as it did. -/
def fnExactDeedOkSpec : ChangeSpec := { name := "fnExactDeedOk", fn := fun _ => fun
  | [d] => { results := [.lit (.bool true)], args := [d] }
  | _ => none }
def fnExactDeedOkRow : OpenClaim := { program := "ytfjgkakilmiheaa", sum := "458f4a033a4739f45e2ec4fe418cf003cc8d9020eb2e22f32880aa6414b1c594", func := "loop.example/g00965/laws.FnExactDeedOk", spec := "fnExactDeedOk", apart := false }
def FnExactDeedOkSaid : Prop := fnExactDeedOkRow.holds Try.pinned (OpenSpec.ofChange fnExactDeedOkSpec)

/-- ITS FALSE NEIGHBOUR: 'it returns false'. Refute it at one input. -/
def fnExactDeedOkWrong : ChangeSpec := { name := "fnExactDeedOk", fn := fun _ => fun
  | [d] => { results := [.lit (.bool false)], args := [d] }
  | _ => none }
def FnExactDeedOkWrongFalsely : Prop := fnExactDeedOkRow.holds Try.pinned (OpenSpec.ofChange fnExactDeedOkWrong)

/-- 'laws.FnExactNoteText': WHATEVER THE INPUT: true; the input reads as it did. -/
def fnExactNoteTextSpec : ChangeSpec := { name := "fnExactNoteText", fn := fun _ => fun
  | [d] => { results := [.lit (.bool true)], args := [d] }
  | _ => none }
def fnExactNoteTextRow : OpenClaim := { program := "ytfjgkakilmiheaa", sum := "458f4a033a4739f45e2ec4fe418cf003cc8d9020eb2e22f32880aa6414b1c594", func := "loop.example/g00965/laws.FnExactNoteText", spec := "fnExactNoteText", apart := false }
def FnExactNoteTextSaid : Prop := fnExactNoteTextRow.holds Try.pinned (OpenSpec.ofChange fnExactNoteTextSpec)

/-- ITS FALSE NEIGHBOUR: 'it returns false'. Refute it at one input. -/
def fnExactNoteTextWrong : ChangeSpec := { name := "fnExactNoteText", fn := fun _ => fun
  | [d] => { results := [.lit (.bool false)], args := [d] }
  | _ => none }
def FnExactNoteTextWrongFalsely : Prop := fnExactNoteTextRow.holds Try.pinned (OpenSpec.ofChange fnExactNoteTextWrong)

/-- 'laws.FnExactSince': WHATEVER THE INPUT: true; the input reads as it did. -/
def fnExactSinceSpec : ChangeSpec := { name := "fnExactSince", fn := fun _ => fun
  | [d1, d2] => { results := [.lit (.bool true)], args := [d1, d2] }
  | _ => none }
def fnExactSinceRow : OpenClaim := { program := "ytfjgkakilmiheaa", sum := "458f4a033a4739f45e2ec4fe418cf003cc8d9020eb2e22f32880aa6414b1c594", func := "loop.example/g00965/laws.FnExactSince", spec := "fnExactSince", apart := false }
def FnExactSinceSaid : Prop := fnExactSinceRow.holds Try.pinned (OpenSpec.ofChange fnExactSinceSpec)

/-- ITS FALSE NEIGHBOUR: 'it returns false'. Refute it at one input. -/
def fnExactSinceWrong : ChangeSpec := { name := "fnExactSince", fn := fun _ => fun
  | [d1, d2] => { results := [.lit (.bool false)], args := [d1, d2] }
  | _ => none }
def FnExactSinceWrongFalsely : Prop := fnExactSinceRow.holds Try.pinned (OpenSpec.ofChange fnExactSinceWrong)

/-- 'laws.FnExactRunAt': WHATEVER THE INPUT: true; the input reads as it did. -/
def fnExactRunAtSpec : ChangeSpec := { name := "fnExactRunAt", fn := fun _ => fun
  | [d1, d2] => { results := [.lit (.bool true)], args := [d1, d2] }
  | _ => none }
def fnExactRunAtRow : OpenClaim := { program := "ytfjgkakilmiheaa", sum := "458f4a033a4739f45e2ec4fe418cf003cc8d9020eb2e22f32880aa6414b1c594", func := "loop.example/g00965/laws.FnExactRunAt", spec := "fnExactRunAt", unfollowed := true, recurses := true, apart := false }
def FnExactRunAtSaid : Prop := fnExactRunAtRow.holds Try.pinned (OpenSpec.ofChange fnExactRunAtSpec)

/-- ITS FALSE NEIGHBOUR: 'it returns false'. Refute it at one input. -/
def fnExactRunAtWrong : ChangeSpec := { name := "fnExactRunAt", fn := fun _ => fun
  | [d1, d2] => { results := [.lit (.bool false)], args := [d1, d2] }
  | _ => none }
def FnExactRunAtWrongFalsely : Prop := fnExactRunAtRow.holds Try.pinned (OpenSpec.ofChange fnExactRunAtWrong)

/-- 'laws.FnExactYardNew': WHATEVER THE INPUT: true; the input reads as it did. -/
def fnExactYardNewSpec : ChangeSpec := { name := "fnExactYardNew", fn := fun _ => fun
  | [] => { results := [.lit (.bool true)], args := [] }
  | _ => none }
def fnExactYardNewRow : OpenClaim := { program := "ytfjgkakilmiheaa", sum := "458f4a033a4739f45e2ec4fe418cf003cc8d9020eb2e22f32880aa6414b1c594", func := "loop.example/g00965/laws.FnExactYardNew", spec := "fnExactYardNew", apart := false }
def FnExactYardNewSaid : Prop := fnExactYardNewRow.holds Try.pinned (OpenSpec.ofChange fnExactYardNewSpec)

/-- ITS FALSE NEIGHBOUR: 'it returns false'. Refute it at one input. -/
def fnExactYardNewWrong : ChangeSpec := { name := "fnExactYardNew", fn := fun _ => fun
  | [] => { results := [.lit (.bool false)], args := [] }
  | _ => none }
def FnExactYardNewWrongFalsely : Prop := fnExactYardNewRow.holds Try.pinned (OpenSpec.ofChange fnExactYardNewWrong)

/-- 'laws.FnExactFresh': WHATEVER THE INPUT: true; the input reads as it did. -/
def fnExactFreshSpec : ChangeSpec := { name := "fnExactFresh", fn := fun _ => fun
  | [d1, d2] => { results := [.lit (.bool true)], args := [d1, d2] }
  | _ => none }
def fnExactFreshRow : OpenClaim := { program := "ytfjgkakilmiheaa", sum := "458f4a033a4739f45e2ec4fe418cf003cc8d9020eb2e22f32880aa6414b1c594", func := "loop.example/g00965/laws.FnExactFresh", spec := "fnExactFresh", unfollowed := true, recurses := true, apart := false }
def FnExactFreshSaid : Prop := fnExactFreshRow.holds Try.pinned (OpenSpec.ofChange fnExactFreshSpec)

/-- ITS FALSE NEIGHBOUR: 'it returns false'. Refute it at one input. -/
def fnExactFreshWrong : ChangeSpec := { name := "fnExactFresh", fn := fun _ => fun
  | [d1, d2] => { results := [.lit (.bool false)], args := [d1, d2] }
  | _ => none }
def FnExactFreshWrongFalsely : Prop := fnExactFreshRow.holds Try.pinned (OpenSpec.ofChange fnExactFreshWrong)

/-- 'laws.FnExactHolds': WHATEVER THE INPUT: true; the input reads as it did. -/
def fnExactHoldsSpec : ChangeSpec := { name := "fnExactHolds", fn := fun _ => fun
  | [d1, d2, d3, d4] => { results := [.lit (.bool true)], args := [d1, d2, d3, d4] }
  | _ => none }
def fnExactHoldsRow : OpenClaim := { program := "ytfjgkakilmiheaa", sum := "458f4a033a4739f45e2ec4fe418cf003cc8d9020eb2e22f32880aa6414b1c594", func := "loop.example/g00965/laws.FnExactHolds", spec := "fnExactHolds", unfollowed := true, recurses := true, apart := false }
def FnExactHoldsSaid : Prop := fnExactHoldsRow.holds Try.pinned (OpenSpec.ofChange fnExactHoldsSpec)

/-- ITS FALSE NEIGHBOUR: 'it returns false'. Refute it at one input. -/
def fnExactHoldsWrong : ChangeSpec := { name := "fnExactHolds", fn := fun _ => fun
  | [d1, d2, d3, d4] => { results := [.lit (.bool false)], args := [d1, d2, d3, d4] }
  | _ => none }
def FnExactHoldsWrongFalsely : Prop := fnExactHoldsRow.holds Try.pinned (OpenSpec.ofChange fnExactHoldsWrong)

/-- 'laws.FnExactSlotsOf': WHATEVER THE INPUT: true; the input reads as it did. -/
def fnExactSlotsOfSpec : ChangeSpec := { name := "fnExactSlotsOf", fn := fun _ => fun
  | [d] => { results := [.lit (.bool true)], args := [d] }
  | _ => none }
def fnExactSlotsOfRow : OpenClaim := { program := "ytfjgkakilmiheaa", sum := "458f4a033a4739f45e2ec4fe418cf003cc8d9020eb2e22f32880aa6414b1c594", func := "loop.example/g00965/laws.FnExactSlotsOf", spec := "fnExactSlotsOf", unfollowed := true, recurses := true, apart := false }
def FnExactSlotsOfSaid : Prop := fnExactSlotsOfRow.holds Try.pinned (OpenSpec.ofChange fnExactSlotsOfSpec)

/-- ITS FALSE NEIGHBOUR: 'it returns false'. Refute it at one input. -/
def fnExactSlotsOfWrong : ChangeSpec := { name := "fnExactSlotsOf", fn := fun _ => fun
  | [d] => { results := [.lit (.bool false)], args := [d] }
  | _ => none }
def FnExactSlotsOfWrongFalsely : Prop := fnExactSlotsOfRow.holds Try.pinned (OpenSpec.ofChange fnExactSlotsOfWrong)

/-- 'laws.FnExactSameYard': WHATEVER THE INPUT: true; the input reads as it did. -/
def fnExactSameYardSpec : ChangeSpec := { name := "fnExactSameYard", fn := fun _ => fun
  | [d1, d2] => { results := [.lit (.bool true)], args := [d1, d2] }
  | _ => none }
def fnExactSameYardRow : OpenClaim := { program := "ytfjgkakilmiheaa", sum := "458f4a033a4739f45e2ec4fe418cf003cc8d9020eb2e22f32880aa6414b1c594", func := "loop.example/g00965/laws.FnExactSameYard", spec := "fnExactSameYard", unfollowed := true, recurses := true, apart := false }
def FnExactSameYardSaid : Prop := fnExactSameYardRow.holds Try.pinned (OpenSpec.ofChange fnExactSameYardSpec)

/-- ITS FALSE NEIGHBOUR: 'it returns false'. Refute it at one input. -/
def fnExactSameYardWrong : ChangeSpec := { name := "fnExactSameYard", fn := fun _ => fun
  | [d1, d2] => { results := [.lit (.bool false)], args := [d1, d2] }
  | _ => none }
def FnExactSameYardWrongFalsely : Prop := fnExactSameYardRow.holds Try.pinned (OpenSpec.ofChange fnExactSameYardWrong)

/-- 'laws.FnExactRoomFor': WHATEVER THE INPUT: true; the input reads as it did. -/
def fnExactRoomForSpec : ChangeSpec := { name := "fnExactRoomFor", fn := fun _ => fun
  | [d1, d2] => { results := [.lit (.bool true)], args := [d1, d2] }
  | _ => none }
def fnExactRoomForRow : OpenClaim := { program := "ytfjgkakilmiheaa", sum := "458f4a033a4739f45e2ec4fe418cf003cc8d9020eb2e22f32880aa6414b1c594", func := "loop.example/g00965/laws.FnExactRoomFor", spec := "fnExactRoomFor", unfollowed := true, recurses := true, apart := false }
def FnExactRoomForSaid : Prop := fnExactRoomForRow.holds Try.pinned (OpenSpec.ofChange fnExactRoomForSpec)

/-- ITS FALSE NEIGHBOUR: 'it returns false'. Refute it at one input. -/
def fnExactRoomForWrong : ChangeSpec := { name := "fnExactRoomFor", fn := fun _ => fun
  | [d1, d2] => { results := [.lit (.bool false)], args := [d1, d2] }
  | _ => none }
def FnExactRoomForWrongFalsely : Prop := fnExactRoomForRow.holds Try.pinned (OpenSpec.ofChange fnExactRoomForWrong)

/- THE SECOND FORM. 'bulk': how many values and letters a reading holds, each counted each time it is reached (what is shared counts as often as it is met; a slice's spare places count too). A statement '..UptoSaid' is the law's where the arguments, and the package variables that the reading takes, are together of bulk at most 1048576: NARROWER than '..Said'. Prove '..Said' where nothing that the law and all that it calls make is longer than what came in: it says more and counts as full. Else prove '..UptoSaid'. A law counts once. -/
mutual
def uptoBulk {H : Type} : DataW H → Nat
  | .lit (.string bytes) => bytes.length + 1
  | .lit _ => 1
  | .nil => 1
  | .ptr d => uptoBulk d + 1
  | .slice elems spare => uptoBulkAll elems + uptoBulkAll spare + 1
  | .agg parts => uptoBulkAll parts + 1
  | .iface _ d => uptoBulk d + 1
  | .map entries => uptoBulkEntries entries + 1
  | .held _ => 1
def uptoBulkAll {H : Type} : List (DataW H) → Nat
  | [] => 0
  | d :: r => uptoBulk d + uptoBulkAll r
def uptoBulkEntries {H : Type} : List (Lit × DataW H) → Nat
  | [] => 0
  | x :: r => uptoBulkEntry x + uptoBulkEntries r
def uptoBulkEntry {H : Type} : Lit × DataW H → Nat
  | (.string bytes, d) => bytes.length + uptoBulk d + 1
  | (_, d) => uptoBulk d + 1
 end
def uptoSmall : (H : Type) → List (DataW H) → Bool := fun _ ds => decide (uptoBulkAll ds ≤ 1048576)
def OpenSpec.upto (s : _root_.Go.ChangeSpec) : _root_.Go.OpenSpec := { _root_.Go.OpenSpec.ofChange s with cond := some uptoSmall }

/-- 'laws.FnExactVictimsOf', WHERE WHAT IT READS IS OF BULK AT MOST 1048576: true; the input reads as it did. -/
def fnExactVictimsOfUptoRow : OpenClaim := { program := "ytfjgkakilmiheaa", sum := "458f4a033a4739f45e2ec4fe418cf003cc8d9020eb2e22f32880aa6414b1c594", func := "loop.example/g00965/laws.FnExactVictimsOf", spec := "fnExactVictimsOf", apart := false, narrowed := true }
def FnExactVictimsOfUptoSaid : Prop := fnExactVictimsOfUptoRow.holds Try.pinned (OpenSpec.upto fnExactVictimsOfSpec)

/-- 'laws.FnExactShelfOf', WHERE WHAT IT READS IS OF BULK AT MOST 1048576: true; the input reads as it did. -/
def fnExactShelfOfUptoRow : OpenClaim := { program := "ytfjgkakilmiheaa", sum := "458f4a033a4739f45e2ec4fe418cf003cc8d9020eb2e22f32880aa6414b1c594", func := "loop.example/g00965/laws.FnExactShelfOf", spec := "fnExactShelfOf", apart := false, narrowed := true }
def FnExactShelfOfUptoSaid : Prop := fnExactShelfOfUptoRow.holds Try.pinned (OpenSpec.upto fnExactShelfOfSpec)

/-- 'laws.FnExactDeedOk', WHERE WHAT IT READS IS OF BULK AT MOST 1048576: true; the input reads as it did. -/
def fnExactDeedOkUptoRow : OpenClaim := { program := "ytfjgkakilmiheaa", sum := "458f4a033a4739f45e2ec4fe418cf003cc8d9020eb2e22f32880aa6414b1c594", func := "loop.example/g00965/laws.FnExactDeedOk", spec := "fnExactDeedOk", apart := false, narrowed := true }
def FnExactDeedOkUptoSaid : Prop := fnExactDeedOkUptoRow.holds Try.pinned (OpenSpec.upto fnExactDeedOkSpec)

/-- 'laws.FnExactNoteText', WHERE WHAT IT READS IS OF BULK AT MOST 1048576: true; the input reads as it did. -/
def fnExactNoteTextUptoRow : OpenClaim := { program := "ytfjgkakilmiheaa", sum := "458f4a033a4739f45e2ec4fe418cf003cc8d9020eb2e22f32880aa6414b1c594", func := "loop.example/g00965/laws.FnExactNoteText", spec := "fnExactNoteText", apart := false, narrowed := true }
def FnExactNoteTextUptoSaid : Prop := fnExactNoteTextUptoRow.holds Try.pinned (OpenSpec.upto fnExactNoteTextSpec)

/-- 'laws.FnExactSince', WHERE WHAT IT READS IS OF BULK AT MOST 1048576: true; the input reads as it did. -/
def fnExactSinceUptoRow : OpenClaim := { program := "ytfjgkakilmiheaa", sum := "458f4a033a4739f45e2ec4fe418cf003cc8d9020eb2e22f32880aa6414b1c594", func := "loop.example/g00965/laws.FnExactSince", spec := "fnExactSince", apart := false, narrowed := true }
def FnExactSinceUptoSaid : Prop := fnExactSinceUptoRow.holds Try.pinned (OpenSpec.upto fnExactSinceSpec)

/-- 'laws.FnExactRunAt', WHERE WHAT IT READS IS OF BULK AT MOST 1048576: true; the input reads as it did. -/
def fnExactRunAtUptoRow : OpenClaim := { program := "ytfjgkakilmiheaa", sum := "458f4a033a4739f45e2ec4fe418cf003cc8d9020eb2e22f32880aa6414b1c594", func := "loop.example/g00965/laws.FnExactRunAt", spec := "fnExactRunAt", unfollowed := true, recurses := true, apart := false, narrowed := true }
def FnExactRunAtUptoSaid : Prop := fnExactRunAtUptoRow.holds Try.pinned (OpenSpec.upto fnExactRunAtSpec)

/-- 'laws.FnExactYardNew', WHERE WHAT IT READS IS OF BULK AT MOST 1048576: true; the input reads as it did. -/
def fnExactYardNewUptoRow : OpenClaim := { program := "ytfjgkakilmiheaa", sum := "458f4a033a4739f45e2ec4fe418cf003cc8d9020eb2e22f32880aa6414b1c594", func := "loop.example/g00965/laws.FnExactYardNew", spec := "fnExactYardNew", apart := false, narrowed := true }
def FnExactYardNewUptoSaid : Prop := fnExactYardNewUptoRow.holds Try.pinned (OpenSpec.upto fnExactYardNewSpec)

/-- 'laws.FnExactFresh', WHERE WHAT IT READS IS OF BULK AT MOST 1048576: true; the input reads as it did. -/
def fnExactFreshUptoRow : OpenClaim := { program := "ytfjgkakilmiheaa", sum := "458f4a033a4739f45e2ec4fe418cf003cc8d9020eb2e22f32880aa6414b1c594", func := "loop.example/g00965/laws.FnExactFresh", spec := "fnExactFresh", unfollowed := true, recurses := true, apart := false, narrowed := true }
def FnExactFreshUptoSaid : Prop := fnExactFreshUptoRow.holds Try.pinned (OpenSpec.upto fnExactFreshSpec)

/-- 'laws.FnExactHolds', WHERE WHAT IT READS IS OF BULK AT MOST 1048576: true; the input reads as it did. -/
def fnExactHoldsUptoRow : OpenClaim := { program := "ytfjgkakilmiheaa", sum := "458f4a033a4739f45e2ec4fe418cf003cc8d9020eb2e22f32880aa6414b1c594", func := "loop.example/g00965/laws.FnExactHolds", spec := "fnExactHolds", unfollowed := true, recurses := true, apart := false, narrowed := true }
def FnExactHoldsUptoSaid : Prop := fnExactHoldsUptoRow.holds Try.pinned (OpenSpec.upto fnExactHoldsSpec)

/-- 'laws.FnExactSlotsOf', WHERE WHAT IT READS IS OF BULK AT MOST 1048576: true; the input reads as it did. -/
def fnExactSlotsOfUptoRow : OpenClaim := { program := "ytfjgkakilmiheaa", sum := "458f4a033a4739f45e2ec4fe418cf003cc8d9020eb2e22f32880aa6414b1c594", func := "loop.example/g00965/laws.FnExactSlotsOf", spec := "fnExactSlotsOf", unfollowed := true, recurses := true, apart := false, narrowed := true }
def FnExactSlotsOfUptoSaid : Prop := fnExactSlotsOfUptoRow.holds Try.pinned (OpenSpec.upto fnExactSlotsOfSpec)

/-- 'laws.FnExactSameYard', WHERE WHAT IT READS IS OF BULK AT MOST 1048576: true; the input reads as it did. -/
def fnExactSameYardUptoRow : OpenClaim := { program := "ytfjgkakilmiheaa", sum := "458f4a033a4739f45e2ec4fe418cf003cc8d9020eb2e22f32880aa6414b1c594", func := "loop.example/g00965/laws.FnExactSameYard", spec := "fnExactSameYard", unfollowed := true, recurses := true, apart := false, narrowed := true }
def FnExactSameYardUptoSaid : Prop := fnExactSameYardUptoRow.holds Try.pinned (OpenSpec.upto fnExactSameYardSpec)

/-- 'laws.FnExactRoomFor', WHERE WHAT IT READS IS OF BULK AT MOST 1048576: true; the input reads as it did. -/
def fnExactRoomForUptoRow : OpenClaim := { program := "ytfjgkakilmiheaa", sum := "458f4a033a4739f45e2ec4fe418cf003cc8d9020eb2e22f32880aa6414b1c594", func := "loop.example/g00965/laws.FnExactRoomFor", spec := "fnExactRoomFor", unfollowed := true, recurses := true, apart := false, narrowed := true }
def FnExactRoomForUptoSaid : Prop := fnExactRoomForUptoRow.holds Try.pinned (OpenSpec.upto fnExactRoomForSpec)

end Rows
end Go.Proofs.Ytfjgkakilmiheaa
