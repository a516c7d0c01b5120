/- The law of NotesText. -/
import Derived.Test.YtbplebgnkhmemaaNotesT
import Derived.Test.YtbplebgnkhmemaaPu
import Derived.Test.YtbplebgnkhmemaaBnd
set_option linter.unusedSimpArgs false
set_option linter.unusedVariables false
set_option maxRecDepth 100000
namespace Go.Proofs.Ytbplebgnkhmemaa
open Go.RowKit Go.Sort
def c_laws_FnExactNotesText : C := .seq (.reg [⟨some 2, none, .mov (.c (.bool false))⟩]) (.seq (.reg [⟨some 3, none, .mov (.c (.int .i64 1048576))⟩]) (.seq (.reg [⟨some 7, none, .mov (.t 0)⟩, ⟨some 8, none, .mov (.t 3)⟩, ⟨some 9, none, .call 13 [.t 7, .t 8]⟩, ⟨some 3, none, .mov (.t 9)⟩]) (.seq (.seq (.reg [⟨some 10, none, .mov (.t 3)⟩, ⟨some 11, none, .bin .lss 3 (.t 10) (.c (.int .i64 0))⟩]) (.cond (.t 11) (.seq (.reg [⟨some 2, none, .mov (.c (.bool true))⟩]) .ret) .skip)) (.seq (.reg [⟨some 12, none, .mov (.t 0)⟩, ⟨some 13, none, .call 15 [.t 12]⟩, ⟨some 14, none, .call 14 [.t 13]⟩, ⟨some 4, none, .mov (.t 14)⟩]) (.seq (.reg [⟨some 15, none, .mov (.t 0)⟩, ⟨some 16, none, .call 15 [.t 15]⟩, ⟨some 5, none, .mov (.t 16)⟩]) (.seq (.reg [⟨some 17, none, .mov (.t 5)⟩, ⟨some 18, none, .call 16 [.t 17]⟩, ⟨some 6, none, .mov (.t 18)⟩]) (.seq (.seq (.reg [⟨some 19, none, .mov (.t 6)⟩, ⟨some 20, none, .mov (.t 4)⟩, ⟨some 21, none, .bin .neq 9 (.t 19) (.t 20)⟩]) (.cond (.t 21) (.seq (.reg [⟨some 2, none, .mov (.c (.bool false))⟩]) .ret) .skip)) (.seq (.seq (.reg [⟨some 22, none, .mov (.t 5)⟩, ⟨some 23, none, .mov (.t 0)⟩, ⟨some 24, none, .call 15 [.t 23]⟩, ⟨some 25, none, .call 17 [.t 22, .t 24]⟩, ⟨some 26, none, .un .not (.t 25)⟩]) (.cond (.t 26) (.seq (.reg [⟨some 2, none, .mov (.c (.bool false))⟩]) .ret) .skip)) (.seq (.reg [⟨some 2, none, .mov (.c (.bool true))⟩]) .ret)))))))))
theorem code_laws_FnExactNotesText : fnC Try.prog Try.f4 = some (c_laws_FnExactNotesText, [.t 2], 27) := by kernel_rfl
set_option maxHeartbeats 2000000 in
theorem p_NotesText (b0 : List Nt) : Pure Try.prog 4 [.c (encNts b0)] (.c (.val (.bool true))) := by
  refine pure_fn Try.func4 code_laws_FnExactNotesText (by simp) ?_
  unfold c_laws_FnExactNotesText
  simp -implicitDefEqProofs only [go_sem, encYd, encNt, encDd, encPl, encRn, encEn, bne_self_eq_false, beq_self_eq_true]
  intros
  refine run_call (p_szNoteS b0 (1048576) (by omega) (by omega)) (by simp -implicitDefEqProofs only [go_sem, encYd, encNt, encDd, encPl, encRn, encEn, bne_self_eq_false, beq_self_eq_true]) fun η => ?_
  rcases szf_spec (totNts b0) (1048576) with ⟨hle0, hz0⟩ | ⟨hle0, hz0⟩
  rotate_left
  · simp -implicitDefEqProofs only [go_sem, encYd, encNt, encDd, encPl, encRn, encEn, bne_self_eq_false, beq_self_eq_true, hz0]
  have ht0 : totNts b0 ≤ 2000000 := by omega
  have hn0 : ¬ (1048576 - (totNts b0 : Int) < 0) := by omega
  simp -implicitDefEqProofs only [go_sem, encYd, encNt, encDd, encPl, encRn, encEn, bne_self_eq_false, beq_self_eq_true, hz0, hn0]
  intros
  have hca0 := b_nts b0
  have hsa0 : b0.length ≤ totNts b0 := Nat.le_add_right _ _
  have pS := p_spec_NotesText b0 ht0
  have pI := p_impl_NotesText b0 ht0
  generalize notesS b0 = r0 at *
  refine run_call (p_toNoteS b0 (by omega)) (by simp -implicitDefEqProofs only [go_sem, encYd, encNt, encDd, encPl, encRn, encEn, bne_self_eq_false, beq_self_eq_true, hz0, hn0]) fun η1 => ?_
  simp -implicitDefEqProofs only [go_sem, encYd, encNt, encDd, encPl, encRn, encEn, bne_self_eq_false, beq_self_eq_true, hz0, hn0]
  intros
  refine run_call (pS) (by simp -implicitDefEqProofs only [go_sem, encYd, encNt, encDd, encPl, encRn, encEn, bne_self_eq_false, beq_self_eq_true, hz0, hn0]) fun η2 => ?_
  simp -implicitDefEqProofs only [go_sem, encYd, encNt, encDd, encPl, encRn, encEn, bne_self_eq_false, beq_self_eq_true, hz0, hn0]
  intros
  refine run_call (p_toNoteS b0 (by omega)) (by simp -implicitDefEqProofs only [go_sem, encYd, encNt, encDd, encPl, encRn, encEn, bne_self_eq_false, beq_self_eq_true, hz0, hn0]) fun η3 => ?_
  simp -implicitDefEqProofs only [go_sem, encYd, encNt, encDd, encPl, encRn, encEn, bne_self_eq_false, beq_self_eq_true, hz0, hn0]
  intros
  refine run_call (pI) (by simp -implicitDefEqProofs only [go_sem, encYd, encNt, encDd, encPl, encRn, encEn, bne_self_eq_false, beq_self_eq_true, hz0, hn0]) fun η4 => ?_
  simp -implicitDefEqProofs only [go_sem, encYd, encNt, encDd, encPl, encRn, encEn, bne_self_eq_false, beq_self_eq_true, hz0, hn0]
  intros
  refine run_call (p_toNoteS b0 (by omega)) (by simp -implicitDefEqProofs only [go_sem, encYd, encNt, encDd, encPl, encRn, encEn, bne_self_eq_false, beq_self_eq_true, hz0, hn0]) fun η5 => ?_
  simp -implicitDefEqProofs only [go_sem, encYd, encNt, encDd, encPl, encRn, encEn, bne_self_eq_false, beq_self_eq_true, hz0, hn0]
  intros
  refine run_call (p_eqNoteS b0 b0) (by simp -implicitDefEqProofs only [go_sem, encYd, encNt, encDd, encPl, encRn, encEn, bne_self_eq_false, beq_self_eq_true, hz0, hn0]) fun η6 => ?_
  simp -implicitDefEqProofs only [go_sem, encYd, encNt, encDd, encPl, encRn, encEn, bne_self_eq_false, beq_self_eq_true, hz0, hn0]
end Go.Proofs.Ytbplebgnkhmemaa
