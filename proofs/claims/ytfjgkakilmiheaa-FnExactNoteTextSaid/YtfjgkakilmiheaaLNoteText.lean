/- The law of NoteText. -/
import Derived.Test.YtfjgkakilmiheaaNoteText2
import Derived.Test.YtfjgkakilmiheaaNoteText3
import Derived.Test.YtfjgkakilmiheaaPu
import Derived.Test.YtfjgkakilmiheaaBnd
set_option linter.unusedSimpArgs false
set_option linter.unusedVariables false
set_option maxRecDepth 100000
namespace Go.Proofs.Ytfjgkakilmiheaa
open Go.RowKit Go.Sort
def c_laws_FnExactNoteText : C := .seq (.reg [⟨some 1, none, .box 45 12 (.t 0)⟩, ⟨some 2, none, .mov (.c (.bool false))⟩]) (.seq (.reg [⟨some 3, none, .mov (.c (.int .i64 1048576))⟩]) (.seq (.reg [⟨some 7, none, .ld true 12 (.t 1)⟩, ⟨some 8, none, .mov (.t 3)⟩, ⟨some 9, none, .call 27 [.t 7, .t 8]⟩, ⟨some 3, none, .mov (.t 9)⟩]) (.seq (.seq (.reg [⟨some 10, none, .mov (.t 3)⟩, ⟨some 11, none, .bin .lss 3 (.t 10) (.c (.int .i64 0))⟩]) (.cond (.t 11) (.seq (.reg [⟨some 2, none, .mov (.c (.bool true))⟩]) .ret) .skip)) (.seq (.reg [⟨some 12, none, .ld true 12 (.t 1)⟩, ⟨some 13, none, .call 29 [.t 12]⟩, ⟨some 14, none, .call 28 [.t 13]⟩, ⟨some 4, none, .mov (.t 14)⟩]) (.seq (.reg [⟨some 15, none, .ld true 12 (.t 1)⟩, ⟨some 16, none, .call 29 [.t 15]⟩, ⟨some 5, none, .alloc 49 [.int .i64 0, .int .i64 0, .int .i64 0, .int .i64 0, .int .i64 0, .int .i64 0, .int .i64 0, .slice none 0 0, .int .i64 0, .int .i64 0, .int .i64 0, .int .i64 0]⟩, ⟨none, none, .st 12 [none, none, none, none, none, none, none, some (2, 100), none, none, none, none] (.t 5) (.t 16)⟩]) (.seq (.reg [⟨some 17, none, .ld true 12 (.t 5)⟩, ⟨some 18, none, .call 30 [.t 17]⟩, ⟨some 6, none, .mov (.t 18)⟩]) (.seq (.seq (.reg [⟨some 19, none, .mov (.t 6)⟩, ⟨some 20, none, .mov (.t 4)⟩, ⟨some 21, none, .bin .neq 9 (.t 19) (.t 20)⟩]) (.cond (.t 21) (.seq (.reg [⟨some 2, none, .mov (.c (.bool false))⟩]) .ret) .skip)) (.seq (.seq (.dreg (T.pure 0 ⟨some 22, none, .ld true 12 (.t 5)⟩ (T.pure 1 ⟨some 23, none, .ld true 12 (.t 1)⟩ (T.alt ⟨some 24, none, .call 29 [.t 23]⟩ [0] (T.alt ⟨some 25, none, .call 31 [.t 22, .t 24]⟩ [] (T.pure 4 ⟨some 26, none, .un .not (.t 25)⟩ T.done) T.stop) T.stop)))) (.cond (.t 26) (.seq (.reg [⟨some 2, none, .mov (.c (.bool false))⟩]) .ret) .skip)) (.seq (.reg [⟨some 2, none, .mov (.c (.bool true))⟩]) .ret)))))))))
theorem code_laws_FnExactNoteText : fnC Try.prog Try.f6 = some (c_laws_FnExactNoteText, [.t 2], 27) := by kernel_rfl
set_option maxHeartbeats 2000000 in
theorem p_NoteText (b0 : Nt) : Pure Try.prog 6 [.agg (encNt b0)] (.c (.val (.bool true))) := by
  refine pure_fn Try.func6 code_laws_FnExactNoteText (by simp) ?_
  unfold c_laws_FnExactNoteText
  simp only [go_sem, encYd, encNt, encDd, encPl, encRn, encEn, bne_self_eq_false, beq_self_eq_true]
  intros
  refine run_call (p_szNote b0 (1048576) (by omega) (by omega)) (by simp only [go_sem, encYd, encNt, encDd, encPl, encRn, encEn, bne_self_eq_false, beq_self_eq_true]) fun η => ?_
  rcases szf_spec (totNt b0) (1048576) with ⟨hle0, hz0⟩ | ⟨hle0, hz0⟩
  rotate_left
  · simp only [go_sem, encYd, encNt, encDd, encPl, encRn, encEn, bne_self_eq_false, beq_self_eq_true, hz0]
  have ht0 : totNt b0 ≤ 2000000 := by omega
  have hn0 : ¬ (1048576 - (totNt b0 : Int) < 0) := by omega
  simp only [go_sem, encYd, encNt, encDd, encPl, encRn, encEn, bne_self_eq_false, beq_self_eq_true, hz0, hn0]
  intros
  have pS := p_spec_NoteText b0 ht0
  have pI := p_impl_NoteText b0 ht0
  generalize noteS b0 = r0 at *
  refine run_call (p_toNote b0 (by omega)) (by simp only [go_sem, encYd, encNt, encDd, encPl, encRn, encEn, bne_self_eq_false, beq_self_eq_true, hz0, hn0]) fun η1 => ?_
  simp only [go_sem, encYd, encNt, encDd, encPl, encRn, encEn, bne_self_eq_false, beq_self_eq_true, hz0, hn0]
  intros
  refine run_call (pS) (by simp only [go_sem, encYd, encNt, encDd, encPl, encRn, encEn, bne_self_eq_false, beq_self_eq_true, hz0, hn0]) fun η2 => ?_
  simp only [go_sem, encYd, encNt, encDd, encPl, encRn, encEn, bne_self_eq_false, beq_self_eq_true, hz0, hn0]
  intros
  refine run_call (p_toNote b0 (by omega)) (by simp only [go_sem, encYd, encNt, encDd, encPl, encRn, encEn, bne_self_eq_false, beq_self_eq_true, hz0, hn0]) fun η3 => ?_
  simp only [go_sem, encYd, encNt, encDd, encPl, encRn, encEn, bne_self_eq_false, beq_self_eq_true, hz0, hn0]
  intros
  refine run_call (pI) (by simp only [go_sem, encYd, encNt, encDd, encPl, encRn, encEn, bne_self_eq_false, beq_self_eq_true, hz0, hn0]) fun η4 => ?_
  simp only [go_sem, encYd, encNt, encDd, encPl, encRn, encEn, bne_self_eq_false, beq_self_eq_true, hz0, hn0]
  intros
  refine run_call (p_toNote b0 (by omega)) (by simp only [go_sem, encYd, encNt, encDd, encPl, encRn, encEn, bne_self_eq_false, beq_self_eq_true, hz0, hn0]) fun η5 => ?_
  simp only [go_sem, encYd, encNt, encDd, encPl, encRn, encEn, bne_self_eq_false, beq_self_eq_true, hz0, hn0]
  intros
  refine run_call (p_eqNote b0 b0) (by simp only [go_sem, encYd, encNt, encDd, encPl, encRn, encEn, bne_self_eq_false, beq_self_eq_true, hz0, hn0]) fun η6 => ?_
  simp only [go_sem, encYd, encNt, encDd, encPl, encRn, encEn, bne_self_eq_false, beq_self_eq_true, hz0, hn0]
end Go.Proofs.Ytfjgkakilmiheaa
