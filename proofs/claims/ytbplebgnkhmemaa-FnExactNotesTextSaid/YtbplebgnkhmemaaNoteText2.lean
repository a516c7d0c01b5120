/- NoteText, the program's. -/
import Derived.Test.YtbplebgnkhmemaaNoteText
set_option linter.unusedSimpArgs false
set_option linter.unusedVariables false
set_option maxRecDepth 100000
namespace Go.Proofs.Ytbplebgnkhmemaa
open Go.RowKit Go.Sort
def c_impl_NoteText : C := .seq (.reg [⟨some 1, none, .box 92 12 (.t 0)⟩, ⟨some 2, none, .mov (.c (.string ⟨⟨[]⟩⟩))⟩]) (.seq (.seq (.reg [⟨some 4, none, .fa 1 (.t 1)⟩, ⟨some 5, none, .ld true 11 (.t 4)⟩, ⟨some 6, none, .call 100 [.t 5]⟩, ⟨some 7, none, .un .not (.t 6)⟩, ⟨some 8, none, .mov (.t 7)⟩, ⟨some 9, some (8, false), .fa 0 (.t 1)⟩, ⟨some 10, some (8, false), .ld false 1 (.t 9)⟩, ⟨some 11, some (8, false), .call 40 [.t 10, .c (.int .i64 1), .c (.int .i64 1000000000)]⟩, ⟨some 12, some (8, false), .un .not (.t 11)⟩, ⟨some 13, none, .pick (.t 8) (.c (.bool true)) (.t 12)⟩]) (.cond (.t 13) (.seq (.reg [⟨some 2, none, .mov (.c (.string ⟨⟨[]⟩⟩))⟩]) .ret) .skip)) (.seq (.dreg (T.pure 0 ⟨some 14, none, .fa 0 (.t 1)⟩ (T.pure 1 ⟨some 15, none, .ld false 1 (.t 14)⟩ (T.pure 2 ⟨some 16, none, .fa 1 (.t 1)⟩ (T.pure 3 ⟨some 17, none, .fa 0 (.t 16)⟩ (T.pure 4 ⟨some 18, none, .ld false 1 (.t 17)⟩ (T.pure 6 ⟨some 20, none, .fa 1 (.t 1)⟩ (T.pure 7 ⟨some 21, none, .ld true 11 (.t 20)⟩ (T.alt ⟨some 19, none, .bsl 3 1 2 [none, none] [(0, 1, .t 15), (1, 1, .t 18)]⟩ [7, 6] (T.alt ⟨some 22, none, .call 101 [.t 21]⟩ [4, 3, 2, 1, 0] (T.alt ⟨some 23, none, .app 3 1 8 (.t 19) (.t 22)⟩ [] (T.alt ⟨some 24, none, .call 60 [.t 23]⟩ [] (T.pure 11 ⟨some 3, none, .mov (.t 24)⟩ T.done) T.stop) T.stop) T.stop) (T.alt ⟨some 22, none, .call 101 [.t 21]⟩ [4, 3, 2, 1, 0] (T.alt ⟨some 19, none, .bsl 3 1 2 [none, none] [(0, 1, .t 15), (1, 1, .t 18)]⟩ [7, 6] (T.alt ⟨some 23, none, .app 3 1 8 (.t 19) (.t 22)⟩ [] (T.alt ⟨some 24, none, .call 60 [.t 23]⟩ [] (T.pure 11 ⟨some 3, none, .mov (.t 24)⟩ T.done) T.stop) T.stop) T.stop) T.stop)))))))))) (.seq (.seq (.reg [⟨some 25, none, .mov (.t 3)⟩, ⟨some 26, none, .len true (.t 25)⟩, ⟨some 27, none, .bin .gtr 3 (.t 26) (.c (.int .i64 400))⟩]) (.cond (.t 27) (.seq (.reg [⟨some 2, none, .mov (.c (.string ⟨⟨[]⟩⟩))⟩]) .ret) .skip)) (.seq (.reg [⟨some 28, none, .mov (.t 3)⟩, ⟨some 2, none, .mov (.t 28)⟩]) .ret))))
theorem code_impl_NoteText : fnC Try.prog Try.f54 = some (c_impl_NoteText, [.t 2], 29) := by kernel_rfl
set_option maxHeartbeats 2000000 in
theorem p_impl_NoteText (n : Nt) (hb : totNt n ≤ 2000000) : Pure Try.prog 54 [.agg (encNt n)] (.c (.val (.string (noteS n)))) := by
  refine pure_fn Try.func54 code_impl_NoteText (by simp) ?_
  unfold c_impl_NoteText
  obtain ⟨seq, kind, run, plan, task, tri, worker, draw⟩ := n
  have hb' : totDd ⟨kind, run, plan, task, tri, worker, draw⟩ ≤ 2000000 := hb
  have hnl := numsL_le _ hb'
  simp -implicitDefEqProofs only [go_sem, encNt, encDd, encPl]
  intro b
  refine run_call (p_impl_DeedOk ⟨kind, run, plan, task, tri, worker, draw⟩ hb') (by simp -implicitDefEqProofs only [go_sem, encDd, encPl]) fun η => ?_
  cases hd : deedB ⟨kind, run, plan, task, tri, worker, draw⟩
  · simp -implicitDefEqProofs only [go_sem]
    simp [noteS, hd]
  simp -implicitDefEqProofs only [go_sem]
  refine run_call (p_impl_within seq 1 1000000000) (by simp -implicitDefEqProofs only [go_sem]) fun η => ?_
  by_cases hs : 1 ≤ seq ∧ seq ≤ 1000000000
  · have e : noteS ⟨seq, kind, run, plan, task, tri, worker, draw⟩ = cutS (varsS (seq :: kind :: numsL ⟨kind, run, plan, task, tri, worker, draw⟩)) := by simp [noteS, hd, hs, noteL]
    rw [e]
    simp -implicitDefEqProofs only [go_sem, hs]
    have hpd := p_deedNumbers ⟨kind, run, plan, task, tri, worker, draw⟩ hb'
    generalize numsL ⟨kind, run, plan, task, tri, worker, draw⟩ = l at *
    have m1 : 2 + l.length ≤ maxLen := by unfold maxLen; omega
    have m2 : (2 + l.length) * 8 ≤ 140737488355328 := by omega
    have m3 : D.sl 1 tInt (iv seq :: iv kind :: l.flatMap (fun n => [iv n])) = encInts (seq :: kind :: l) := rfl
    refine ⟨fun η1 => run_call hpd (by simp -implicitDefEqProofs only [go_sem, encDd, encPl]) fun η2 => ?_, run_call hpd (by simp -implicitDefEqProofs only [go_sem, encDd, encPl]) fun η2 => ?_⟩
    · simp -implicitDefEqProofs only [go_sem, m1, m2, m3]
      intro η3
      refine run_call (p_impl_vars (seq :: kind :: l) (by simp only [List.length_cons]; omega)) (by simp -implicitDefEqProofs only [go_sem]) fun η4 => ?_
      by_cases h4 : 400 < (varsS (seq :: kind :: l)).size
      · have h4' : (400 : Int) < (varsS (seq :: kind :: l)).size := by omega
        simp -implicitDefEqProofs only [go_sem, h4']
        simp [cutS, h4]
      · have h4' : ¬ (400 : Int) < (varsS (seq :: kind :: l)).size := by omega
        simp -implicitDefEqProofs only [go_sem, h4']
        simp [cutS, h4]
    · simp -implicitDefEqProofs only [go_sem, m1, m2, m3]
      intro η1 η3
      refine run_call (p_impl_vars (seq :: kind :: l) (by simp only [List.length_cons]; omega)) (by simp -implicitDefEqProofs only [go_sem]) fun η4 => ?_
      by_cases h4 : 400 < (varsS (seq :: kind :: l)).size
      · have h4' : (400 : Int) < (varsS (seq :: kind :: l)).size := by omega
        simp -implicitDefEqProofs only [go_sem, h4']
        simp [cutS, h4]
      · have h4' : ¬ (400 : Int) < (varsS (seq :: kind :: l)).size := by omega
        simp -implicitDefEqProofs only [go_sem, h4']
        simp [cutS, h4]
  · simp -implicitDefEqProofs only [go_sem, hs]
    simp [noteS, hs]
end Go.Proofs.Ytbplebgnkhmemaa
