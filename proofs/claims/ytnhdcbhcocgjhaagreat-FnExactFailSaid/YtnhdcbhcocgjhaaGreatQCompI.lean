/- Texts for laws: CompI. -/
import Derived.Test.YtnhdcbhcocgjhaaGreatQChange
import Derived.Test.YtnhdcbhcocgjhaaGreatQCompS
import Derived.Test.YtnhdcbhcocgjhaaGreatQTurnP
set_option linter.unusedSimpArgs false
set_option linter.unusedVariables false
set_option maxRecDepth 100000
namespace Go.Proofs.YtnhdcbhcocgjhaaGreat
open Go.RowKit Go.Sort
theorem hold_run {y : Yd} {id task tri : Int} {k : Nat} {r : Rn} (h : askC y id task tri = 0) (hk : runAt y id = (k : Int)) (hr : y.runs[k]? = some r) : ∃ t : Nat, task = (t : Int) ∧ runsB r task = true := by
  have hok := (ask_0 h).1
  have hh : holds y id task tri = true := by
    unfold askC at h
    split at h
    · cases h
    split at h
    · cases h
    split at h
    · cases h
    · rename_i h3; simpa using h3
  unfold holds at hh
  rcases taskAt_cases y id task with ⟨_, h2⟩ | ⟨k', r', h1, h2, ⟨_, h3⟩ | ⟨j, x, hj, hx, h3⟩⟩
  · rw [h2] at hh; cases hh
  · rw [h3] at hh; cases hh
  · rw [h3] at hh
    obtain rfl : k = k' := by omega
    obtain rfl : r = r' := by rw [hr] at h2; exact Option.some.inj h2
    refine ⟨j, hj, ?_⟩
    subst hj
    have hl := (List.getElem?_eq_some_iff.1 hx).1
    simp only [Bool.and_eq_true, beq_iff_eq] at hh
    have hR := hok.right r (List.mem_of_getElem? hr)
    simp only [runsB, inB, Bool.and_eq_true, decide_eq_true_eq, beq_iff_eq, stT_nat hx, runOk_iff]
    exact ⟨⟨by omega, hh.1⟩, hR⟩
def c_impl_Complete : C := .seq (.reg [⟨some 4, none, .box 30 4 (.t 0)⟩, ⟨some 6, none, .box 3 1 (.t 2)⟩, ⟨some 8, none, .alloc 30 [.int .i64 0, .int .i64 0, .slice none 0 0, .slice none 0 0]⟩, ⟨some 9, none, .mov (.c (.int .i64 0))⟩]) (.seq (.reg [⟨some 12, none, .ld true 4 (.t 4)⟩, ⟨some 13, none, .call 50 [.t 12]⟩, ⟨some 10, none, .alloc 30 [.int .i64 0, .int .i64 0, .slice none 0 0, .slice none 0 0]⟩, ⟨none, none, .st 4 [none, none, some (1, 103), some (8, 80)] (.t 10) (.t 13)⟩]) (.seq (.reg [⟨some 14, none, .ld true 4 (.t 4)⟩, ⟨some 15, none, .mov (.t 1)⟩, ⟨some 16, none, .ld false 1 (.t 6)⟩, ⟨some 17, none, .mov (.t 3)⟩, ⟨some 18, none, .call 51 [.t 14, .t 15, .t 16, .t 17]⟩, ⟨some 11, none, .mov (.t 18)⟩]) (.seq (.seq (.reg [⟨some 19, none, .mov (.t 11)⟩, ⟨some 20, none, .bin .eql 3 (.t 19) (.c (.int .i64 0))⟩]) (.cond (.t 20) (.reg [⟨some 21, none, .ld true 4 (.t 4)⟩, ⟨some 22, none, .mov (.t 1)⟩, ⟨some 23, none, .call 53 [.t 21, .t 22]⟩, ⟨some 24, none, .mkf 54 [.t 6]⟩, ⟨some 25, none, .call 52 [.t 10, .t 23, .t 24]⟩]) .skip)) (.seq (.reg [⟨some 26, none, .ld true 4 (.t 10)⟩, ⟨some 27, none, .mov (.t 11)⟩, ⟨none, none, .st 4 [none, none, some (1, 103), some (8, 80)] (.t 8) (.t 26)⟩, ⟨some 9, none, .mov (.t 27)⟩]) .ret))))
theorem code_impl_Complete : fnC Tryz.prog Tryz.f14 = some (c_impl_Complete, [.cell 8 true 4, .t 9], 28) := by kernel_rfl
def c_impl_Complete_1 : C := .reg [⟨some 3, none, .mov (.t 0)⟩, ⟨some 4, none, .ld false 1 (.t 1)⟩, ⟨some 5, none, .call 55 [.t 3, .t 4]⟩]
theorem code_impl_Complete_1 : fnC Tryz.prog Tryz.f54 = some (c_impl_Complete_1, [], 6) := by kernel_rfl
set_option maxHeartbeats 4000000 in
theorem clos_Complete {k t b6 : Nat} {y : Yd} {r : Rn} (hr : y.runs[k]? = some r) (hrun : runsB r t = true) : ClosK Tryz.prog 54 [.bp 91 0 b6] (.box b6 tInt [.a (.v (.int .i64 t))]) k y (runDone r t) := by
  intro o b e2 e3 h90 h91
  refine turns_fn (β := 6000000) Tryz.func54 code_impl_Complete_1 (by simp) ?_
  unfold c_impl_Complete_1
  simp -implicitDefEqProofs only [go_sem, h91]
  refine run_inl_at (by simp -implicitDefEqProofs only [go_sem]) (ep_done hr hrun _ b e2 e3 (by simp -implicitDefEqProofs only [go_sem]; exact h90)) ?_
  rintro _ o1 ⟨rfl, j90, j91, j92, j93, j94, j95, j96, j97⟩
  simp -implicitDefEqProofs only [go_sem] at j91 j92 j93 j94 j95 j96 j97
  rw [h91] at j91
  exact ⟨.tup [], ⟨by decide, rfl⟩, rfl, rfl, j90, j91, j92, j93, j94, j95, j96, j97⟩
set_option maxHeartbeats 8000000 in
theorem p_impl_Complete (y : Yd) (id task tri : Int) (ht : totYd y ≤ 2000000) : Pure Tryz.prog 14 [.agg (encYd y), .c (.val (.int .i64 id)), .c (.val (.int .i64 task)), .c (.val (.int .i64 tri))] (.tup [(true, encYd (compY y id task tri)), (false, [.val (.int .i64 (askC y id task tri))])]) := by
  refine pure_gn [[1,1,1,0,1,0]] Tryz.func14 code_impl_Complete (by simp) ?_
  unfold c_impl_Complete
  simp only [C.ghs, C.ghAt, List.foldr]
  simp -implicitDefEqProofs only [go_sem, encYd]
  intro b4 b6 b8
  refine run_call (p_impl_copyYard y ht) (by simp -implicitDefEqProofs only [go_sem, encYd]) fun ηc => ?_
  simp -implicitDefEqProofs only [go_sem, encYd]
  intro b10
  refine run_call (p_impl_told y id task tri ht) (by simp -implicitDefEqProofs only [go_sem, encYd]) fun η => ?_
  simp -implicitDefEqProofs only [go_sem, encYd]
  cases h0 : askC y id task tri == 0
  · have hy : compY y id task tri = y := by rw [compY, if_neg (by simpa using h0)]
    simp -implicitDefEqProofs only [go_sem, encYd, h0, hy]
    refine ret2_ _ _ _ _ _ ?_
    simp -implicitDefEqProofs only [go_sem, encYd]
  have h0' : askC y id task tri = 0 := by simpa using h0
  obtain ⟨hok, hneg⟩ := ask_0 h0'
  obtain ⟨k, r, hrk, hr, hid, h8⟩ := runAt_get hneg
  obtain ⟨t, rfl, hrun⟩ := hold_run h0' hrk hr
  have hY : compY y id t tri = turnY y k (runDone r t) := by rw [compY, if_pos h0', hrk, Int.toNat_natCast, hr, Option.getD_some]
  have hr12 : r.tasks.length ≤ 12 := (hok.right r (List.mem_of_getElem? hr)).le12
  rw [hY, h0']
  simp -implicitDefEqProofs only [go_sem, encYd, h0]
  refine wp_gk ?_
  generalize ηc 2 = η2 at *
  generalize ηc 3 = η3 at *
  refine WkK.wk (s' := St.of [(1, Ni id), (4, Bx 93 b4), (6, Bx 91 b6), (8, Bx 92 b8), (10, Bx 90 b10), (11, Ni 0)] [(93, Bi b4 tYd (encYd y)), (91, .box b6 tInt [.a (.v (.int .i64 t))]), (92, ZYd b8 tYd), (90, YdBox b10 tYd y.now y.seq y.shelf η2 y.runs η3)]) (wk_of [some 400, some 600, some 800, some 1000] (by simp -implicitDefEqProofs only [go_sem, encYd] <;> and_intros <;> first | rfl | assumption)) ?_
  refine WkK.of ?_
  simp -implicitDefEqProofs only [go_sem, encYd]
  refine run_call (p_impl_RunAt y id) (by simp -implicitDefEqProofs only [go_sem, encYd]) fun η => ?_
  simp -implicitDefEqProofs only [go_sem, encYd]
  rw [hrk]
  refine run_inl_at (vs := [Bx 90 b10, Ni k, .fn 54 [.bp 91 0 b6]]) (by simp -implicitDefEqProofs only [go_sem]) (inl_change hr (runDone_len r t) hr12 hok.four (by have := hok.seq; omega) ht (clos_Complete hr hrun) (e2 := η2) (e3 := η3) (by simp -implicitDefEqProofs only [go_sem]) (by simp -implicitDefEqProofs only [go_sem])) ?_
  rintro _ o1 ⟨rfl, ⟨e2', e3', j90⟩, j91, j92, j93, j94, j95, j96⟩
  simp -implicitDefEqProofs only [go_sem] at j92
  generalize turnY y k (runDone r t) = y2 at *
  simp -implicitDefEqProofs only [go_sem, j90, j92]
  refine ret2_ _ _ _ _ _ ?_
  simp -implicitDefEqProofs only [go_sem, encYd]
theorem tot_comp (y : Yd) (id task tri : Int) (ht : totYd y ≤ 1900000) : totYd (compY y id task tri) ≤ 2000000 := by
  unfold compY
  split
  · rename_i h
    obtain ⟨hok, hneg⟩ := ask_0 h
    obtain ⟨k, r, hrk, hr, hid, h8⟩ := runAt_get hneg
    rw [hrk, Int.toNat_natCast, hr, Option.getD_some]
    have h12 := (hok.right r (List.mem_of_getElem? hr)).le12
    have := tot_turn (r2 := runDone r task) hr (runDone_tot r task) (by rw [runDone_len]; exact h12)
    omega
  · omega
end Go.Proofs.YtnhdcbhcocgjhaaGreat
