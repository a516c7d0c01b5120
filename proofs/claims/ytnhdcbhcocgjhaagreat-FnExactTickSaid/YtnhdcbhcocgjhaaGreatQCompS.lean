/- Texts for laws: CompS. -/
import Derived.Test.YtnhdcbhcocgjhaaGreatQTurnP
set_option linter.unusedSimpArgs false
set_option linter.unusedVariables false
set_option maxRecDepth 100000
namespace Go.Proofs.YtnhdcbhcocgjhaaGreat
open Go.RowKit Go.Sort
noncomputable def compY (y : Yd) (id task tri : Int) : Yd := if askC y id task tri = 0 then turnY y (runAt y id).toNat (runDone ((y.runs[(runAt y id).toNat]?).getD default) task) else y
def c_spec_Complete : C := .seq (.reg [⟨some 4, none, .box 30 4 (.t 0)⟩, ⟨some 8, none, .alloc 30 [.int .i64 0, .int .i64 0, .slice none 0 0, .slice none 0 0]⟩, ⟨some 9, none, .mov (.c (.int .i64 0))⟩]) (.seq (.reg [⟨some 13, none, .ld true 4 (.t 4)⟩, ⟨some 14, none, .call 43 [.t 13]⟩, ⟨some 10, none, .alloc 30 [.int .i64 0, .int .i64 0, .slice none 0 0, .slice none 0 0]⟩, ⟨none, none, .st 4 [none, none, some (1, 103), some (8, 80)] (.t 10) (.t 14)⟩]) (.seq (.reg [⟨some 15, none, .ld true 4 (.t 4)⟩, ⟨some 16, none, .mov (.t 1)⟩, ⟨some 17, none, .mov (.t 2)⟩, ⟨some 18, none, .mov (.t 3)⟩, ⟨some 19, none, .call 44 [.t 15, .t 16, .t 17, .t 18]⟩, ⟨some 11, none, .mov (.t 19)⟩]) (.seq (.seq (.reg [⟨some 20, none, .mov (.t 11)⟩, ⟨some 21, none, .bin .neq 3 (.t 20) (.c (.int .i64 0))⟩]) (.cond (.t 21) (.seq (.reg [⟨some 22, none, .ld true 4 (.t 10)⟩, ⟨some 23, none, .mov (.t 11)⟩, ⟨none, none, .st 4 [none, none, some (1, 103), some (8, 80)] (.t 8) (.t 22)⟩, ⟨some 9, none, .mov (.t 23)⟩]) .ret) .skip)) (.seq (.reg [⟨some 24, none, .ld true 4 (.t 4)⟩, ⟨some 25, none, .mov (.t 1)⟩, ⟨some 26, none, .call 45 [.t 24, .t 25]⟩, ⟨some 12, none, .mov (.t 26)⟩]) (.seq (.dreg (T.pure 0 ⟨some 27, none, .ld true 4 (.t 10)⟩ (T.pure 1 ⟨some 28, none, .mov (.t 12)⟩ (T.pure 2 ⟨some 29, none, .fa 3 (.t 10)⟩ (T.pure 3 ⟨some 30, none, .ld false 1 (.t 29)⟩ (T.pure 4 ⟨some 31, none, .mov (.t 12)⟩ (T.pure 5 ⟨some 32, none, .ia 8 (.t 30) (.t 31)⟩ (T.pure 6 ⟨some 33, none, .ld true 8 (.t 32)⟩ (T.pure 7 ⟨some 34, none, .mov (.t 2)⟩ (T.alt ⟨some 35, none, .call 47 [.t 33, .t 34]⟩ [1, 0] (T.alt ⟨some 36, none, .call 46 [.t 27, .t 28, .t 35]⟩ [] (T.alt ⟨none, none, .st 4 [none, none, some (1, 103), some (8, 80)] (.t 8) (.t 36)⟩ [] (T.pure 11 ⟨some 9, none, .mov (.c (.int .i64 0))⟩ T.done) T.stop) T.stop) T.stop)))))))))) .ret)))))
theorem code_spec_Complete : fnC Tryz.prog Tryz.f12 = some (c_spec_Complete, [.cell 8 true 4, .t 9], 37) := by kernel_rfl
def c_spec_l13Turn : C := .seq (.reg [⟨some 3, none, .box 30 4 (.t 0)⟩, ⟨some 5, none, .box 80 8 (.t 2)⟩, ⟨some 6, none, .alloc 30 [.int .i64 0, .int .i64 0, .slice none 0 0, .slice none 0 0]⟩]) (.seq (.reg [⟨some 8, none, .fa 3 (.t 3)⟩, ⟨some 9, none, .ld false 1 (.t 8)⟩, ⟨some 10, none, .mov (.t 1)⟩, ⟨some 11, none, .ia 8 (.t 9) (.t 10)⟩, ⟨some 12, none, .ld true 8 (.t 11)⟩, ⟨some 7, none, .alloc 80 [.int .i64 0, .int .i64 0, .int .i64 0, .int .i64 0, .int .i64 0, .slice none 0 0, .int .i64 0, .slice none 0 0]⟩, ⟨none, none, .st 8 [none, none, none, none, none, some (2, 182), none, some (4, 98)] (.t 7) (.t 12)⟩]) (.seq (.reg [⟨some 13, none, .fa 3 (.t 3)⟩, ⟨some 14, none, .ld false 1 (.t 13)⟩, ⟨some 15, none, .mov (.t 1)⟩, ⟨some 16, none, .ld true 8 (.t 5)⟩, ⟨some 17, none, .ia 8 (.t 14) (.t 15)⟩, ⟨none, none, .st 8 [none, none, none, none, none, some (2, 182), none, some (4, 98)] (.t 17) (.t 16)⟩]) (.seq (.reg [⟨some 18, none, .ld true 4 (.t 3)⟩, ⟨some 19, none, .ld true 8 (.t 7)⟩, ⟨some 20, none, .ld true 8 (.t 5)⟩, ⟨some 21, none, .call 107 [.t 18, .t 19, .t 20]⟩, ⟨none, none, .st 4 [none, none, some (1, 103), some (8, 80)] (.t 6) (.t 21)⟩]) .ret)))
theorem code_spec_l13Turn : fnC Tryz.prog Tryz.f46 = some (c_spec_l13Turn, [.cell 6 true 4], 22) := by kernel_rfl
set_option maxHeartbeats 8000000 in
theorem p_spec_Complete (y : Yd) (id task tri : Int) (ht : totYd y ≤ 2000000) : Pure Tryz.prog 12 [.agg (encYd y), .c (.val (.int .i64 id)), .c (.val (.int .i64 task)), .c (.val (.int .i64 tri))] (.tup [(true, encYd (compY y id task tri)), (false, [.val (.int .i64 (askC y id task tri))])]) := by
  refine pure_fn Tryz.func12 code_spec_Complete (by simp) ?_
  unfold c_spec_Complete
  simp -implicitDefEqProofs only [go_sem, encYd]
  intro b4 b8
  refine run_call (p_spec_l10Copy y ht) (by simp -implicitDefEqProofs only [go_sem, encYd]) fun ηc => ?_
  simp -implicitDefEqProofs only [go_sem, encYd]
  intro b10
  refine run_call (p_spec_l13Ask y id task tri ht) (by simp -implicitDefEqProofs only [go_sem, encYd]) fun η => ?_
  simp -implicitDefEqProofs only [go_sem, encYd]
  cases h0 : askC y id task tri != 0
  rotate_left
  · have hy : compY y id task tri = y := by rw [compY, if_neg (by simpa using h0)]
    simp -implicitDefEqProofs only [go_sem, encYd, h0, hy]
    refine ret2_ _ _ _ _ _ ?_
    simp -implicitDefEqProofs only [go_sem, encYd]
  have h0' : askC y id task tri = 0 := by simpa using h0
  obtain ⟨hok, hneg⟩ := ask_0 h0'
  obtain ⟨k, r, hrk, hr, hid, h8⟩ := runAt_get hneg
  have hk := (List.getElem?_eq_some_iff.1 hr).1
  have h0k : (k : Int) ≥ 0 := by omega
  have hk0 : ¬ (k : Int) < 0 := by omega
  have hY : compY y id task tri = turnY y k (runDone r task) := by rw [compY, if_pos h0', hrk, Int.toNat_natCast, hr, Option.getD_some]
  rw [hY, h0']
  simp -implicitDefEqProofs only [go_sem, encYd, h0]
  refine run_call (p_spec_RunAt y id) (by simp -implicitDefEqProofs only [go_sem, encYd]) fun η => ?_
  simp -implicitDefEqProofs only [go_sem, encYd]
  have hrb := run1_le ht (List.mem_of_getElem? hr)
  simp -implicitDefEqProofs only [go_sem, encYd, hrk, hk0, h0k, hk, at_rn hr, in_rn hr, encRn, encPl]
  refine run_call (p_spec_RunDone r task hrb.1 hrb.2) (by simp -implicitDefEqProofs only [go_sem, encYd, encRn, encPl, get_rns5' hr, get_rns7' hr]) fun ηr => ?_
  simp -implicitDefEqProofs only [go_sem, encYd, encRn, encPl, get_rns5' hr, get_rns7' hr]
  have hrl : (runDone r task).tasks.length = r.tasks.length := runDone_len r task
  have hr12 : r.tasks.length ≤ 12 := (hok.right r (List.mem_of_getElem? hr)).le12
  generalize runDone r task = r2 at *
  refine run_inl (inl_gn (β := 5000000) [[1,0], [1,1,0], [1,1,1,0], [1,1,1,1]] Tryz.func46 code_spec_l13Turn (by simp) ?_)
  unfold c_spec_l13Turn
  simp only [C.ghs, C.ghAt, List.foldr]
  simp -implicitDefEqProofs only [go_sem]
  intro c3 c5 c6
  refine wp_gk ?_
  generalize ηc 2 = η2 at *
  generalize ηc 3 = η3 at *
  generalize ηr 5 = η5 at *
  generalize ηr 7 = η7 at *
  have hR : encRns y.runs = .sl 8 tRn (rnsR y.runs k (encRn r)) := by rw [encRns, rnsR_enc hr]
  refine WkK.wk (s' := St.of [(1, Ni k), (3, Bx 3 c3), (5, Bx 5 c5), (6, Bx 66 c6)] [(800, ZYd b8 _), (3, YdBoxD c3 _ y.now y.seq y.shelf η2 (encRns y.runs) η3), (5, RnBox c5 _ r2 η5 η7), (66, ZYd c6 _)]) (wk_of [some 800, some 500000300, some 500000500, some 500000600] (by simp -implicitDefEqProofs only [go_sem, encYd, encPl, encRn] <;> and_intros <;> first | rfl | assumption)) ?_
  rw [hR]
  refine wk_cutN 3 3 (k * 8 + 5) 901 (η := η3) (cs := r.plan.edges.flatMap encEd) rfl (rnsR_get hk 5 (by simp [encRn, encPl])) rfl (by decide) fun ηa ηA hA1 hA2 hA3 => ?_
  rw [rnsR_set hk 5 (by simp [encRn, encPl])]
  refine wk_cutN 3 3 (k * 8 + 7) 902 (η := ηA) (cs := r.tasks.flatMap encTk) rfl (rnsR_get hk 7 (by simp [encRn, encPl])) rfl (by decide) fun ηb ηB hB1 hB2 hB3 => ?_
  rw [rnsR_set hk 7 (by simp [encRn, encPl])]
  rw [← hA2, ← hB2]
  rw [← hA2] at hA3
  rw [← hB2] at hB3
  have hV : ((encRn r).set 5 (.val (ηa []))).set 7 (.val (ηb [])) = rnV r (ηa []) (ηb []) := rfl
  rw [hV]
  refine WkK.wk (s' := St.of [(1, Ni k), (3, Bx 3 c3), (5, Bx 5 c5), (6, Bx 66 c6)] [(800, ZYd b8 _), (3, YdBoxD c3 _ y.now y.seq y.shelf η2 (.sl 8 tRn (rnsR y.runs k (rnV r (ηa []) (ηb [])))) ηB), (5, RnBox c5 _ r2 η5 η7), (66, ZYd c6 _), (901, .loose (encEds r.plan.edges) ηa), (902, .loose (encTks r.tasks) ηb)]) (wk_of [some 800, some 3, some 5, some 66, some 901, some 902] (by simp -implicitDefEqProofs only [go_sem, encYd, encPl, encRn] <;> and_intros <;> first | rfl | assumption)) ?_
  refine WkK.of ?_
  have hl1 : (rnsR y.runs k (rnV r (ηa []) (ηb []))).length = y.runs.length * 8 := rnsR_len hk rfl
  have hd8 : y.runs.length * 8 / 8 = y.runs.length := Nat.mul_div_cancel _ (by decide)
  have ha1 : ((rnsR y.runs k (rnV r (ηa []) (ηb []))).drop (k * 8)).take 8 = rnV r (ηa []) (ηb []) := rnsR_at hk rfl
  have hi8 : k * 8 + 8 ≤ y.runs.length * 8 := by omega
  have hdl : (D.sl 8 tRn (rnsR y.runs k (rnV r (ηa []) (ηb [])))).len = y.runs.length := rnsR_dlen hk rfl
  simp -implicitDefEqProofs only [go_sem, hl1, hdl, ha1, hi8, hk, h0k, hA3, hB3]
  intro c7
  refine wp_gk ?_
  refine WkK.wk (s' := St.of [(1, Ni k), (3, Bx 3 c3), (5, Bx 5 c5), (6, Bx 66 c6), (7, Bx 7 c7)] [(800, ZYd b8 _), (3, YdBoxD c3 _ y.now y.seq y.shelf η2 (.sl 8 tRn (rnsR y.runs k (rnV r (ηa []) (ηb [])))) ηB), (5, RnBox c5 _ r2 η5 η7), (66, ZYd c6 _), (7, RnBoxH c7 _ r (ηa []) (ηb [])), (901, .loose (encEds r.plan.edges) ηa), (902, .loose (encTks r.tasks) ηb)]) (wk_of [some 800, some 3, some 5, some 66, some 500000700, some 901, some 902] (by simp -implicitDefEqProofs only [go_sem, encYd, encPl, encRn] <;> and_intros <;> first | rfl | assumption)) ?_
  refine wk_graft0 7 5 901 (d := encEds r.plan.edges) (η := ηa) rfl rfl rfl ?_
  refine wk_graft0 7 7 902 (d := encTks r.tasks) (η := ηb) rfl rfl rfl ?_
  refine wk_cut0 5 5 903 (d := encEds r2.plan.edges) (η := η5) rfl rfl (by decide) fun hx5 => ?_
  refine wk_cut0 5 7 904 (d := encTks r2.tasks) (η := η7) rfl rfl (by decide) fun hx7 => ?_
  refine WkK.of ?_
  simp -implicitDefEqProofs only [go_sem, hl1, hdl, ha1, hi8, hk, h0k, hx5, hx7]
  refine stH_any fun ηC => ?_
  have hput : D.put [] (k * 8) (rnH r2 (η5 []) (η7 [])) (.sl 8 tRn (rnsR y.runs k (rnV r (ηa []) (ηb [])))) = .sl 8 tRn (rnsR y.runs k (rnH r2 (η5 []) (η7 []))) := by
    simp only [D.put]; rw [rnsR_put hk rfl rfl]
  refine wp_gk ?_
  refine WkK.wk (s' := St.of [(1, Ni k), (3, Bx 3 c3), (5, Bx 5 c5), (6, Bx 66 c6), (7, Bx 7 c7)] [(800, ZYd b8 _), (3, YdBoxD c3 _ y.now y.seq y.shelf η2 (.sl 8 tRn (rnsR y.runs k (rnH r2 (η5 []) (η7 [])))) ηC), (5, RnBoxH c5 _ r2 (η5 []) (η7 [])), (66, ZYd c6 _), (7, RnBox c7 _ r ηa ηb), (903, .loose (encEds r2.plan.edges) η5), (904, .loose (encTks r2.tasks) η7)]) (wk_of [some 800, some 3, some 5, some 66, some 7, some 903, some 904] (by simp -implicitDefEqProofs only [go_sem, encYd, encPl, encRn, hput] <;> and_intros <;> first | rfl | assumption)) ?_
  refine wk_graft0 5 5 903 (d := encEds r2.plan.edges) (η := η5) rfl rfl rfl ?_
  refine wk_graft0 5 7 904 (d := encTks r2.tasks) (η := η7) rfl rfl rfl ?_
  generalize hdR : D.sl 8 tRn (rnsR y.runs k (rnH r2 (η5 []) (η7 []))) = dR at *
  refine WkK.wk (s' := St.of [(1, Ni k), (3, Bx 3 c3), (5, Bx 5 c5), (6, Bx 66 c6), (7, Bx 7 c7)] [(800, ZYd b8 _), (3, YdBoxD c3 _ y.now y.seq y.shelf η2 dR ηC), (5, RnBox c5 _ r2 η5 η7), (66, ZYd c6 _), (7, RnBox c7 _ r ηa ηb)]) (wk_of [some 800, some 3, some 5, some 66, some 7] (by simp -implicitDefEqProofs only [go_sem, encYd, encPl, encRn] <;> and_intros <;> first | rfl | assumption)) ?_
  refine WkK.of ?_
  simp -implicitDefEqProofs only [go_sem, encYd, encPl, encRn]
  refine run_inl (inl_fn (β := 7000000) Tryz.func107 code_spec_l10Lay (by simp) ?_)
  unfold c_spec_l10Lay
  simp -implicitDefEqProofs only [go_sem, encEn, encTk]
  intro d3 d4 d5 d6
  refine run_call (p_spec_ShelfOf r2.id) (by simp -implicitDefEqProofs only [go_sem, encRn, encPl]) fun η => ?_
  simp -implicitDefEqProofs only [go_sem, encRn, encPl]
  obtain ⟨hsn, hs4⟩ := shN_ r2.id
  rw [hsn]
  have hLY : turnY y k r2 = ⟨y.now, (layL r2.plan.prio r2.id (newL r.tasks r2.tasks r2.tasks.length) ((y.shelf[shN r2.id]?).getD default, y.seq)).2, y.shelf.set (shN r2.id) (layL r2.plan.prio r2.id (newL r.tasks r2.tasks r2.tasks.length) ((y.shelf[shN r2.id]?).getD default, y.seq)).1, y.runs.set k r2⟩ := by rw [turnY, hr, Option.getD_some]; rfl
  rw [hLY]
  generalize shN r2.id = n at *
  have h4 := hok.four
  have hq := hok.seq
  have hn : n < y.shelf.length := by omega
  have h0n : (n : Int) ≥ 0 := by omega
  obtain ⟨l, hl⟩ := get_some hn
  have hll := shelf2_le ht (List.mem_of_getElem? hl)
  rw [hl, Option.getD_some]
  refine wp_loopW (fun i : Nat × Heads => St.of [(3, Bx 3 d3), (4, Bx 4 d4), (5, Bx 5 d5), (6, Bx 6 d6), (7, Ni n), (8, Ni i.1)] [(800, ZYd b8 _), (66, ZYd c6 _), (3, YdBoxD d3 _ y.now (layL r2.plan.prio r2.id (newL r.tasks r2.tasks i.1) (l, y.seq)).2 (y.shelf.set n (layL r2.plan.prio r2.id (newL r.tasks r2.tasks i.1) (l, y.seq)).1) i.2 dR ηC), (4, RnBox d4 _ r ηa ηb), (5, RnBox d5 _ r2 η5 η7), (6, ZYd d6 _)]) (fun i => i.1 ≤ r2.tasks.length) (fun i => r2.tasks.length - i.1) (0, η2) (by (try dsimp only); first | omega | (simp; done) | (and_intros <;> first | omega | simp)) (wk_of [some 800, some 66, some 700000300, some 700000400, some 700000500, some 700000600] (by simp -implicitDefEqProofs only [go_sem, encYd, encPl, encRn, newL_0, layL_nil, set_same hl] <;> and_intros <;> first | rfl | assumption)) ?_
  rintro ⟨j, η⟩ hj
  dsimp only at hj
  have hsq := layL_seq r2.plan.prio r2.id (newL r.tasks r2.tasks j) (l, y.seq)
  have hle := layL_len r2.plan.prio r2.id (newL r.tasks r2.tasks j) (l, y.seq)
  have hnl := newL_len r.tasks r2.tasks j
  have hsnoc := layL_snoc r2.plan.prio r2.id (newL r.tasks r2.tasks j) j (l, y.seq)
  have hnx := newL_s r.tasks r2.tasks j
  dsimp only at hsq hle
  by_cases hlt : j < r2.tasks.length
  · have hlt' : (j : Int) < r2.tasks.length := by omega
    have hltw : j < r.tasks.length := by omega
    have hltw' : (j : Int) < r.tasks.length := by omega
    have h0j : (j : Int) ≥ 0 := by omega
    obtain ⟨x, hx⟩ := get_some hlt
    obtain ⟨z, hz⟩ := get_some hltw
    have hw : IntKind.i64.wrap ((j : Int) + 1) = ((j + 1 : Nat) : Int) := wrap64 (by omega) (by omega)
    rw [newB_lt hx hz] at hnx
    have hw2 : IntKind.i64.wrap ((layL r2.plan.prio r2.id (newL r.tasks r2.tasks j) (l, y.seq)).2 + 1) = (layL r2.plan.prio r2.id (newL r.tasks r2.tasks j) (l, y.seq)).2 + 1 := wrap64 (by omega) (by omega)
    generalize hPe : layL r2.plan.prio r2.id (newL r.tasks r2.tasks j) (l, y.seq) = P at *
    obtain ⟨sh, hsh⟩ : ∃ s, y.shelf.set n P.1 = s := ⟨_, rfl⟩
    have hSl : sh[n]? = some P.1 := by rw [← hsh]; exact List.getElem?_set_self hn
    have hns : n < sh.length := by rw [← hsh, List.length_set]; exact hn
    have hss : ∀ L, sh.set n L = y.shelf.set n L := fun L => by rw [← hsh, List.set_set]
    have hi1 : n + 1 ≤ (sh.flatMap fun es => [encEns es]).length := by have := in_encSh hns; rwa [Nat.mul_one] at this
    have hb1 : ((sh.flatMap fun es => [encEns es]).drop n).take 1 = [encEns P.1] := by have := at_encSh hSl; rwa [Nat.mul_one] at this
    rw [hsh]
    cases h2 : x.state != 2
    · have h2' : (x.state == 2) = true := by have : x.state = 2 := by simpa using h2
                                             simp [this]
      rw [h2', Bool.true_and] at hnx
      cases h3 : z.state == 2
      · rw [h3, Bool.not_false, if_pos rfl] at hnx
        rw [← hnx] at hsnoc
        simp -implicitDefEqProofs only [go_sem, encPl, encRn, encTk, hlt', h0j, hlt, hltw, hltw', at_tk0 hx, in_tk0 hx, at_tk0' hx, in_tk0' hx, at_tk0 hz, in_tk0 hz, at_tk0' hz, in_tk0' hz, h2, h3]
        simp -implicitDefEqProofs only [go_sem, hns, Nat.mul_one, hb1, hi1, h0n]
        refine run_call (p_spec_PutEntry P.1 ⟨r2.plan.prio, P.2, r2.id, j⟩ (by omega)) (by simp -implicitDefEqProofs only [go_sem, encEn, get_sh hSl]) fun ηp => ?_
        simp -implicitDefEqProofs only [go_sem, encEn, get_sh hSl]
        simp -implicitDefEqProofs only [go_sem, hns, Nat.mul_one, hi1, hb1, h0n, put_sh1, hw2, hw, hss]
        refine fun η' hη' => ?_
        exact ⟨(j + 1, η'), by (try dsimp only); first | omega | assumption | (and_intros <;> first | omega | assumption), (wk_of [some 800, some 66, some 3, some 4, some 5, some 6] (by simp -implicitDefEqProofs only [go_sem, encYd, encPl, encRn, hsnoc] <;> and_intros <;> first | rfl | assumption)), by (try dsimp only); omega⟩
      · rw [h3, Bool.not_true, if_neg (by decide), List.append_nil] at hnx
        simp -implicitDefEqProofs only [go_sem, encPl, encRn, encTk, hlt', h0j, hlt, hltw, hltw', at_tk0 hx, in_tk0 hx, at_tk0' hx, in_tk0' hx, at_tk0 hz, in_tk0 hz, at_tk0' hz, in_tk0' hz, h2, h3, hw]
        exact ⟨(j + 1, η), by (try dsimp only); first | omega | assumption | (and_intros <;> first | omega | assumption), (wk_of [some 800, some 66, some 3, some 4, some 5, some 6] (by simp -implicitDefEqProofs only [go_sem, encYd, encPl, encRn, hnx, hPe, hsh] <;> and_intros <;> first | rfl | assumption)), by (try dsimp only); omega⟩
    · have h2' : (x.state == 2) = false := by simpa using h2
      rw [h2', Bool.false_and, if_neg (by decide), List.append_nil] at hnx
      simp -implicitDefEqProofs only [go_sem, encPl, encRn, encTk, hlt', h0j, hlt, at_tk0 hx, in_tk0 hx, at_tk0' hx, in_tk0' hx, h2, hw]
      exact ⟨(j + 1, η), by (try dsimp only); first | omega | assumption | (and_intros <;> first | omega | assumption), (wk_of [some 800, some 66, some 3, some 4, some 5, some 6] (by simp -implicitDefEqProofs only [go_sem, encYd, encPl, encRn, hnx, hPe, hsh] <;> and_intros <;> first | rfl | assumption)), by (try dsimp only); omega⟩
  obtain rfl : j = r2.tasks.length := by omega
  have hlt' : ¬ ((r2.tasks.length : Nat) : Int) < r2.tasks.length := by omega
  generalize layL r2.plan.prio r2.id (newL r.tasks r2.tasks r2.tasks.length) (l, y.seq) = P at *
  simp -implicitDefEqProofs only [go_sem, hlt', encPl, encRn]
  refine wp_gk ?_
  subst hdR
  refine WkK.wk (s' := St.of [(6, Bx 66 c6)] [(800, ZYd b8 _), (66, YdBoxD c6 _ y.now P.2 (y.shelf.set n P.1) η (.sl 8 tRn (rnsR y.runs k (rnH r2 (η5 []) (η7 [])))) ηC), (5, RnBox d5 _ r2 η5 η7)]) (wk_of [some 800, some 66, some 5] (by simp -implicitDefEqProofs only [go_sem, encPl, encRn] <;> and_intros <;> first | rfl | assumption)) ?_
  refine wk_cut0 5 5 901 (d := encEds r2.plan.edges) (η := η5) rfl rfl (by decide) fun _ => ?_
  refine wk_cut0 5 7 902 (d := encTks r2.tasks) (η := η7) rfl rfl (by decide) fun _ => ?_
  refine wk_graftN 66 3 (k * 8 + 5) 901 (η := ηC) (η2 := η5) (cs := r2.plan.edges.flatMap encEd) rfl (rnsR_get hk 5 (by simp)) (.inr rfl) rfl (by decide) fun ηD _ => ?_
  rw [rnsR_set hk 5 (by simp)]
  refine wk_graftN 66 3 (k * 8 + 7) 902 (η := ηD) (η2 := η7) (cs := r2.tasks.flatMap encTk) rfl (rnsR_get hk 7 (by simp)) (.inr rfl) rfl (by decide) fun ηE _ => ?_
  rw [rnsR_set hk 7 (by simp)]
  have hrow : (List.set (List.set (rnH r2 (η5 []) (η7 [])) 5 (.sl 2 tEd (r2.plan.edges.flatMap encEd))) 7 (.sl 4 tTk (r2.tasks.flatMap encTk))) = encRn r2 := rfl
  rw [hrow, rnsR_rn hk]
  refine WkK.of ?_
  simp -implicitDefEqProofs only [go_sem, encYd]
  refine ret2_ _ _ _ _ _ ?_
  simp -implicitDefEqProofs only [go_sem, encYd]
end Go.Proofs.YtnhdcbhcocgjhaaGreat
