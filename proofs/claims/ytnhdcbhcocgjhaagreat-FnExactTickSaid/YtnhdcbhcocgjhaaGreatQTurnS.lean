/- Texts for laws: TurnS. -/
import Derived.Test.YtnhdcbhcocgjhaaGreatQChange
import Derived.Test.YtnhdcbhcocgjhaaGreatQCompS
set_option linter.unusedSimpArgs false
set_option linter.unusedVariables false
set_option maxRecDepth 100000
namespace Go.Proofs.YtnhdcbhcocgjhaaGreat
open Go.RowKit Go.Sort
/-- A yard's box that has been emptied. -/
abbrev YdBoxH (b ty : Nat) (now seq : Int) (x2 x3 : Value) : Ob := .box b ty [.a (.v (.int .i64 now)), .a (.v (.int .i64 seq)), .a (.v x2), .a (.v x3)]
set_option maxHeartbeats 8000000 in
theorem inl_turnS {k b : Nat} {y : Yd} {r r2 : Rn} (hr : y.runs[k]? = some r) (hrl : r2.tasks.length = r.tasks.length) (hr12 : r.tasks.length ≤ 12) (h4 : y.shelf.length = 4) (hq : 1 ≤ y.seq ∧ y.seq ≤ 4000000000) (ht : totYd y ≤ 2000000)
    {o : Nat → Ob} {η2 η3 η5 η7 : Heads} (h90 : o 90 = YdBox b tYd y.now y.seq y.shelf η2 y.runs η3) (h97 : o 97 = .loose (encEds r2.plan.edges) η5) (h98 : o 98 = .loose (encTks r2.tasks) η7) :
    Inl Tryz.prog 46 [.agg [.v (.int .i64 y.now), .v (.int .i64 y.seq), .h 90 2 [] (η2 []), .h 90 3 [] (η3 [])], Ni k, .agg [.v (.int .i64 r2.id), .v (.int .i64 r2.plan.prio), .v (.int .i64 r2.plan.most), .v (.int .i64 r2.plan.wait), .v (.int .i64 r2.plan.tasks), .h 97 0 [] (η5 []), .v (.int .i64 r2.state), .h 98 0 [] (η7 [])]] o
      fun av o' => ∃ c e2 e3 x2 x3, av = .agg [.v (.int .i64 (turnY y k r2).now), .v (.int .i64 (turnY y k r2).seq), .h 66 2 [] (e2 []), .h 66 3 [] (e3 [])] ∧ o' 66 = YdBox c tYd (turnY y k r2).now (turnY y k r2).seq (turnY y k r2).shelf e2 (turnY y k r2).runs e3 ∧ o' 90 = YdBoxH b tYd y.now y.seq x2 x3 ∧ o' 91 = o 91 ∧ o' 92 = o 92 ∧ o' 93 = o 93 ∧ o' 94 = o 94 ∧ o' 95 = o 95 ∧ o' 96 = o 96 := by
  have hk := (List.getElem?_eq_some_iff.1 hr).1
  have h0k : (k : Int) ≥ 0 := by omega
  refine inl_wkK ?_
  refine inl_gn (β := 5000000) [[1,0], [1,1,0], [1,1,1,0], [1,1,1,1]] Tryz.func46 code_spec_l13Turn (by simp) ?_
  unfold c_spec_l13Turn
  simp only [C.ghs, C.ghAt, List.foldr]
  simp -implicitDefEqProofs only [go_sem, h90, h97, h98]
  intro c3 c5 c6
  refine wp_gk ?_
  have hR : encRns y.runs = .sl 8 tRn (rnsR y.runs k (encRn r)) := by rw [encRns, rnsR_enc hr]
  refine WkK.wk (s' := St.of [(1, Ni k), (3, Bx 3 c3), (5, Bx 5 c5), (6, Bx 66 c6)] [(90, YdBoxH b tYd y.now y.seq (η2 []) (η3 [])), (91, o 91), (92, o 92), (93, o 93), (94, o 94), (95, o 95), (96, o 96), (3, YdBoxD c3 _ y.now y.seq y.shelf η2 (encRns y.runs) η3), (5, RnBox c5 _ r2 η5 η7), (66, ZYd c6 _)]) (wk_of [some 90, some 91, some 92, some 93, some 94, some 95, some 96, some 500000300, some 500000500, some 500000600] (by simp -implicitDefEqProofs only [go_sem, encYd, encPl, encRn, simO_self, h90] <;> and_intros <;> first | rfl | assumption)) ?_
  rw [hR]
  refine wk_cutN 3 3 (k * 8 + 5) 901 (η := η3) (cs := r.plan.edges.flatMap encEd) rfl (rnsR_get hk 5 (by simp [encRn, encPl])) rfl (by decide) fun ηa ηA hA1 hA2 hA3 => ?_
  rw [rnsR_set hk 5 (by simp [encRn, encPl])]
  refine wk_cutN 3 3 (k * 8 + 7) 902 (η := ηA) (cs := r.tasks.flatMap encTk) rfl (rnsR_get hk 7 (by simp [encRn, encPl])) rfl (by decide) fun ηb ηB hB1 hB2 hB3 => ?_
  rw [rnsR_set hk 7 (by simp [encRn, encPl])]
  rw [← hA2, ← hB2]
  rw [← hA2] at hA3
  rw [← hB2] at hB3
  have hV : ((encRn r).set 5 (.val (ηa []))).set 7 (.val (ηb [])) = rnV r (ηa []) (ηb []) := rfl
  rw [hV]
  refine WkK.wk (s' := St.of [(1, Ni k), (3, Bx 3 c3), (5, Bx 5 c5), (6, Bx 66 c6)] [(90, YdBoxH b tYd y.now y.seq (η2 []) (η3 [])), (91, o 91), (92, o 92), (93, o 93), (94, o 94), (95, o 95), (96, o 96), (3, YdBoxD c3 _ y.now y.seq y.shelf η2 (.sl 8 tRn (rnsR y.runs k (rnV r (ηa []) (ηb [])))) ηB), (5, RnBox c5 _ r2 η5 η7), (66, ZYd c6 _), (901, .loose (encEds r.plan.edges) ηa), (902, .loose (encTks r.tasks) ηb)]) (wk_of [some 90, some 91, some 92, some 93, some 94, some 95, some 96, some 3, some 5, some 66, some 901, some 902] (by simp -implicitDefEqProofs only [go_sem, encYd, encPl, encRn, simO_self] <;> and_intros <;> first | rfl | assumption)) ?_
  refine WkK.of ?_
  have hl1 : (rnsR y.runs k (rnV r (ηa []) (ηb []))).length = y.runs.length * 8 := rnsR_len hk rfl
  have hd8 : y.runs.length * 8 / 8 = y.runs.length := Nat.mul_div_cancel _ (by decide)
  have ha1 : ((rnsR y.runs k (rnV r (ηa []) (ηb []))).drop (k * 8)).take 8 = rnV r (ηa []) (ηb []) := rnsR_at hk rfl
  have hi8 : k * 8 + 8 ≤ y.runs.length * 8 := by omega
  have hdl : (D.sl 8 tRn (rnsR y.runs k (rnV r (ηa []) (ηb [])))).len = y.runs.length := rnsR_dlen hk rfl
  simp -implicitDefEqProofs only [go_sem, hl1, hdl, ha1, hi8, hk, h0k, hA3, hB3]
  intro c7
  refine wp_gk ?_
  refine WkK.wk (s' := St.of [(1, Ni k), (3, Bx 3 c3), (5, Bx 5 c5), (6, Bx 66 c6), (7, Bx 7 c7)] [(90, YdBoxH b tYd y.now y.seq (η2 []) (η3 [])), (91, o 91), (92, o 92), (93, o 93), (94, o 94), (95, o 95), (96, o 96), (3, YdBoxD c3 _ y.now y.seq y.shelf η2 (.sl 8 tRn (rnsR y.runs k (rnV r (ηa []) (ηb [])))) ηB), (5, RnBox c5 _ r2 η5 η7), (66, ZYd c6 _), (7, RnBoxH c7 _ r (ηa []) (ηb [])), (901, .loose (encEds r.plan.edges) ηa), (902, .loose (encTks r.tasks) ηb)]) (wk_of [some 90, some 91, some 92, some 93, some 94, some 95, some 96, some 3, some 5, some 66, some 500000700, some 901, some 902] (by simp -implicitDefEqProofs only [go_sem, encYd, encPl, encRn, simO_self] <;> and_intros <;> first | rfl | assumption)) ?_
  refine wk_graft0 7 5 901 (d := encEds r.plan.edges) (η := ηa) rfl rfl rfl ?_
  refine wk_graft0 7 7 902 (d := encTks r.tasks) (η := ηb) rfl rfl rfl ?_
  refine wk_cut0 5 5 903 (d := encEds r2.plan.edges) (η := η5) rfl rfl (by decide) fun hx5 => ?_
  refine wk_cut0 5 7 904 (d := encTks r2.tasks) (η := η7) rfl rfl (by decide) fun hx7 => ?_
  refine WkK.of ?_
  simp -implicitDefEqProofs only [go_sem, hl1, hdl, ha1, hi8, hk, h0k, hx5, hx7]
  refine stH_any fun ηC => ?_
  have hput : D.put [] (k * 8) (rnH r2 (η5 []) (η7 [])) (.sl 8 tRn (rnsR y.runs k (rnV r (ηa []) (ηb [])))) = .sl 8 tRn (rnsR y.runs k (rnH r2 (η5 []) (η7 []))) := by
    simp only [D.put]; rw [rnsR_put hk rfl rfl]
  refine wp_gk ?_
  refine WkK.wk (s' := St.of [(1, Ni k), (3, Bx 3 c3), (5, Bx 5 c5), (6, Bx 66 c6), (7, Bx 7 c7)] [(90, YdBoxH b tYd y.now y.seq (η2 []) (η3 [])), (91, o 91), (92, o 92), (93, o 93), (94, o 94), (95, o 95), (96, o 96), (3, YdBoxD c3 _ y.now y.seq y.shelf η2 (.sl 8 tRn (rnsR y.runs k (rnH r2 (η5 []) (η7 [])))) ηC), (5, RnBoxH c5 _ r2 (η5 []) (η7 [])), (66, ZYd c6 _), (7, RnBox c7 _ r ηa ηb), (903, .loose (encEds r2.plan.edges) η5), (904, .loose (encTks r2.tasks) η7)]) (wk_of [some 90, some 91, some 92, some 93, some 94, some 95, some 96, some 3, some 5, some 66, some 7, some 903, some 904] (by simp -implicitDefEqProofs only [go_sem, encYd, encPl, encRn, hput, simO_self] <;> and_intros <;> first | rfl | assumption)) ?_
  refine wk_graft0 5 5 903 (d := encEds r2.plan.edges) (η := η5) rfl rfl rfl ?_
  refine wk_graft0 5 7 904 (d := encTks r2.tasks) (η := η7) rfl rfl rfl ?_
  generalize hdR : D.sl 8 tRn (rnsR y.runs k (rnH r2 (η5 []) (η7 []))) = dR at *
  refine WkK.wk (s' := St.of [(1, Ni k), (3, Bx 3 c3), (5, Bx 5 c5), (6, Bx 66 c6), (7, Bx 7 c7)] [(90, YdBoxH b tYd y.now y.seq (η2 []) (η3 [])), (91, o 91), (92, o 92), (93, o 93), (94, o 94), (95, o 95), (96, o 96), (3, YdBoxD c3 _ y.now y.seq y.shelf η2 dR ηC), (5, RnBox c5 _ r2 η5 η7), (66, ZYd c6 _), (7, RnBox c7 _ r ηa ηb)]) (wk_of [some 90, some 91, some 92, some 93, some 94, some 95, some 96, some 3, some 5, some 66, some 7] (by simp -implicitDefEqProofs only [go_sem, encYd, encPl, encRn, simO_self] <;> and_intros <;> first | rfl | assumption)) ?_
  refine WkK.of ?_
  simp -implicitDefEqProofs only [go_sem, encYd, encPl, encRn]
  refine run_inl (inl_fn (β := 7000000) Tryz.func107 code_spec_l10Lay (by simp) ?_)
  unfold c_spec_l10Lay
  simp -implicitDefEqProofs only [go_sem, encEn, encTk]
  intro d3 d4 d5 d6
  refine run_call (p_spec_ShelfOf r2.id) (by simp -implicitDefEqProofs only [go_sem, encRn, encPl]) fun η => ?_
  simp -implicitDefEqProofs only [go_sem, encRn, encPl]
  obtain ⟨hsn, hs4⟩ := shN_ r2.id
  rw [hsn]
  have hLY : turnY y k r2 = ⟨y.now, (layL r2.plan.prio r2.id (newL r.tasks r2.tasks r2.tasks.length) ((y.shelf[shN r2.id]?).getD default, y.seq)).2, y.shelf.set (shN r2.id) (layL r2.plan.prio r2.id (newL r.tasks r2.tasks r2.tasks.length) ((y.shelf[shN r2.id]?).getD default, y.seq)).1, y.runs.set k r2⟩ := by rw [turnY, hr, Option.getD_some]; rfl
  rw [hLY]
  generalize shN r2.id = n at *
  have hn : n < y.shelf.length := by omega
  have h0n : (n : Int) ≥ 0 := by omega
  obtain ⟨l, hl⟩ := get_some hn
  have hll := shelf2_le ht (List.mem_of_getElem? hl)
  rw [hl, Option.getD_some]
  refine wp_loopW (fun i : Nat × Heads => St.of [(3, Bx 3 d3), (4, Bx 4 d4), (5, Bx 5 d5), (6, Bx 6 d6), (7, Ni n), (8, Ni i.1)] [(90, YdBoxH b tYd y.now y.seq (η2 []) (η3 [])), (91, o 91), (92, o 92), (93, o 93), (94, o 94), (95, o 95), (96, o 96), (66, ZYd c6 _), (3, YdBoxD d3 _ y.now (layL r2.plan.prio r2.id (newL r.tasks r2.tasks i.1) (l, y.seq)).2 (y.shelf.set n (layL r2.plan.prio r2.id (newL r.tasks r2.tasks i.1) (l, y.seq)).1) i.2 dR ηC), (4, RnBox d4 _ r ηa ηb), (5, RnBox d5 _ r2 η5 η7), (6, ZYd d6 _)]) (fun i => i.1 ≤ r2.tasks.length) (fun i => r2.tasks.length - i.1) (0, η2) (by (try dsimp only); first | omega | (simp; done) | (and_intros <;> first | omega | simp)) (wk_of [some 90, some 91, some 92, some 93, some 94, some 95, some 96, some 66, some 700000300, some 700000400, some 700000500, some 700000600] (by simp -implicitDefEqProofs only [go_sem, encYd, encPl, encRn, newL_0, layL_nil, set_same hl, simO_self] <;> and_intros <;> first | rfl | assumption)) ?_
  rintro ⟨j, η⟩ hj
  dsimp only at hj
  have hsq := layL_seq r2.plan.prio r2.id (newL r.tasks r2.tasks j) (l, y.seq)
  have hle := layL_len r2.plan.prio r2.id (newL r.tasks r2.tasks j) (l, y.seq)
  have hnl := newL_len r.tasks r2.tasks j
  have hsnoc := layL_snoc r2.plan.prio r2.id (newL r.tasks r2.tasks j) j (l, y.seq)
  have hnx := newL_s r.tasks r2.tasks j
  dsimp only at hsq hle
  by_cases hlt : j < r2.tasks.length
  · have hlt' : (j : Int) < r2.tasks.length := by omega
    have hltw : j < r.tasks.length := by omega
    have hltw' : (j : Int) < r.tasks.length := by omega
    have h0j : (j : Int) ≥ 0 := by omega
    obtain ⟨x, hx⟩ := get_some hlt
    obtain ⟨z, hz⟩ := get_some hltw
    have hw : IntKind.i64.wrap ((j : Int) + 1) = ((j + 1 : Nat) : Int) := wrap64 (by omega) (by omega)
    rw [newB_lt hx hz] at hnx
    have hw2 : IntKind.i64.wrap ((layL r2.plan.prio r2.id (newL r.tasks r2.tasks j) (l, y.seq)).2 + 1) = (layL r2.plan.prio r2.id (newL r.tasks r2.tasks j) (l, y.seq)).2 + 1 := wrap64 (by omega) (by omega)
    generalize hPe : layL r2.plan.prio r2.id (newL r.tasks r2.tasks j) (l, y.seq) = P at *
    obtain ⟨sh, hsh⟩ : ∃ s, y.shelf.set n P.1 = s := ⟨_, rfl⟩
    have hSl : sh[n]? = some P.1 := by rw [← hsh]; exact List.getElem?_set_self hn
    have hns : n < sh.length := by rw [← hsh, List.length_set]; exact hn
    have hss : ∀ L, sh.set n L = y.shelf.set n L := fun L => by rw [← hsh, List.set_set]
    have hi1 : n + 1 ≤ (sh.flatMap fun es => [encEns es]).length := by have := in_encSh hns; rwa [Nat.mul_one] at this
    have hb1 : ((sh.flatMap fun es => [encEns es]).drop n).take 1 = [encEns P.1] := by have := at_encSh hSl; rwa [Nat.mul_one] at this
    rw [hsh]
    cases h2 : x.state != 2
    · have h2' : (x.state == 2) = true := by have : x.state = 2 := by simpa using h2
                                             simp [this]
      rw [h2', Bool.true_and] at hnx
      cases h3 : z.state == 2
      · rw [h3, Bool.not_false, if_pos rfl] at hnx
        rw [← hnx] at hsnoc
        simp -implicitDefEqProofs only [go_sem, encPl, encRn, encTk, hlt', h0j, hlt, hltw, hltw', at_tk0 hx, in_tk0 hx, at_tk0' hx, in_tk0' hx, at_tk0 hz, in_tk0 hz, at_tk0' hz, in_tk0' hz, h2, h3]
        simp -implicitDefEqProofs only [go_sem, hns, Nat.mul_one, hb1, hi1, h0n]
        refine run_call (p_spec_PutEntry P.1 ⟨r2.plan.prio, P.2, r2.id, j⟩ (by omega)) (by simp -implicitDefEqProofs only [go_sem, encEn, get_sh hSl]) fun ηp => ?_
        simp -implicitDefEqProofs only [go_sem, encEn, get_sh hSl]
        simp -implicitDefEqProofs only [go_sem, hns, Nat.mul_one, hi1, hb1, h0n, put_sh1, hw2, hw, hss]
        refine fun η' hη' => ?_
        exact ⟨(j + 1, η'), by (try dsimp only); first | omega | assumption | (and_intros <;> first | omega | assumption), (wk_of [some 90, some 91, some 92, some 93, some 94, some 95, some 96, some 66, some 3, some 4, some 5, some 6] (by simp -implicitDefEqProofs only [go_sem, encYd, encPl, encRn, hsnoc, simO_self] <;> and_intros <;> first | rfl | assumption)), by (try dsimp only); omega⟩
      · rw [h3, Bool.not_true, if_neg (by decide), List.append_nil] at hnx
        simp -implicitDefEqProofs only [go_sem, encPl, encRn, encTk, hlt', h0j, hlt, hltw, hltw', at_tk0 hx, in_tk0 hx, at_tk0' hx, in_tk0' hx, at_tk0 hz, in_tk0 hz, at_tk0' hz, in_tk0' hz, h2, h3, hw]
        exact ⟨(j + 1, η), by (try dsimp only); first | omega | assumption | (and_intros <;> first | omega | assumption), (wk_of [some 90, some 91, some 92, some 93, some 94, some 95, some 96, some 66, some 3, some 4, some 5, some 6] (by simp -implicitDefEqProofs only [go_sem, encYd, encPl, encRn, hnx, hPe, hsh, simO_self] <;> and_intros <;> first | rfl | assumption)), by (try dsimp only); omega⟩
    · have h2' : (x.state == 2) = false := by simpa using h2
      rw [h2', Bool.false_and, if_neg (by decide), List.append_nil] at hnx
      simp -implicitDefEqProofs only [go_sem, encPl, encRn, encTk, hlt', h0j, hlt, at_tk0 hx, in_tk0 hx, at_tk0' hx, in_tk0' hx, h2, hw]
      exact ⟨(j + 1, η), by (try dsimp only); first | omega | assumption | (and_intros <;> first | omega | assumption), (wk_of [some 90, some 91, some 92, some 93, some 94, some 95, some 96, some 66, some 3, some 4, some 5, some 6] (by simp -implicitDefEqProofs only [go_sem, encYd, encPl, encRn, hnx, hPe, hsh, simO_self] <;> and_intros <;> first | rfl | assumption)), by (try dsimp only); omega⟩
  obtain rfl : j = r2.tasks.length := by omega
  have hlt' : ¬ ((r2.tasks.length : Nat) : Int) < r2.tasks.length := by omega
  generalize layL r2.plan.prio r2.id (newL r.tasks r2.tasks r2.tasks.length) (l, y.seq) = P at *
  simp -implicitDefEqProofs only [go_sem, hlt', encPl, encRn]
  refine wp_gk ?_
  subst hdR
  refine WkK.wk (s' := St.of [(6, Bx 66 c6)] [(90, YdBoxH b tYd y.now y.seq (η2 []) (η3 [])), (91, o 91), (92, o 92), (93, o 93), (94, o 94), (95, o 95), (96, o 96), (66, YdBoxD c6 _ y.now P.2 (y.shelf.set n P.1) η (.sl 8 tRn (rnsR y.runs k (rnH r2 (η5 []) (η7 [])))) ηC), (5, RnBox d5 _ r2 η5 η7)]) (wk_of [some 90, some 91, some 92, some 93, some 94, some 95, some 96, some 66, some 5] (by simp -implicitDefEqProofs only [go_sem, encPl, encRn, simO_self] <;> and_intros <;> first | rfl | assumption)) ?_
  refine wk_cut0 5 5 901 (d := encEds r2.plan.edges) (η := η5) rfl rfl (by decide) fun _ => ?_
  refine wk_cut0 5 7 902 (d := encTks r2.tasks) (η := η7) rfl rfl (by decide) fun _ => ?_
  refine wk_graftN 66 3 (k * 8 + 5) 901 (η := ηC) (η2 := η5) (cs := r2.plan.edges.flatMap encEd) rfl (rnsR_get hk 5 (by simp)) (.inr rfl) rfl (by decide) fun ηD _ => ?_
  rw [rnsR_set hk 5 (by simp)]
  refine wk_graftN 66 3 (k * 8 + 7) 902 (η := ηD) (η2 := η7) (cs := r2.tasks.flatMap encTk) rfl (rnsR_get hk 7 (by simp)) (.inr rfl) rfl (by decide) fun ηE _ => ?_
  rw [rnsR_set hk 7 (by simp)]
  have hrow : (List.set (List.set (rnH r2 (η5 []) (η7 [])) 5 (.sl 2 tEd (r2.plan.edges.flatMap encEd))) 7 (.sl 4 tTk (r2.tasks.flatMap encTk))) = encRn r2 := rfl
  rw [hrow, rnsR_rn hk]
  refine WkK.of ?_
  simp -implicitDefEqProofs only [go_sem, encYd]
  refine WkK.wk (s' := St.of [] [(66, YdBox c6 tYd y.now P.2 (y.shelf.set n P.1) η (y.runs.set k r2) ηE), (90, YdBoxH b tYd y.now y.seq (η2 []) (η3 [])), (91, o 91), (92, o 92), (93, o 93), (94, o 94), (95, o 95), (96, o 96)]) (wk_of [some 66, some 90, some 91, some 92, some 93, some 94, some 95, some 96] (by simp -implicitDefEqProofs only [go_sem, simO_self] <;> and_intros <;> first | rfl | assumption)) ?_
  refine WkK.of ⟨c6, η, ηE, η2 [], η3 [], rfl, rfl, rfl, rfl, rfl, rfl, rfl, rfl, rfl⟩
end Go.Proofs.YtnhdcbhcocgjhaaGreat
