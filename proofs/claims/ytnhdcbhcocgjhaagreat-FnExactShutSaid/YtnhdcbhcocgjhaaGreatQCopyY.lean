/- Texts for laws: CopyY. -/
import Derived.Test.YtnhdcbhcocgjhaaGreatQCopy
import Derived.Test.YtnhdcbhcocgjhaaGreatQOverP
set_option linter.unusedSimpArgs false
set_option linter.unusedVariables false
set_option maxRecDepth 100000
namespace Go.Proofs.YtnhdcbhcocgjhaaGreat
open Go.RowKit Go.Sort
def c_impl_copyEntries : C := .seq (.reg [⟨some 2, none, .mov (.c (.slice none 0 0))⟩]) (.seq (.reg [⟨some 3, none, .mov (.t 0)⟩, ⟨some 4, none, .app 108 4 32 (.c (.slice none 0 0)) (.t 3)⟩, ⟨some 2, none, .mov (.t 4)⟩]) .ret)
theorem code_impl_copyEntries : fnC Tryz.prog Tryz.f113 = some (c_impl_copyEntries, [.t 2], 5) := by kernel_rfl
def c_impl_copyYard : C := .seq (.reg [⟨some 1, none, .box 30 4 (.t 0)⟩, ⟨some 2, none, .alloc 30 [.int .i64 0, .int .i64 0, .slice none 0 0, .slice none 0 0]⟩]) (.seq (.reg [⟨some 8, none, .fa 0 (.t 1)⟩, ⟨some 9, none, .ld false 1 (.t 8)⟩, ⟨some 10, none, .fa 1 (.t 1)⟩, ⟨some 11, none, .ld false 1 (.t 10)⟩, ⟨some 12, none, .bld [.int .i64 0, .int .i64 0, .slice none 0 0, .slice none 0 0] [(0, 1, .t 9), (1, 1, .t 11)]⟩, ⟨some 3, none, .alloc 30 [.int .i64 0, .int .i64 0, .slice none 0 0, .slice none 0 0]⟩, ⟨none, none, .st 4 [none, none, some (1, 103), some (8, 80)] (.t 3) (.t 12)⟩]) (.seq (.seq (.reg [⟨some 13, none, .fa 2 (.t 1)⟩, ⟨some 14, none, .ld false 1 (.t 13)⟩, ⟨some 15, none, .len false (.t 14)⟩, ⟨some 16, none, .mov (.c (.int .i64 0))⟩]) (.blk 0 (.loop (.seq (.reg [⟨some 17, none, .bin .lss 3 (.t 16) (.t 15)⟩]) (.seq (.cond (.t 17) .skip (.exit 0)) (.seq (.blk 1 (.seq (.reg [⟨some 18, none, .ia 1 (.t 14) (.t 16)⟩, ⟨some 19, none, .ld false 1 (.t 18)⟩, ⟨some 5, none, .mov (.t 19)⟩]) (.dreg (T.pure 0 ⟨some 20, none, .fa 2 (.t 3)⟩ (T.pure 1 ⟨some 21, none, .ld false 1 (.t 20)⟩ (T.pure 2 ⟨some 22, none, .mov (.t 5)⟩ (T.alt ⟨some 23, none, .call 113 [.t 22]⟩ [1, 0] (T.alt ⟨some 24, none, .bsl 103 1 1 [some (4, 108)] [(0, 1, .t 23)]⟩ [1, 0] (T.alt ⟨some 25, none, .app 103 1 24 (.t 21) (.t 24)⟩ [] (T.pure 6 ⟨some 26, none, .fa 2 (.t 3)⟩ (T.alt ⟨none, none, .st 1 [some (1, 103)] (.t 26) (.t 25)⟩ [] T.done T.stop)) T.stop) T.stop) T.stop))))))) (.reg [⟨some 27, none, .bin .add 3 (.t 16) (.c (.int .i64 1))⟩, ⟨some 16, none, .mov (.t 27)⟩]))))))) (.seq (.seq (.reg [⟨some 28, none, .fa 3 (.t 1)⟩, ⟨some 29, none, .ld false 1 (.t 28)⟩, ⟨some 30, none, .len false (.t 29)⟩, ⟨some 31, none, .mov (.c (.int .i64 0))⟩]) (.blk 2 (.loop (.seq (.reg [⟨some 32, none, .bin .lss 3 (.t 31) (.t 30)⟩]) (.seq (.cond (.t 32) .skip (.exit 2)) (.seq (.blk 3 (.seq (.reg [⟨some 33, none, .ia 8 (.t 29) (.t 31)⟩, ⟨some 34, none, .ld true 8 (.t 33)⟩, ⟨some 7, none, .alloc 80 [.int .i64 0, .int .i64 0, .int .i64 0, .int .i64 0, .int .i64 0, .slice none 0 0, .int .i64 0, .slice none 0 0]⟩, ⟨none, none, .st 8 [none, none, none, none, none, some (2, 182), none, some (4, 98)] (.t 7) (.t 34)⟩]) (.dreg (T.pure 0 ⟨some 35, none, .fa 3 (.t 3)⟩ (T.pure 1 ⟨some 36, none, .ld false 1 (.t 35)⟩ (T.pure 2 ⟨some 37, none, .ld true 8 (.t 7)⟩ (T.alt ⟨some 38, none, .call 114 [.t 37]⟩ [1, 0] (T.alt ⟨some 39, none, .bsl 80 8 1 [none, none, none, none, none, some (2, 182), none, some (4, 98)] [(0, 8, .t 38)]⟩ [1, 0] (T.alt ⟨some 40, none, .app 80 8 96 (.t 36) (.t 39)⟩ [] (T.pure 6 ⟨some 41, none, .fa 3 (.t 3)⟩ (T.alt ⟨none, none, .st 1 [some (8, 80)] (.t 41) (.t 40)⟩ [] T.done T.stop)) T.stop) T.stop) T.stop))))))) (.reg [⟨some 42, none, .bin .add 3 (.t 31) (.c (.int .i64 1))⟩, ⟨some 31, none, .mov (.t 42)⟩]))))))) (.seq (.reg [⟨some 43, none, .ld true 4 (.t 3)⟩, ⟨none, none, .st 4 [none, none, some (1, 103), some (8, 80)] (.t 2) (.t 43)⟩]) .ret))))
theorem code_impl_copyYard : fnC Tryz.prog Tryz.f50 = some (c_impl_copyYard, [.cell 2 true 4], 44) := by kernel_rfl
def c_spec_l10Copy : C := .seq (.reg [⟨some 1, none, .box 30 4 (.t 0)⟩, ⟨some 2, none, .alloc 30 [.int .i64 0, .int .i64 0, .slice none 0 0, .slice none 0 0]⟩]) (.seq (.reg [⟨some 6, none, .fa 0 (.t 1)⟩, ⟨some 7, none, .ld false 1 (.t 6)⟩, ⟨some 8, none, .fa 1 (.t 1)⟩, ⟨some 9, none, .ld false 1 (.t 8)⟩, ⟨some 10, none, .bld [.int .i64 0, .int .i64 0, .slice none 0 0, .slice none 0 0] [(0, 1, .t 7), (1, 1, .t 9)]⟩, ⟨some 3, none, .alloc 30 [.int .i64 0, .int .i64 0, .slice none 0 0, .slice none 0 0]⟩, ⟨none, none, .st 4 [none, none, some (1, 103), some (8, 80)] (.t 3) (.t 10)⟩]) (.seq (.seq (.reg [⟨some 4, none, .mov (.c (.int .i64 0))⟩]) (.blk 0 (.loop (.seq (.seq (.reg [⟨some 11, none, .mov (.t 4)⟩, ⟨some 12, none, .fa 2 (.t 1)⟩, ⟨some 13, none, .ld false 1 (.t 12)⟩, ⟨some 14, none, .len false (.t 13)⟩, ⟨some 15, none, .bin .lss 3 (.t 11) (.t 14)⟩]) (.cond (.t 15) .skip (.exit 0))) (.seq (.blk 1 (.dreg (T.pure 0 ⟨some 18, none, .fa 2 (.t 3)⟩ (T.pure 1 ⟨some 19, none, .ld false 1 (.t 18)⟩ (T.pure 3 ⟨some 21, none, .fa 2 (.t 1)⟩ (T.pure 4 ⟨some 22, none, .ld false 1 (.t 21)⟩ (T.pure 5 ⟨some 23, none, .mov (.t 4)⟩ (T.pure 6 ⟨some 24, none, .ia 1 (.t 22) (.t 23)⟩ (T.pure 7 ⟨some 25, none, .ld false 1 (.t 24)⟩ (T.alt ⟨some 20, none, .bsl 108 4 0 [] []⟩ [7, 6, 5, 4, 3, 1, 0] (T.alt ⟨some 26, none, .app 108 4 32 (.t 20) (.t 25)⟩ [1, 0] (T.alt ⟨some 27, none, .bsl 103 1 1 [some (4, 108)] [(0, 1, .t 26)]⟩ [1, 0] (T.alt ⟨some 28, none, .app 103 1 24 (.t 19) (.t 27)⟩ [] (T.pure 11 ⟨some 29, none, .fa 2 (.t 3)⟩ (T.alt ⟨none, none, .st 1 [some (1, 103)] (.t 29) (.t 28)⟩ [] T.done T.stop)) T.stop) T.stop) T.stop) T.stop)))))))))) (.reg [⟨some 16, none, .mov (.t 4)⟩, ⟨some 17, none, .bin .add 3 (.t 16) (.c (.int .i64 1))⟩, ⟨some 4, none, .mov (.t 17)⟩])))))) (.seq (.seq (.reg [⟨some 5, none, .mov (.c (.int .i64 0))⟩]) (.blk 2 (.loop (.seq (.seq (.reg [⟨some 30, none, .mov (.t 5)⟩, ⟨some 31, none, .fa 3 (.t 1)⟩, ⟨some 32, none, .ld false 1 (.t 31)⟩, ⟨some 33, none, .len false (.t 32)⟩, ⟨some 34, none, .bin .lss 3 (.t 30) (.t 33)⟩]) (.cond (.t 34) .skip (.exit 2))) (.seq (.blk 3 (.dreg (T.pure 0 ⟨some 37, none, .fa 3 (.t 3)⟩ (T.pure 1 ⟨some 38, none, .ld false 1 (.t 37)⟩ (T.pure 2 ⟨some 39, none, .fa 3 (.t 1)⟩ (T.pure 3 ⟨some 40, none, .ld false 1 (.t 39)⟩ (T.pure 4 ⟨some 41, none, .mov (.t 5)⟩ (T.pure 5 ⟨some 42, none, .ia 8 (.t 40) (.t 41)⟩ (T.pure 6 ⟨some 43, none, .ld true 8 (.t 42)⟩ (T.alt ⟨some 44, none, .call 105 [.t 43]⟩ [1, 0] (T.alt ⟨some 45, none, .bsl 80 8 1 [none, none, none, none, none, some (2, 182), none, some (4, 98)] [(0, 8, .t 44)]⟩ [1, 0] (T.alt ⟨some 46, none, .app 80 8 96 (.t 38) (.t 45)⟩ [] (T.pure 10 ⟨some 47, none, .fa 3 (.t 3)⟩ (T.alt ⟨none, none, .st 1 [some (8, 80)] (.t 47) (.t 46)⟩ [] T.done T.stop)) T.stop) T.stop) T.stop)))))))))) (.reg [⟨some 35, none, .mov (.t 5)⟩, ⟨some 36, none, .bin .add 3 (.t 35) (.c (.int .i64 1))⟩, ⟨some 5, none, .mov (.t 36)⟩])))))) (.seq (.reg [⟨some 48, none, .ld true 4 (.t 3)⟩, ⟨none, none, .st 4 [none, none, some (1, 103), some (8, 80)] (.t 2) (.t 48)⟩]) .ret))))
theorem code_spec_l10Copy : fnC Tryz.prog Tryz.f43 = some (c_spec_l10Copy, [.cell 2 true 4], 49) := by kernel_rfl
/-- A yard in a box of one's own. -/
abbrev YdBox (b ty : Nat) (now seq : Int) (sh : List (List En)) (e1 : Heads) (rn : List Rn) (e2 : Heads) : Ob := .box b ty [.a (.v (.int .i64 now)), .a (.v (.int .i64 seq)), .own (encSh sh) e1, .own (encRns rn) e2]
/-- A box for a yard. -/
abbrev ZYd (b ty : Nat) : Ob := .box b ty [.a (.v (.int .i64 0)), .a (.v (.int .i64 0)), .a (.v (.slice none 0 0)), .a (.v (.slice none 0 0))]
theorem fold_encEns' (l : List En) : D.sl 4 tEn (l.flatMap encEn) = encEns l := rfl
theorem sh_snoc (l : List (List En)) (x : List En) : D.sl 1 tEnS (l.flatMap (fun es => [encEns es]) ++ [encEns x]) = encSh (l ++ [x]) := by simp [encSh]
theorem rns_snoc (l : List Rn) (r : Rn) : D.sl 8 tRn (l.flatMap encRn ++ [.val (.int .i64 r.id), .val (.int .i64 r.plan.prio), .val (.int .i64 r.plan.most), .val (.int .i64 r.plan.wait), .val (.int .i64 r.plan.tasks), encEds r.plan.edges, .val (.int .i64 r.state), encTks r.tasks]) = encRns (l ++ [r]) := by simp [encRns, encRn, encPl]
theorem shelf1_le' {y : Yd} (ht : totYd y ≤ 2000000) {l : List En} (h : l ∈ y.shelf) : l.length ≤ 4000000 := by
  obtain ⟨k, hk, rfl⟩ := List.getElem_of_mem h
  have h1 := List.getElem?_eq_getElem hk
  have h2 := tsum_succ (tot := totEnS) h1
  have h3 := tsum_le totEnS y.shelf (k + 1)
  simp only [totYd, totSh, totEnS] at *
  omega
theorem run1_le {y : Yd} (ht : totYd y ≤ 2000000) {r : Rn} (h : r ∈ y.runs) : r.plan.edges.length ≤ 4000000 ∧ r.tasks.length ≤ 4000000 := by
  obtain ⟨k, hk, rfl⟩ := List.getElem_of_mem h
  have h1 := List.getElem?_eq_getElem hk
  have h2 := tsum_succ (tot := totRn) h1
  have h3 := tsum_le totRn y.runs (k + 1)
  simp only [totYd, totRns, totRn, totPl] at *
  omega
theorem p_impl_copyEntries (l : List En) (hl : l.length ≤ 4000000) : Pure Tryz.prog 113 [.c (encEns l)] (.c (encEns l)) := by
  refine pure_fn Tryz.func113 code_impl_copyEntries (by simp) ?_
  unfold c_impl_copyEntries
  have h1 : l.length ≤ maxLen := by unfold maxLen; omega
  have h2 : l.length * 32 ≤ 140737488355328 := by omega
  simp -implicitDefEqProofs only [go_sem, h1, h2, fold_encEns']
set_option maxHeartbeats 8000000 in
theorem p_impl_copyYard (y : Yd) (ht : totYd y ≤ 2000000) : Pure Tryz.prog 50 [.agg (encYd y)] (.agg (encYd y)) := by
  refine pure_fn Tryz.func50 code_impl_copyYard (by simp) ?_
  unfold c_impl_copyYard
  have hsl : y.shelf.length ≤ 2000000 := by simp only [totYd, totSh] at ht; omega
  have hrl := runs_le ht
  simp -implicitDefEqProofs only [go_sem, encYd]
  intro b1 b2 b3
  refine wp_loopW (fun i : Nat × Heads => St.of [(1, Bx 100 b1), (2, Bx 200 b2), (3, Bx 300 b3), (14, Ro (encSh y.shelf)), (15, Ni y.shelf.length), (16, Ni i.1)] [(100, Bi b1 _ (encYd y)), (200, ZYd b2 _), (300, .box b3 _ [.a (.v (.int .i64 y.now)), .a (.v (.int .i64 y.seq)), .own (encSh (y.shelf.take i.1)) i.2, .a (.v (.slice none 0 0))])]) (fun i => i.1 ≤ y.shelf.length) (fun i => y.shelf.length - i.1) (0, nilH) (by (try dsimp only); first | omega | (simp; done) | (and_intros <;> first | omega | simp)) (wk_of [some 100, some 200, some 300] (by simp -implicitDefEqProofs only [go_sem, encYd, List.take_zero] <;> and_intros <;> first | rfl | assumption)) ?_
  rintro ⟨k, η⟩ hk
  dsimp only at hk
  by_cases hlt : k < y.shelf.length
  · have hlt' : (k : Int) < y.shelf.length := by omega
    obtain ⟨l, hl⟩ := get_some hlt
    have hw : IntKind.i64.wrap ((k : Int) + 1) = ((k + 1 : Nat) : Int) := wrap64 (by omega) (by omega)
    have hm1 : k + 1 ≤ maxLen := by unfold maxLen; omega
    have hm2 : (k + 1) * 24 ≤ 140737488355328 := by omega
    have htk : (y.shelf.take k).length = k := by rw [List.length_take]; omega
    have hts : y.shelf.take (k + 1) = y.shelf.take k ++ [l] := by rw [List.take_add_one, hl]; rfl
    generalize y.shelf.take k = M at *
    simp -implicitDefEqProofs only [go_sem, encYd, hlt, hlt', elem_encSh hl]
    refine run_call (p_impl_copyEntries l (shelf1_le' ht (List.mem_of_getElem? hl))) (by simp -implicitDefEqProofs only [go_sem, encYd]) fun η => ?_
    simp -implicitDefEqProofs only [go_sem, encYd]
    simp -implicitDefEqProofs only [go_sem, htk, hm1, hm2, sh_snoc]
    intro η7 η8
    simp -implicitDefEqProofs only [go_sem, hw]
    exact ⟨(k + 1, η8), by (try dsimp only); first | omega | assumption | (and_intros <;> first | omega | assumption), (wk_of [some 100, some 200, some 300] (by simp -implicitDefEqProofs only [go_sem, encYd, hts] <;> and_intros <;> first | rfl | assumption)), by (try dsimp only); omega⟩
  have hlt' : ¬ (k : Int) < y.shelf.length := by omega
  rw [List.take_of_length_le (by omega)]
  simp -implicitDefEqProofs only [go_sem, encYd, hlt']
  refine wp_loopW (fun i : Nat × Heads => St.of [(1, Bx 100 b1), (2, Bx 200 b2), (3, Bx 300 b3), (29, Ro (encRns y.runs)), (30, Ni y.runs.length), (31, Ni i.1)] [(100, Bi b1 _ (encYd y)), (200, ZYd b2 _), (300, YdBox b3 _ y.now y.seq y.shelf η (y.runs.take i.1) i.2)]) (fun i => i.1 ≤ y.runs.length) (fun i => y.runs.length - i.1) (0, nilH) (by (try dsimp only); first | omega | (simp; done) | (and_intros <;> first | omega | simp)) (wk_of [some 100, some 200, some 300] (by simp -implicitDefEqProofs only [go_sem, encYd, List.take_zero] <;> and_intros <;> first | rfl | assumption)) ?_
  rintro ⟨j, η2⟩ hj
  dsimp only at hj
  by_cases hjl : j < y.runs.length
  · have hjl' : (j : Int) < y.runs.length := by omega
    obtain ⟨r, hr⟩ := get_some hjl
    have hw : IntKind.i64.wrap ((j : Int) + 1) = ((j + 1 : Nat) : Int) := wrap64 (by omega) (by omega)
    have hm1 : j + 1 ≤ maxLen := by unfold maxLen; omega
    have hm2 : (j + 1) * 96 ≤ 140737488355328 := by omega
    have hjk : (y.runs.take j).length = j := by rw [List.length_take]; omega
    have hjs : y.runs.take (j + 1) = y.runs.take j ++ [r] := by rw [List.take_add_one, hr]; rfl
    have hrb := run1_le ht (List.mem_of_getElem? hr)
    generalize y.runs.take j = M at *
    simp -implicitDefEqProofs only [go_sem, encYd, hjl, hjl', elem_encRns hr, encRn, encPl]
    intro b7
    refine run_call (p_impl_copyRun r hrb.1 hrb.2) (by simp -implicitDefEqProofs only [go_sem, encYd, encRn, encPl]) fun η => ?_
    simp -implicitDefEqProofs only [go_sem, encYd, encRn, encPl]
    simp -implicitDefEqProofs only [go_sem, hjk, hm1, hm2, rns_snoc]
    intro η7 η8
    simp -implicitDefEqProofs only [go_sem, hw]
    exact ⟨(j + 1, η8), by (try dsimp only); first | omega | assumption | (and_intros <;> first | omega | assumption), (wk_of [some 100, some 200, some 300] (by simp -implicitDefEqProofs only [go_sem, encYd, hjs] <;> and_intros <;> first | rfl | assumption)), by (try dsimp only); omega⟩
  have hjl' : ¬ (j : Int) < y.runs.length := by omega
  rw [List.take_of_length_le (by omega)]
  simp -implicitDefEqProofs only [go_sem, encYd, hjl']
set_option maxHeartbeats 8000000 in
theorem p_spec_l10Copy (y : Yd) (ht : totYd y ≤ 2000000) : Pure Tryz.prog 43 [.agg (encYd y)] (.agg (encYd y)) := by
  refine pure_fn Tryz.func43 code_spec_l10Copy (by simp) ?_
  unfold c_spec_l10Copy
  have hsl : y.shelf.length ≤ 2000000 := by simp only [totYd, totSh] at ht; omega
  have hrl := runs_le ht
  simp -implicitDefEqProofs only [go_sem, encYd]
  intro b1 b2 b3
  refine wp_loopW (fun i : Nat × Heads => St.of [(1, Bx 100 b1), (2, Bx 200 b2), (3, Bx 300 b3), (4, Ni i.1)] [(100, Bi b1 _ (encYd y)), (200, ZYd b2 _), (300, .box b3 _ [.a (.v (.int .i64 y.now)), .a (.v (.int .i64 y.seq)), .own (encSh (y.shelf.take i.1)) i.2, .a (.v (.slice none 0 0))])]) (fun i => i.1 ≤ y.shelf.length) (fun i => y.shelf.length - i.1) (0, nilH) (by (try dsimp only); first | omega | (simp; done) | (and_intros <;> first | omega | simp)) (wk_of [some 100, some 200, some 300] (by simp -implicitDefEqProofs only [go_sem, encYd, List.take_zero] <;> and_intros <;> first | rfl | assumption)) ?_
  rintro ⟨k, η⟩ hk
  dsimp only at hk
  by_cases hlt : k < y.shelf.length
  · have hlt' : (k : Int) < y.shelf.length := by omega
    have h0k : (k : Int) ≥ 0 := by omega
    obtain ⟨l, hl⟩ := get_some hlt
    have hll := shelf1_le' ht (List.mem_of_getElem? hl)
    have hw : IntKind.i64.wrap ((k : Int) + 1) = ((k + 1 : Nat) : Int) := wrap64 (by omega) (by omega)
    have hm1 : k + 1 ≤ maxLen := by unfold maxLen; omega
    have hm2 : (k + 1) * 24 ≤ 140737488355328 := by omega
    have hm3 : l.length ≤ maxLen := by unfold maxLen; omega
    have hm4 : l.length * 32 ≤ 140737488355328 := by omega
    have htk : (y.shelf.take k).length = k := by rw [List.length_take]; omega
    have hts : y.shelf.take (k + 1) = y.shelf.take k ++ [l] := by rw [List.take_add_one, hl]; rfl
    generalize y.shelf.take k = M at *
    simp -implicitDefEqProofs only [go_sem, encYd, hlt, hlt', h0k, elem_encSh hl, hm3, hm4, fold_encEns']
    intro η5 η6
    simp -implicitDefEqProofs only [go_sem, htk, hm1, hm2, hm3, hm4, fold_encEns', sh_snoc]
    intro η7 η8
    simp -implicitDefEqProofs only [go_sem, hw]
    exact ⟨(k + 1, η8), by (try dsimp only); first | omega | assumption | (and_intros <;> first | omega | assumption), (wk_of [some 100, some 200, some 300] (by simp -implicitDefEqProofs only [go_sem, encYd, hts] <;> and_intros <;> first | rfl | assumption)), by (try dsimp only); omega⟩
  have hlt' : ¬ (k : Int) < y.shelf.length := by omega
  rw [List.take_of_length_le (by omega)]
  simp -implicitDefEqProofs only [go_sem, encYd, hlt']
  refine wp_loopW (fun i : Nat × Heads => St.of [(1, Bx 100 b1), (2, Bx 200 b2), (3, Bx 300 b3), (5, Ni i.1)] [(100, Bi b1 _ (encYd y)), (200, ZYd b2 _), (300, YdBox b3 _ y.now y.seq y.shelf η (y.runs.take i.1) i.2)]) (fun i => i.1 ≤ y.runs.length) (fun i => y.runs.length - i.1) (0, nilH) (by (try dsimp only); first | omega | (simp; done) | (and_intros <;> first | omega | simp)) (wk_of [some 100, some 200, some 300] (by simp -implicitDefEqProofs only [go_sem, encYd, List.take_zero] <;> and_intros <;> first | rfl | assumption)) ?_
  rintro ⟨j, η2⟩ hj
  dsimp only at hj
  by_cases hjl : j < y.runs.length
  · have hjl' : (j : Int) < y.runs.length := by omega
    have h0j : (j : Int) ≥ 0 := by omega
    obtain ⟨r, hr⟩ := get_some hjl
    have hw : IntKind.i64.wrap ((j : Int) + 1) = ((j + 1 : Nat) : Int) := wrap64 (by omega) (by omega)
    have hm1 : j + 1 ≤ maxLen := by unfold maxLen; omega
    have hm2 : (j + 1) * 96 ≤ 140737488355328 := by omega
    have hjk : (y.runs.take j).length = j := by rw [List.length_take]; omega
    have hjs : y.runs.take (j + 1) = y.runs.take j ++ [r] := by rw [List.take_add_one, hr]; rfl
    have hrb := run1_le ht (List.mem_of_getElem? hr)
    generalize y.runs.take j = M at *
    simp -implicitDefEqProofs only [go_sem, encYd, hjl, hjl', h0j, elem_encRns hr, encRn, encPl]
    refine run_call (p_spec_l09Copy r hrb.1 hrb.2) (by simp -implicitDefEqProofs only [go_sem, encYd, encRn, encPl]) fun η => ?_
    simp -implicitDefEqProofs only [go_sem, encYd, encRn, encPl]
    simp -implicitDefEqProofs only [go_sem, hjk, hm1, hm2, rns_snoc]
    intro η7 η8
    simp -implicitDefEqProofs only [go_sem, hw]
    exact ⟨(j + 1, η8), by (try dsimp only); first | omega | assumption | (and_intros <;> first | omega | assumption), (wk_of [some 100, some 200, some 300] (by simp -implicitDefEqProofs only [go_sem, encYd, hjs] <;> and_intros <;> first | rfl | assumption)), by (try dsimp only); omega⟩
  have hjl' : ¬ (j : Int) < y.runs.length := by omega
  rw [List.take_of_length_le (by omega)]
  simp -implicitDefEqProofs only [go_sem, encYd, hjl']
end Go.Proofs.YtnhdcbhcocgjhaaGreat
