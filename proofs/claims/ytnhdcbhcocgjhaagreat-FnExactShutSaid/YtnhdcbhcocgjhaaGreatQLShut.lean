/- Texts for laws: LShut. -/
import Derived.Test.YtnhdcbhcocgjhaaGreatQDatB
import Derived.Test.YtnhdcbhcocgjhaaGreatQDatH
import Derived.Test.YtnhdcbhcocgjhaaGreatQHole
import Derived.Test.YtnhdcbhcocgjhaaGreatQOpenE
set_option linter.unusedSimpArgs false
set_option linter.unusedVariables false
set_option maxRecDepth 100000
namespace Go.Proofs.YtnhdcbhcocgjhaaGreat
open Go.RowKit Go.Sort
def c_laws_FnExactShut : C := .seq (.reg [⟨some 1, none, .box 53 10 (.t 0)⟩, ⟨some 2, none, .mov (.c (.bool false))⟩]) (.seq (.reg [⟨some 3, none, .mov (.c (.int .i64 1048576))⟩]) (.seq (.reg [⟨some 14, none, .ld true 10 (.t 1)⟩, ⟨some 15, none, .mov (.t 3)⟩, ⟨some 16, none, .call 29 [.t 14, .t 15]⟩, ⟨some 3, none, .mov (.t 16)⟩]) (.seq (.seq (.reg [⟨some 17, none, .mov (.t 3)⟩, ⟨some 18, none, .bin .lss 3 (.t 17) (.c (.int .i64 0))⟩]) (.cond (.t 18) (.seq (.reg [⟨some 2, none, .mov (.c (.bool true))⟩]) .ret) .skip)) (.seq (.reg [⟨some 20, none, .ld true 10 (.t 1)⟩, ⟨some 21, none, .call 31 [.t 20]⟩, ⟨some 22, none, .call 30 [.t 21]⟩, ⟨some 19, none, .mov (.t 22)⟩, ⟨some 23, none, .ext (.t 19) 0⟩, ⟨some 24, none, .ext (.t 19) 1⟩, ⟨some 4, none, .alloc 60 [.int .i64 0, .int .i64 0, .slice none 0 0, .slice none 0 0, .slice none 0 0, .int .i64 0, .int .i64 0, .slice none 0 0, .int .i64 0, .bool false]⟩, ⟨none, none, .st 10 [none, none, some (1, 103), some (8, 80), some (3, 176), none, none, some (5, 128), none, none] (.t 4) (.t 23)⟩, ⟨some 5, none, .mov (.t 24)⟩]) (.seq (.reg [⟨some 25, none, .ld true 10 (.t 1)⟩, ⟨some 26, none, .call 31 [.t 25]⟩, ⟨some 6, none, .alloc 60 [.int .i64 0, .int .i64 0, .slice none 0 0, .slice none 0 0, .slice none 0 0, .int .i64 0, .int .i64 0, .slice none 0 0, .int .i64 0, .bool false]⟩, ⟨none, none, .st 10 [none, none, some (1, 103), some (8, 80), some (3, 176), none, none, some (5, 128), none, none] (.t 6) (.t 26)⟩]) (.seq (.reg [⟨some 28, none, .ld true 10 (.t 6)⟩, ⟨some 29, none, .call 32 [.t 28]⟩, ⟨some 27, none, .mov (.t 29)⟩, ⟨some 30, none, .ext (.t 27) 0⟩, ⟨some 31, none, .ext (.t 27) 1⟩, ⟨some 7, none, .alloc 60 [.int .i64 0, .int .i64 0, .slice none 0 0, .slice none 0 0, .slice none 0 0, .int .i64 0, .int .i64 0, .slice none 0 0, .int .i64 0, .bool false]⟩, ⟨none, none, .st 10 [none, none, some (1, 103), some (8, 80), some (3, 176), none, none, some (5, 128), none, none] (.t 7) (.t 30)⟩, ⟨some 8, none, .mov (.t 31)⟩]) (.seq (.seq (.reg [⟨some 32, none, .ld true 10 (.t 7)⟩, ⟨some 33, none, .ld true 10 (.t 4)⟩, ⟨some 34, none, .call 33 [.t 32, .t 33]⟩, ⟨some 35, none, .un .not (.t 34)⟩, ⟨some 36, none, .mov (.t 35)⟩, ⟨some 37, some (36, false), .mov (.t 8)⟩, ⟨some 38, some (36, false), .mov (.t 5)⟩, ⟨some 39, some (36, false), .bin .neq 3 (.t 37) (.t 38)⟩, ⟨some 40, none, .pick (.t 36) (.c (.bool true)) (.t 39)⟩]) (.cond (.t 40) (.seq (.reg [⟨some 2, none, .mov (.c (.bool false))⟩]) .ret) .skip)) (.seq (.seq (.dreg (T.pure 0 ⟨some 41, none, .ld true 10 (.t 6)⟩ (T.pure 1 ⟨some 42, none, .ld true 10 (.t 1)⟩ (T.alt ⟨some 43, none, .call 31 [.t 42]⟩ [0] (T.alt ⟨some 44, none, .call 33 [.t 41, .t 43]⟩ [] (T.pure 4 ⟨some 45, none, .un .not (.t 44)⟩ T.done) T.stop) T.stop)))) (.cond (.t 45) (.seq (.reg [⟨some 2, none, .mov (.c (.bool false))⟩]) .ret) .skip)) (.seq (.reg [⟨some 9, none, .mov (.c (.int .i64 1))⟩]) (.seq (.reg [⟨some 46, none, .ld true 10 (.t 6)⟩, ⟨some 47, none, .mov (.t 9)⟩, ⟨some 48, none, .call 34 [.t 46, .t 47]⟩, ⟨some 9, none, .mov (.t 48)⟩]) (.seq (.seq (.reg [⟨some 49, none, .mov (.t 9)⟩, ⟨some 50, none, .bin .lss 3 (.t 49) (.c (.int .i64 0))⟩, ⟨some 51, none, .mov (.t 50)⟩, ⟨some 52, some (51, false), .ld true 10 (.t 7)⟩, ⟨some 53, some (51, false), .ld true 10 (.t 4)⟩, ⟨some 54, some (51, false), .call 33 [.t 52, .t 53]⟩, ⟨some 55, some (51, false), .un .not (.t 54)⟩, ⟨some 56, none, .pick (.t 51) (.c (.bool true)) (.t 55)⟩, ⟨some 57, none, .mov (.t 56)⟩, ⟨some 58, some (57, false), .mov (.t 8)⟩, ⟨some 59, some (57, false), .mov (.t 5)⟩, ⟨some 60, some (57, false), .bin .neq 3 (.t 58) (.t 59)⟩, ⟨some 61, none, .pick (.t 57) (.c (.bool true)) (.t 60)⟩]) (.cond (.t 61) (.seq (.reg [⟨some 2, none, .mov (.c (.bool false))⟩]) .ret) .skip)) (.seq (.reg [⟨some 10, none, .mov (.c (.int .i64 1))⟩]) (.seq (.reg [⟨some 62, none, .ld true 10 (.t 7)⟩, ⟨some 63, none, .mov (.t 10)⟩, ⟨some 64, none, .call 34 [.t 62, .t 63]⟩, ⟨some 10, none, .mov (.t 64)⟩]) (.seq (.reg [⟨some 11, none, .mov (.c (.int .i64 1))⟩]) (.seq (.reg [⟨some 65, none, .ld true 10 (.t 7)⟩, ⟨some 66, none, .mov (.t 11)⟩, ⟨some 67, none, .call 35 [.t 65, .t 66]⟩, ⟨some 11, none, .mov (.t 67)⟩]) (.seq (.seq (.reg [⟨some 68, none, .mov (.t 11)⟩, ⟨some 69, none, .bin .lss 3 (.t 68) (.c (.int .i64 0))⟩]) (.cond (.t 69) (.seq (.reg [⟨some 2, none, .mov (.c (.bool false))⟩]) .ret) .skip)) (.seq (.seq (.reg [⟨some 70, none, .mov (.t 11)⟩, ⟨some 71, none, .mov (.t 10)⟩, ⟨some 72, none, .bin .neq 3 (.t 70) (.t 71)⟩]) (.cond (.t 72) (.seq (.reg [⟨some 2, none, .mov (.c (.bool false))⟩]) .ret) .skip)) (.seq (.reg [⟨some 74, none, .ld true 10 (.t 1)⟩, ⟨some 75, none, .call 31 [.t 74]⟩, ⟨some 76, none, .call 32 [.t 75]⟩, ⟨some 73, none, .mov (.t 76)⟩, ⟨some 77, none, .ext (.t 73) 0⟩, ⟨some 78, none, .ext (.t 73) 1⟩, ⟨some 12, none, .alloc 60 [.int .i64 0, .int .i64 0, .slice none 0 0, .slice none 0 0, .slice none 0 0, .int .i64 0, .int .i64 0, .slice none 0 0, .int .i64 0, .bool false]⟩, ⟨none, none, .st 10 [none, none, some (1, 103), some (8, 80), some (3, 176), none, none, some (5, 128), none, none] (.t 12) (.t 77)⟩, ⟨some 13, none, .mov (.t 78)⟩]) (.seq (.seq (.reg [⟨some 79, none, .ld true 10 (.t 12)⟩, ⟨some 80, none, .ld true 10 (.t 4)⟩, ⟨some 81, none, .call 33 [.t 79, .t 80]⟩, ⟨some 82, none, .un .not (.t 81)⟩, ⟨some 83, none, .mov (.t 82)⟩, ⟨some 84, some (83, false), .mov (.t 13)⟩, ⟨some 85, some (83, false), .mov (.t 5)⟩, ⟨some 86, some (83, false), .bin .neq 3 (.t 84) (.t 85)⟩, ⟨some 87, none, .pick (.t 83) (.c (.bool true)) (.t 86)⟩]) (.cond (.t 87) (.seq (.reg [⟨some 2, none, .mov (.c (.bool false))⟩]) .ret) .skip)) (.seq (.reg [⟨some 11, none, .mov (.c (.int .i64 1))⟩]) (.seq (.reg [⟨some 88, none, .ld true 10 (.t 7)⟩, ⟨some 89, none, .mov (.t 11)⟩, ⟨some 90, none, .call 35 [.t 88, .t 89]⟩, ⟨some 11, none, .mov (.t 90)⟩]) (.seq (.seq (.reg [⟨some 91, none, .mov (.t 11)⟩, ⟨some 92, none, .bin .lss 3 (.t 91) (.c (.int .i64 0))⟩]) (.cond (.t 92) (.seq (.reg [⟨some 2, none, .mov (.c (.bool false))⟩]) .ret) .skip)) (.seq (.seq (.reg [⟨some 93, none, .mov (.t 11)⟩, ⟨some 94, none, .mov (.t 10)⟩, ⟨some 95, none, .bin .neq 3 (.t 93) (.t 94)⟩]) (.cond (.t 95) (.seq (.reg [⟨some 2, none, .mov (.c (.bool false))⟩]) .ret) .skip)) (.seq (.reg [⟨some 2, none, .mov (.c (.bool true))⟩]) .ret))))))))))))))))))))))))
theorem code_laws_FnExactShut : fnC Tryz.prog Tryz.f9 = some (c_laws_FnExactShut, [.t 2], 96) := by kernel_rfl
abbrev EgO (x : Eg) (e2 e3 e4 e7 : Heads) : List Cell := [.a (.v (.int .i64 x.yard.now)), .a (.v (.int .i64 x.yard.seq)), .own (encSh x.yard.shelf) e2, .own (encRns x.yard.runs) e3, .own (encFls x.disk) e4, .a (.v (.int .i64 x.next)), .a (.v (.int .i64 x.calls)), .own (encWts x.waits) e7, .a (.v (.int .i64 x.state)), .a (.v (.bool x.broken))]
set_option maxHeartbeats 8000000 in
theorem p_Shut (x : Eg) (hz : egOk x) : Pure Tryz.prog 9 [.agg (encEg x)] (.c (.val (.bool true))) := by
  refine pure_gn [[1,1,1,1,1,1,1,1,1,1,0], [1,1,1,1,1,1,1,1,1,1,1,0], [1,1,1,1,1,1,1,1,1,1,1,1,1,0], [1,1,1,1,1,1,1,1,1,1,1,1,1,1,0]] Tryz.func9 code_laws_FnExactShut (by simp) ?_
  unfold c_laws_FnExactShut
  simp only [C.ghs, C.ghAt, List.foldr]
  obtain ⟨z1, z2, z3⟩ := hz
  simp -implicitDefEqProofs only [go_sem, encEg]
  intro b1
  refine run_call (p_szEngine x 1048576 (by omega) (by omega) z1 z2 z3) (by simp -implicitDefEqProofs only [go_sem, encEg]) fun η => ?_
  simp -implicitDefEqProofs only [go_sem, encEg]
  rcases szf_spec (totEg x) (1048576) with ⟨hle0, hz0⟩ | ⟨hle0, hz0⟩
  rotate_left
  · have h7 : ((-1 : Int) < 0) = True := by simp
    simp -implicitDefEqProofs only [go_sem, hz0, h7]
  have hT : totEg x = totYd x.yard + totFls x.disk + x.waits.length := rfl
  have hF : totFls x.disk = x.disk.length + tsum totFl x.disk := rfl
  have ht0 : totYd x.yard ≤ 2000000 := by omega
  have hd0 : x.disk.length ≤ 2000000 := by omega
  have hw0 : x.waits.length ≤ 2000000 := by omega
  have hca0 := b_yd x.yard
  have hsa0 : x.yard.shelf.length ≤ totYd x.yard := by simp only [totYd, totSh]; omega
  have hra0 : x.yard.runs.length ≤ totYd x.yard := by simp only [totYd, totRns]; omega
  have hcE : ((cE x : Nat) : Int) = (cYd x.yard : Nat) + 3 * (x.disk.length : Int) + 5 * (x.waits.length : Int) := by simp only [cE]; omega
  have hn0 : ¬ (1048576 - (totEg x : Int) < 0) := by omega
  have pS := p_spec_Shut x ht0 hd0 hw0
  have pI := p_impl_Shut x ht0 hd0 hw0
  have hRd : (shutE x).1.disk = x.disk := by unfold shutE; split <;> (try split) <;> rfl
  have hRw : (shutE x).1.waits.length ≤ x.waits.length := by unfold shutE; split <;> (try split) <;> simp
  have hRy : (shutE x).1.yard = x.yard := by unfold shutE; split <;> (try split) <;> rfl
  generalize shutE x = rc at *
  obtain ⟨r, c⟩ := rc
  dsimp only at hRd hRw hRy pS pI
  have hcR : ((cE r : Nat) : Int) ≤ (cE x : Nat) := by simp only [cE, hRd, hRy]; omega
  have hrs : r.yard.shelf.length ≤ 4000000 := by rw [hRy]; omega
  have hrr : r.yard.runs.length ≤ 4000000 := by rw [hRy]; omega
  have pT := p_toEngine x ht0 (by omega) (by omega)
  have pE := p_eqEngine1 r (by rw [hRd]; omega) (by omega)
  have pX := p_eqEngine1 x (by omega) (by omega)
  simp -implicitDefEqProofs only [go_sem, hz0, hn0, encEg]
  refine run_call (pT) (by simp -implicitDefEqProofs only [go_sem, encEg]) fun η1 => ?_
  simp -implicitDefEqProofs only [go_sem, encEg]
  refine run_call (pS) (by simp -implicitDefEqProofs only [go_sem, encEg]) fun η2 => ?_
  simp -implicitDefEqProofs only [go_sem, encEg]
  intro b4
  refine run_call (pT) (by simp -implicitDefEqProofs only [go_sem, encEg]) fun η3 => ?_
  simp -implicitDefEqProofs only [go_sem, encEg]
  intro b5
  refine run_call (pI) (by simp -implicitDefEqProofs only [go_sem, encEg]) fun η4 => ?_
  simp -implicitDefEqProofs only [go_sem, encEg]
  intro b6
  refine run_call (pE) (by simp -implicitDefEqProofs only [go_sem, encEg, Bool.not_true, bne_self_eq_false]) fun η5 => ?_
  simp -implicitDefEqProofs only [go_sem, encEg, Bool.not_true, bne_self_eq_false]
  refine run_call (pT) (by simp -implicitDefEqProofs only [go_sem, encEg]) fun η6 => ?_
  simp -implicitDefEqProofs only [go_sem, encEg]
  refine run_call (pX) (by simp -implicitDefEqProofs only [go_sem, encEg, Bool.not_true]) fun η7 => ?_
  simp -implicitDefEqProofs only [go_sem, encEg, Bool.not_true]
  refine wp_gk ?_
  refine WkK.wk (s' := St.of [(1, Bx 90 b1), (4, Bx 91 b4), (5, Ni c), (6, Bx 92 b5), (7, Bx 93 b6), (8, Ni c), (9, Ni 1)] [(90, Bi b1 _ (encEg x)), (91, .box b4 tEg (EgO r (η2 2) (η2 3) (η2 4) (η2 7))), (92, .box b5 tEg (EgO x (η3 2) (η3 3) (η3 4) (η3 7))), (93, .box b6 tEg (EgO r (η4 2) (η4 3) (η4 4) (η4 7)))]) (wk_of [some 100, some 400, some 600, some 700] (by simp -implicitDefEqProofs only [go_sem, EgO, EgC, encEg, simO_self] <;> and_intros <;> first | rfl | assumption)) ?_
  refine wk_cut0 92 2 94 (d := encSh x.yard.shelf) (η := η3 2) rfl rfl (by decide) fun x2 => ?_
  refine wk_cut0 92 3 95 (d := encRns x.yard.runs) (η := η3 3) rfl rfl (by decide) fun x3 => ?_
  refine wk_cut0 92 4 96 (d := encFls x.disk) (η := η3 4) rfl rfl (by decide) fun x4 => ?_
  refine wk_cut0 92 7 97 (d := encWts x.waits) (η := η3 7) rfl rfl (by decide) fun x7 => ?_
  refine WkK.wk (s' := St.of [(1, Bx 90 b1), (4, Bx 91 b4), (5, Ni c), (6, Bx 92 b5), (7, Bx 93 b6), (8, Ni c), (9, Ni 1)] [(90, Bi b1 _ (encEg x)), (91, .box b4 tEg (EgO r (η2 2) (η2 3) (η2 4) (η2 7))), (92, .box b5 tEg (EgC x (η3 2 []) (η3 3 []) (η3 4 []) (η3 7 []))), (93, .box b6 tEg (EgO r (η4 2) (η4 3) (η4 4) (η4 7))), (94, .loose (encSh x.yard.shelf) (η3 2)), (95, .loose (encRns x.yard.runs) (η3 3)), (96, .loose (encFls x.disk) (η3 4)), (97, .loose (encWts x.waits) (η3 7))]) (wk_of [some 90, some 91, some 92, some 93, some 94, some 95, some 96, some 97] (by simp -implicitDefEqProofs only [go_sem, EgO, EgC, encEg, simO_self] <;> and_intros <;> first | rfl | assumption)) ?_
  refine WkK.of ?_
  simp -implicitDefEqProofs only [go_sem, EgC, x2, x3, x4, x7]
  refine run_inl_at (by simp -implicitDefEqProofs only [go_sem, EgV]) (inl_markEngine x 1 _ (η3 2) (η3 3) (η3 4) (η3 7) (by omega) (by omega) (by omega) (by omega) (by simp -implicitDefEqProofs only [go_sem]) (by simp -implicitDefEqProofs only [go_sem]) (by simp -implicitDefEqProofs only [go_sem]) (by simp -implicitDefEqProofs only [go_sem]) x2 x3 x4 x7) fun ava oa ⟨hava, ⟨f2a, f3a, hf2a, hf3a, p4a, p5a⟩, p6a, p7a, p90a, p91a, p92a, p93a⟩ => ?_
  simp -implicitDefEqProofs only [go_sem] at p90a p91a p93a
  subst hava
  refine wp_gk ?_
  refine WkK.wk (s' := St.of [(1, Bx 90 b1), (4, Bx 91 b4), (5, Ni c), (7, Bx 93 b6), (8, Ni c), (9, Ni (1 + ((cE x : Nat) : Int)))] [(90, Bi b1 _ (encEg x)), (91, .box b4 tEg (EgO r (η2 2) (η2 3) (η2 4) (η2 7))), (93, .box b6 tEg (EgO r (η4 2) (η4 3) (η4 4) (η4 7)))]) (wk_of [some 90, some 91, some 93] (by simp -implicitDefEqProofs only [go_sem, EgO, EgC, encEg, simO_self, p90a, p91a, p93a] <;> and_intros <;> first | rfl | assumption)) ?_
  refine WkK.of ?_
  have hn1 : ¬ (1 + ((cE x : Nat) : Int) < 0) := by omega
  have hn2 : ¬ (1 + ((cE r : Nat) : Int) < 0) := by omega
  simp -implicitDefEqProofs only [go_sem, hn1, EgO]
  refine run_call (pE) (by simp -implicitDefEqProofs only [go_sem, encEg, Bool.not_true, bne_self_eq_false]) fun η8 => ?_
  simp -implicitDefEqProofs only [go_sem, encEg, Bool.not_true, bne_self_eq_false]
  refine wp_gk ?_
  refine WkK.wk (s' := St.of [(1, Bx 90 b1), (4, Bx 91 b4), (5, Ni c), (7, Bx 93 b6), (8, Ni c), (10, Ni 1)] [(90, Bi b1 _ (encEg x)), (91, .box b4 tEg (EgO r (η2 2) (η2 3) (η2 4) (η2 7))), (93, .box b6 tEg (EgO r (η4 2) (η4 3) (η4 4) (η4 7)))]) (wk_of [some 90, some 91, some 93] (by simp -implicitDefEqProofs only [go_sem, EgO, EgC, encEg, simO_self] <;> and_intros <;> first | rfl | assumption)) ?_
  refine wk_cut0 93 2 94 (d := encSh r.yard.shelf) (η := η4 2) rfl rfl (by decide) fun y2 => ?_
  refine wk_cut0 93 3 95 (d := encRns r.yard.runs) (η := η4 3) rfl rfl (by decide) fun y3 => ?_
  refine wk_cut0 93 4 96 (d := encFls r.disk) (η := η4 4) rfl rfl (by decide) fun y4 => ?_
  refine wk_cut0 93 7 97 (d := encWts r.waits) (η := η4 7) rfl rfl (by decide) fun y7 => ?_
  refine WkK.wk (s' := St.of [(1, Bx 90 b1), (4, Bx 91 b4), (5, Ni c), (7, Bx 93 b6), (8, Ni c), (10, Ni 1)] [(90, Bi b1 _ (encEg x)), (91, .box b4 tEg (EgO r (η2 2) (η2 3) (η2 4) (η2 7))), (93, .box b6 tEg (EgC r (η4 2 []) (η4 3 []) (η4 4 []) (η4 7 []))), (94, .loose (encSh r.yard.shelf) (η4 2)), (95, .loose (encRns r.yard.runs) (η4 3)), (96, .loose (encFls r.disk) (η4 4)), (97, .loose (encWts r.waits) (η4 7))]) (wk_of [some 90, some 91, some 93, some 94, some 95, some 96, some 97] (by simp -implicitDefEqProofs only [go_sem, EgO, EgC, encEg, simO_self] <;> and_intros <;> first | rfl | assumption)) ?_
  refine WkK.of ?_
  simp -implicitDefEqProofs only [go_sem, EgC, y2, y3, y4, y7]
  refine run_inl_at (by simp -implicitDefEqProofs only [go_sem, EgV]) (inl_markEngine r 1 _ (η4 2) (η4 3) (η4 4) (η4 7) (by omega) (by omega) (by omega) (by omega) (by simp -implicitDefEqProofs only [go_sem]) (by simp -implicitDefEqProofs only [go_sem]) (by simp -implicitDefEqProofs only [go_sem]) (by simp -implicitDefEqProofs only [go_sem]) y2 y3 y4 y7) fun avb ob ⟨havb, ⟨f2b, f3b, hf2b, hf3b, p4b, p5b⟩, p6b, p7b, p90b, p91b, p92b, p93b⟩ => ?_
  simp -implicitDefEqProofs only [go_sem] at p90b p91b p93b
  subst havb
  refine wp_gk ?_
  refine WkK.wk (s' := St.of [(1, Bx 90 b1), (4, Bx 91 b4), (5, Ni c), (7, Bx 93 b6), (8, Ni c), (10, Ni (1 + ((cE r : Nat) : Int)))] [(90, Bi b1 _ (encEg x)), (91, .box b4 tEg (EgO r (η2 2) (η2 3) (η2 4) (η2 7))), (93, .box b6 tEg (EgC r (f2b []) (f3b []) (η4 4 []) (η4 7 []))), (94, .loose (encSh (mkEg r 1).yard.shelf) f2b), (95, .loose (encRns (mkEg r 1).yard.runs) f3b), (96, .loose (encFls (mkEg r 1).disk) (η4 4)), (97, .loose (encWts (mkEg r 1).waits) (η4 7))]) (wk_of [some 90, some 91, some 93, some 94, some 95, some 96, some 97] (by simp -implicitDefEqProofs only [go_sem, EgO, EgC, encEg, simO_self, p90b, p91b, p93b, p4b, p5b, p6b, p7b, hf2b, hf3b] <;> and_intros <;> first | rfl | assumption)) ?_
  refine wk_graft0 93 2 94 (d := encSh (mkEg r 1).yard.shelf) (η := f2b) rfl rfl rfl ?_
  refine wk_graft0 93 3 95 (d := encRns (mkEg r 1).yard.runs) (η := f3b) rfl rfl rfl ?_
  refine wk_graft0 93 4 96 (d := encFls (mkEg r 1).disk) (η := η4 4) rfl rfl rfl ?_
  refine wk_graft0 93 7 97 (d := encWts (mkEg r 1).waits) (η := η4 7) rfl rfl rfl ?_
  refine WkK.wk (s' := St.of [(1, Bx 90 b1), (4, Bx 91 b4), (5, Ni c), (7, Bx 93 b6), (8, Ni c), (10, Ni (1 + ((cE r : Nat) : Int)))] [(90, Bi b1 _ (encEg x)), (91, .box b4 tEg (EgO r (η2 2) (η2 3) (η2 4) (η2 7))), (93, .box b6 tEg (EgO (mkEg r 1) f2b f3b (η4 4) (η4 7)))]) (wk_of [some 90, some 91, some 93] (by simp -implicitDefEqProofs only [go_sem, EgO, EgC, encEg, simO_self] <;> and_intros <;> first | rfl | assumption)) ?_
  refine WkK.of ?_
  have pH := p_heldEngine r 1 (by omega) (by omega) (by omega) (by omega)
  simp -implicitDefEqProofs only [go_sem, EgO]
  refine run_call (pH) (by simp -implicitDefEqProofs only [go_sem, encEg, hn2, bne_self_eq_false]) fun η9 => ?_
  simp -implicitDefEqProofs only [go_sem, encEg, hn2, bne_self_eq_false]
  refine run_call (pT) (by simp -implicitDefEqProofs only [go_sem, encEg]) fun η10 => ?_
  simp -implicitDefEqProofs only [go_sem, encEg]
  refine run_call (pI) (by simp -implicitDefEqProofs only [go_sem, encEg]) fun η11 => ?_
  simp -implicitDefEqProofs only [go_sem, encEg]
  intro b10
  refine run_call (pE) (by simp -implicitDefEqProofs only [go_sem, encEg, Bool.not_true, bne_self_eq_false]) fun η12 => ?_
  simp -implicitDefEqProofs only [go_sem, encEg, Bool.not_true, bne_self_eq_false]
  refine run_call (pH) (by simp -implicitDefEqProofs only [go_sem, encEg, hn2, bne_self_eq_false]) fun η13 => ?_
  simp -implicitDefEqProofs only [go_sem, encEg, hn2, bne_self_eq_false]
end Go.Proofs.YtnhdcbhcocgjhaaGreat
