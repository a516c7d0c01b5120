/- Texts for laws: DatH. -/
import Derived.Test.YtnhdcbhcocgjhaaGreatQDatI
set_option linter.unusedSimpArgs false
set_option linter.unusedVariables false
set_option maxRecDepth 100000
namespace Go.Proofs.YtnhdcbhcocgjhaaGreat
open Go.RowKit Go.Sort
def c_laws_markEngine : C := .seq (.reg [⟨some 2, none, .box 60 10 (.t 0)⟩, ⟨some 4, none, .mov (.c (.int .i64 0))⟩]) (.seq (.reg [⟨some 5, none, .fa 0 (.t 2)⟩, ⟨some 6, none, .ld true 4 (.t 5)⟩, ⟨some 7, none, .mov (.t 1)⟩, ⟨some 8, none, .call 16 [.t 6, .t 7]⟩, ⟨some 1, none, .mov (.t 8)⟩]) (.seq (.reg [⟨some 9, none, .fa 4 (.t 2)⟩, ⟨some 10, none, .ld true 1 (.t 9)⟩, ⟨some 11, none, .mov (.t 1)⟩, ⟨some 12, none, .call 97 [.t 10, .t 11]⟩, ⟨some 1, none, .mov (.t 12)⟩]) (.seq (.reg [⟨some 13, none, .fa 7 (.t 2)⟩, ⟨some 14, none, .ld false 1 (.t 13)⟩, ⟨some 15, none, .mov (.t 1)⟩, ⟨some 16, none, .call 39 [.t 14, .t 15]⟩, ⟨some 1, none, .mov (.t 16)⟩]) (.seq (.reg [⟨some 17, none, .mov (.t 1)⟩, ⟨some 4, none, .mov (.t 17)⟩]) .ret))))
theorem code_laws_markEngine : fnC Tryz.prog Tryz.f34 = some (c_laws_markEngine, [.t 4], 18) := by kernel_rfl
def cE (x : Eg) : Nat := cYd x.yard + 3 * x.disk.length + 5 * x.waits.length
def mkEg (x : Eg) (k : Int) : Eg := ⟨mkYd x.yard k, mkFls x.disk (k + (cYd x.yard : Nat)), x.next, x.calls, mkWts x.waits (k + (cYd x.yard : Nat) + 3 * (x.disk.length : Int)), x.state, x.broken⟩
theorem p_heldEngine (x : Eg) (k : Int) (h0 : 0 ≤ k) (h1 : k + (cE x : Nat) ≤ 1000000000) (hs : x.yard.shelf.length ≤ 4000000) (hr : x.yard.runs.length ≤ 4000000) : Pure Tryz.prog 35 [.agg (encEg (mkEg x k)), .c (.val (.int .i64 k))] (.c (.val (.int .i64 (k + (cE x : Nat))))) := by
  refine pure_fn Tryz.func35 code_laws_heldEngine (by simp) ?_
  unfold c_laws_heldEngine
  have hce : ((cE x : Nat) : Int) = (cYd x.yard : Nat) + 3 * (x.disk.length : Int) + 5 * (x.waits.length : Int) := by simp only [cE]; omega
  have n1 : ¬ (k + ((cYd x.yard : Nat) : Int) < 0) := by omega
  have n2 : ¬ (k + ((cYd x.yard : Nat) : Int) + 3 * (x.disk.length : Int) < 0) := by omega
  have n3 : ¬ (k + ((cYd x.yard : Nat) : Int) + 3 * (x.disk.length : Int) + 5 * (x.waits.length : Int) < 0) := by omega
  have hm : encYd (mkYd x.yard k) = [iv (mkYd x.yard k).now, iv (mkYd x.yard k).seq, encSh (mkYd x.yard k).shelf, encRns (mkYd x.yard k).runs] := rfl
  have hR : k + ((cE x : Nat) : Int) = k + ((cYd x.yard : Nat) : Int) + 3 * (x.disk.length : Int) + 5 * (x.waits.length : Int) := by omega
  rw [hR]
  simp -implicitDefEqProofs only [go_sem, encEg, mkEg]
  intros
  refine run_call (p_heldYard x.yard k h0 (by omega) (by omega) (by omega)) (by simp -implicitDefEqProofs only [go_sem, hm, n1]) fun ηa => ?_
  simp -implicitDefEqProofs only [go_sem, hm, n1]
  refine run_call (p_heldDisk x.disk (k + (cYd x.yard : Nat)) (by omega) (by omega)) (by simp -implicitDefEqProofs only [go_sem, n2]) fun ηb => ?_
  simp -implicitDefEqProofs only [go_sem, n2]
  refine run_call (p_heldWaitS x.waits (k + (cYd x.yard : Nat) + 3 * (x.disk.length : Int)) (by omega) (by omega)) (by simp -implicitDefEqProofs only [go_sem, n3]) fun ηc => ?_
  simp -implicitDefEqProofs only [go_sem, n3]
abbrev EgV (x : Eg) (h2 h3 h4 h7 : Value) : List A0 := [.v (.int .i64 x.yard.now), .v (.int .i64 x.yard.seq), .v h2, .v h3, .v h4, .v (.int .i64 x.next), .v (.int .i64 x.calls), .v h7, .v (.int .i64 x.state), .v (.bool x.broken)]
abbrev EgC (x : Eg) (h2 h3 h4 h7 : Value) : List Cell := [.a (.v (.int .i64 x.yard.now)), .a (.v (.int .i64 x.yard.seq)), .a (.v h2), .a (.v h3), .a (.v h4), .a (.v (.int .i64 x.next)), .a (.v (.int .i64 x.calls)), .a (.v h7), .a (.v (.int .i64 x.state)), .a (.v (.bool x.broken))]
abbrev EgY (x : Eg) (e2 e3 : Heads) (sh : List (List En)) (rn : List Rn) (h4 h7 : Value) : List Cell := [.a (.v (.int .i64 x.yard.now)), .a (.v (.int .i64 x.yard.seq)), .own (encSh sh) e2, .own (encRns rn) e3, .a (.v h4), .a (.v (.int .i64 x.next)), .a (.v (.int .i64 x.calls)), .a (.v h7), .a (.v (.int .i64 x.state)), .a (.v (.bool x.broken))]
set_option maxHeartbeats 4000000 in
theorem inl_markEngine (x : Eg) (k : Int) (o : Nat → Ob) (e2 e3 e4 e7 : Heads) (h0 : 0 ≤ k) (h1 : k + (cE x : Nat) ≤ 1000000000) (hs : x.yard.shelf.length ≤ 4000000) (hr : x.yard.runs.length ≤ 4000000) (o2 : o 94 = .loose (encSh x.yard.shelf) e2) (o3 : o 95 = .loose (encRns x.yard.runs) e3) (o4 : o 96 = .loose (encFls x.disk) e4) (o7 : o 97 = .loose (encWts x.waits) e7) (v2 : (e2 []).oneCell' = true) (v3 : (e3 []).oneCell' = true) (v4 : (e4 []).oneCell' = true) (v7 : (e7 []).oneCell' = true) : Inl Tryz.prog 34 [.agg (EgV x (e2 []) (e3 []) (e4 []) (e7 [])), Ni k] o fun av o' => av = Ni (k + (cE x : Nat)) ∧ (∃ f2 f3 : Heads, f2 [] = e2 [] ∧ f3 [] = e3 [] ∧ o' 94 = .loose (encSh (mkEg x k).yard.shelf) f2 ∧ o' 95 = .loose (encRns (mkEg x k).yard.runs) f3) ∧ o' 96 = .loose (encFls (mkEg x k).disk) e4 ∧ o' 97 = .loose (encWts (mkEg x k).waits) e7 ∧ o' 90 = o 90 ∧ o' 91 = o 91 ∧ o' 92 = o 92 ∧ o' 93 = o 93 := by
  refine inl_gn (β := 6000000) [[1,0], [1,1,0]] Tryz.func34 code_laws_markEngine (by simp) ?_
  unfold c_laws_markEngine
  simp only [C.ghs, C.ghAt, List.foldr]
  have hce : ((cE x : Nat) : Int) = (cYd x.yard : Nat) + 3 * (x.disk.length : Int) + 5 * (x.waits.length : Int) := by simp only [cE]; omega
  simp -implicitDefEqProofs only [go_sem, EgV, v2, v3, v4, v7]
  intro c2
  refine wp_gk ?_
  refine WkK.wk (s' := St.of [(1, Ni k), (2, Bx 89 c2)] [(89, .box c2 tEg (EgC x (e2 []) (e3 []) (e4 []) (e7 []))), (94, .loose (encSh x.yard.shelf) e2), (95, .loose (encRns x.yard.runs) e3), (96, .loose (encFls x.disk) e4), (97, .loose (encWts x.waits) e7), (90, o 90), (91, o 91), (92, o 92), (93, o 93)]) (wk_of [some 600000200, some 94, some 95, some 96, some 97, some 90, some 91, some 92, some 93] (by simp -implicitDefEqProofs only [go_sem, EgC, simO_self, o2, o3, o4, o7] <;> and_intros <;> first | rfl | assumption)) ?_
  refine wk_graft0 89 2 94 (d := encSh x.yard.shelf) (η := e2) rfl rfl rfl ?_
  refine wk_graft0 89 3 95 (d := encRns x.yard.runs) (η := e3) rfl rfl rfl ?_
  refine WkK.wk (s' := St.of [(1, Ni k), (2, Bx 89 c2)] [(89, .box c2 tEg (EgY x e2 e3 x.yard.shelf x.yard.runs (e4 []) (e7 []))), (96, .loose (encFls x.disk) e4), (97, .loose (encWts x.waits) e7), (90, o 90), (91, o 91), (92, o 92), (93, o 93)]) (wk_of [some 89, some 96, some 97, some 90, some 91, some 92, some 93] (by simp -implicitDefEqProofs only [go_sem, EgY, EgC, simO_self] <;> and_intros <;> first | rfl | assumption)) ?_
  refine WkK.of ?_
  simp -implicitDefEqProofs only [go_sem, EgY]
  refine mark_agg (k := k) (r := k + ((cYd x.yard : Nat) : Int)) (ds := encYd x.yard) (ds' := encYd (mkYd x.yard k)) ⟨_, Tryz.func16, by kernel_rfl, by kernel_rfl⟩ (fun B w v S h hF => markYard_c x.yard k v S B w h hF h0 (by omega) (by omega) (by omega)) ?_
  simp -implicitDefEqProofs only [go_sem, encYd]
  rintro η5 ⟨h3, h4⟩
  generalize η5 2 = f2 at *
  generalize η5 3 = f3 at *
  refine wp_gk ?_
  refine WkK.wk (s' := St.of [(1, Ni (k + ((cYd x.yard : Nat) : Int))), (2, Bx 89 c2)] [(89, .box c2 tEg (EgY x f2 f3 (mkYd x.yard k).shelf (mkYd x.yard k).runs (e4 []) (e7 []))), (96, .loose (encFls x.disk) e4), (97, .loose (encWts x.waits) e7), (90, o 90), (91, o 91), (92, o 92), (93, o 93)]) (wk_of [some 89, some 96, some 97, some 90, some 91, some 92, some 93] (by simp -implicitDefEqProofs only [go_sem, EgY, EgC, simO_self] <;> and_intros <;> first | rfl | assumption)) ?_
  refine wk_cut0 89 2 94 (d := encSh (mkYd x.yard k).shelf) (η := f2) rfl rfl (by decide) fun y2 => ?_
  refine wk_cut0 89 3 95 (d := encRns (mkYd x.yard k).runs) (η := f3) rfl rfl (by decide) fun y3 => ?_
  refine WkK.wk (s' := St.of [(1, Ni (k + ((cYd x.yard : Nat) : Int))), (2, Bx 89 c2)] [(89, .box c2 tEg (EgC x (f2 []) (f3 []) (e4 []) (e7 []))), (94, .loose (encSh (mkYd x.yard k).shelf) f2), (95, .loose (encRns (mkYd x.yard k).runs) f3), (96, .loose (encFls x.disk) e4), (97, .loose (encWts x.waits) e7), (90, o 90), (91, o 91), (92, o 92), (93, o 93)]) (wk_of [some 89, some 94, some 95, some 96, some 97, some 90, some 91, some 92, some 93] (by simp -implicitDefEqProofs only [go_sem, EgY, EgC, simO_self] <;> and_intros <;> first | rfl | assumption)) ?_
  refine WkK.of ?_
  simp -implicitDefEqProofs only [go_sem, EgC, v4, v7]
  refine run_inl_at (by simp -implicitDefEqProofs only [go_sem]) (inl_markDisk x.disk (k + ((cYd x.yard : Nat) : Int)) _ e4 (by omega) (by omega) (by simp -implicitDefEqProofs only [go_sem]) v4) fun av o' ⟨hav, ho', hk, hk7⟩ => ?_
  obtain ⟨k1, k2, k3, k4, k5, k6, k7⟩ := hk
  simp -implicitDefEqProofs only [go_sem] at k1 k2 k3 k4 k5 k6 k7 hk7
  subst hav
  simp -implicitDefEqProofs only [go_sem, k1, v7]
  refine run_inl_at (by simp -implicitDefEqProofs only [go_sem]) (inl_markWaitS x.waits (k + ((cYd x.yard : Nat) : Int) + 3 * (x.disk.length : Int)) _ e7 (by omega) (by omega) (by simp -implicitDefEqProofs only [go_sem, hk7]) v7) fun av2 o'' ⟨hav2, ho'', hq, hq7⟩ => ?_
  obtain ⟨q1, q2, q3, q4, q5, q6, q7⟩ := hq
  simp -implicitDefEqProofs only [go_sem] at q1 q2 q3 q4 q5 q6 q7 hq7
  subst hav2
  have hR : k + ((cE x : Nat) : Int) = k + ((cYd x.yard : Nat) : Int) + 3 * (x.disk.length : Int) + 5 * (x.waits.length : Int) := by omega
  simp -implicitDefEqProofs only [go_sem, hR, ho', ho'', k2, k3, k4, k5, k6, k7, hk7, q1, q2, q3, q4, q5, q6, q7, hq7]
  exact ⟨⟨f2, f3, h3, h4, rfl, rfl⟩, rfl, rfl⟩
end Go.Proofs.YtnhdcbhcocgjhaaGreat
