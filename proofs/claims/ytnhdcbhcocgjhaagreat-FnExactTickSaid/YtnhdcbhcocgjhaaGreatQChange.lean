/- Texts for laws: Change. -/
import Derived.Test.YtnhdcbhcocgjhaaGreatQTurnP
set_option linter.unusedSimpArgs false
set_option linter.unusedVariables false
set_option maxRecDepth 100000
namespace Go.Proofs.YtnhdcbhcocgjhaaGreat
open Go.RowKit Go.Sort
theorem inl_wkK {P : Program} {f : FuncId} {args : List AV} {o : Nat → Ob} {R : AV → (Nat → Ob) → Prop} (h : Inl P f args o fun av o' => WkK (.only o') fun s' => R av s'.o) : Inl P f args o R :=
  ⟨h.1, fun B w F xs h1 h2 => (h.2 B w F xs h1 h2).mono fun e w' ⟨v, av, o', F', k1, k2, k3, k4⟩ => by
    obtain ⟨s', F2, k5, k6⟩ := k4 _ _ _ _ _ _ k2
    exact ⟨v, av, s'.o, F2, k1, ⟨k5.below, k5.hB, k5.df, k5.sz, fun _ => trivial, k5.ob, k5.fr, k5.dj⟩, k3, k6⟩⟩
/-- What stands ready, and did not. -/
def frP (was : List Tk) (v : Int) : Bool := !decide (v ∈ tinL 2 was)
theorem mem_tinL {s : Int} {ts : List Tk} {j : Nat} : (j : Int) ∈ tinL s ts ↔ j < ts.length ∧ (stT ts (j : Int) == s) = true := by
  simp only [tinL, tinF, List.mem_map, List.mem_filter, List.mem_range]
  constructor
  · rintro ⟨i, h, he⟩
    obtain rfl : i = j := by omega
    exact h
  · exact fun h => ⟨j, h, rfl⟩
theorem fr_new (was ts : List Tk) : (tinL 2 ts).filter (frP was) = newL was ts ts.length := by
  simp only [tinL, tinF, newL, List.filter_map, List.filter_filter]
  congr 1
  refine List.filter_congr fun j _ => ?_
  have h : frP was (j : Int) = !(decide (j < was.length) && (stT was (j : Int) == 2)) := by
    simp only [frP, mem_tinL]
    congr 1
    cases (stT was (j : Int) == 2) <;> simp
  simp only [Function.comp, h, newB]
  rw [Bool.and_comm]
theorem fr_take {l : List Int} {k : Nat} {v : Int} (p : Int → Bool) (h : l[k]? = some v) : (l.take (k + 1)).filter p = (l.take k).filter p ++ (if p v then [v] else []) := by
  rw [List.take_add_one, h, List.filter_append]
  cases hp : p v <;> simp [hp]
def c_impl_change : C := .seq (.reg [⟨some 10, none, .mov (.t 0)⟩, ⟨some 11, none, .fa 0 (.t 10)⟩, ⟨some 12, none, .fa 3 (.t 11)⟩, ⟨some 13, none, .ld false 1 (.t 12)⟩, ⟨some 14, none, .mov (.t 1)⟩, ⟨some 15, none, .ia 8 (.t 13) (.t 14)⟩, ⟨some 16, none, .ld true 8 (.t 15)⟩, ⟨some 17, none, .call 115 [.t 16, .c (.int .i64 2)]⟩, ⟨some 6, none, .mov (.t 17)⟩]) (.seq (.reg [⟨some 18, none, .mov (.t 2)⟩, ⟨some 19, none, .mov (.t 0)⟩, ⟨some 20, none, .fa 0 (.t 19)⟩, ⟨some 21, none, .fa 3 (.t 20)⟩, ⟨some 22, none, .ld false 1 (.t 21)⟩, ⟨some 23, none, .mov (.t 1)⟩, ⟨some 24, none, .ia 8 (.t 22) (.t 23)⟩, ⟨some 25, none, .callv (.t 18) [.t 24]⟩]) (.seq (.reg [⟨some 7, none, .mov (.c (.slice none 0 0))⟩]) (.seq (.seq (.reg [⟨some 26, none, .mov (.t 0)⟩, ⟨some 27, none, .fa 0 (.t 26)⟩, ⟨some 28, none, .fa 3 (.t 27)⟩, ⟨some 29, none, .ld false 1 (.t 28)⟩, ⟨some 30, none, .mov (.t 1)⟩, ⟨some 31, none, .ia 8 (.t 29) (.t 30)⟩, ⟨some 32, none, .ld true 8 (.t 31)⟩, ⟨some 33, none, .call 115 [.t 32, .c (.int .i64 2)]⟩, ⟨some 34, none, .len false (.t 33)⟩, ⟨some 35, none, .mov (.c (.int .i64 0))⟩]) (.blk 0 (.loop (.seq (.reg [⟨some 36, none, .bin .lss 3 (.t 35) (.t 34)⟩]) (.seq (.cond (.t 36) .skip (.exit 0)) (.seq (.blk 1 (.seq (.reg [⟨some 37, none, .ia 1 (.t 33) (.t 35)⟩, ⟨some 38, none, .ld false 1 (.t 37)⟩, ⟨some 9, none, .mov (.t 38)⟩]) (.seq (.reg [⟨some 39, none, .mov (.t 6)⟩, ⟨some 40, none, .mov (.t 9)⟩, ⟨some 41, none, .call 116 [.t 39, .t 40]⟩, ⟨some 42, none, .un .not (.t 41)⟩]) (.cond (.t 42) (.reg [⟨some 43, none, .mov (.t 7)⟩, ⟨some 44, none, .mov (.t 9)⟩, ⟨some 45, none, .bsl 3 1 1 [none] [(0, 1, .t 44)]⟩, ⟨some 46, none, .app 3 1 8 (.t 43) (.t 45)⟩, ⟨some 7, none, .mov (.t 46)⟩]) .skip)))) (.reg [⟨some 47, none, .bin .add 3 (.t 35) (.c (.int .i64 1))⟩, ⟨some 35, none, .mov (.t 47)⟩]))))))) (.reg [⟨some 48, none, .mov (.t 0)⟩, ⟨some 49, none, .mov (.t 0)⟩, ⟨some 50, none, .fa 0 (.t 49)⟩, ⟨some 51, none, .fa 3 (.t 50)⟩, ⟨some 52, none, .ld false 1 (.t 51)⟩, ⟨some 53, none, .mov (.t 1)⟩, ⟨some 54, none, .ia 8 (.t 52) (.t 53)⟩, ⟨some 55, none, .ld true 8 (.t 54)⟩, ⟨some 56, none, .mov (.t 7)⟩, ⟨some 57, none, .call 117 [.t 48, .t 55, .t 56]⟩]))))
theorem code_impl_change : fnC Tryz.prog Tryz.f52 = some (c_impl_change, [], 58) := by kernel_rfl
set_option maxHeartbeats 8000000 in
theorem inl_change {k b : Nat} {y : Yd} {r r2 : Rn} {f : FuncId} {caps : List A0} {H : Ob} (hr : y.runs[k]? = some r) (hl2 : r2.tasks.length = r.tasks.length) (hl12 : r.tasks.length ≤ 12) (h4 : y.shelf.length = 4) (hq : 1 ≤ y.seq ∧ y.seq ≤ 4000000000) (ht : totYd y ≤ 2000000)
    (hc : ClosK Tryz.prog f caps H k y r2) {o : Nat → Ob} {e2 e3 : Heads} (h90 : o 90 = YdBox b tYd y.now y.seq y.shelf e2 y.runs e3) (h91 : o 91 = H) :
    Inl Tryz.prog 52 [Bx 90 b, Ni k, .fn f caps] o fun av o' => av = .tup [] ∧ (∃ e2' e3', o' 90 = YdBox b tYd (turnY y k r2).now (turnY y k r2).seq (turnY y k r2).shelf e2' (turnY y k r2).runs e3') ∧ o' 91 = H ∧ o' 92 = o 92 ∧ o' 93 = o 93 ∧ o' 94 = o 94 ∧ o' 95 = o 95 ∧ o' 96 = o 96 := by
  refine inl_wkK ?_
  refine inl_gn (β := 5000000) [[1,0], [1,1,1,1]] Tryz.func52 code_impl_change (by simp) ?_
  unfold c_impl_change
  simp only [C.ghs, C.ghAt, List.foldr]
  have hk := (List.getElem?_eq_some_iff.1 hr).1
  have h0k : (k : Int) ≥ 0 := by omega
  simp -implicitDefEqProofs only [go_sem, h90, Nat.add_zero, hk, h0k, at_rn hr, in_rn hr, encRn, encPl]
  refine run_call (p_impl_TasksIn r 2 (by omega)) (by simp -implicitDefEqProofs only [go_sem, h90, encRn, encPl, get_rns5' hr, get_rns7' hr]) fun ηi => ?_
  simp -implicitDefEqProofs only [go_sem, h90, encRn, encPl, get_rns5' hr, get_rns7' hr]
  refine wp_gk ?_
  refine WkK.wk (s' := St.of [(0, Bx 90 b), (1, Ni k), (2, .fn f caps), (6, Hd 97 (ηi 0))] [(90, YdBox b tYd y.now y.seq y.shelf e2 y.runs e3), (91, o 91), (92, o 92), (93, o 93), (94, o 94), (95, o 95), (96, o 96), (97, .loose (encInts (tinL 2 r.tasks)) (ηi 0))]) (wk_of [some 90, some 91, some 92, some 93, some 94, some 95, some 96, some 500001700] (by simp -implicitDefEqProofs only [go_sem, h90, simO_self, simL_self] <;> and_intros <;> first | rfl | assumption)) ?_
  refine WkK.of ?_
  simp -implicitDefEqProofs only [go_sem, Nat.add_zero, hk, h0k, in_rn hr]
  refine run_turnv (f := f) (caps := caps) (by simp -implicitDefEqProofs only [go_sem]) (hc _ b e2 e3 (by simp -implicitDefEqProofs only [go_sem]) (by simp -implicitDefEqProofs only [go_sem]; exact h91)) ?_
  rintro _ o1 ⟨rfl, j90, j91, j92, j93, j94, j95, j96, j97⟩ η
  simp -implicitDefEqProofs only [go_sem] at j92 j93 j94 j95 j96 j97
  have hr2 : (y.runs.set k r2)[k]? = some r2 := List.getElem?_set_self hk
  have hk2 : k < (y.runs.set k r2).length := by rw [List.length_set]; exact hk
  simp -implicitDefEqProofs only [go_sem, j90, Nat.add_zero, hk2, h0k, at_rn hr2, in_rn hr2, encRn, encPl]
  refine run_call (p_impl_TasksIn r2 2 (by omega)) (by simp -implicitDefEqProofs only [go_sem, j90, encRn, encPl, get_rns5' hr2, get_rns7' hr2]) fun ηj => ?_
  simp -implicitDefEqProofs only [go_sem, j90, encRn, encPl, get_rns5' hr2, get_rns7' hr2]
  have hn0 : ∀ v : Int, v ∈ tinL 2 r2.tasks → 0 ≤ v := fun v hv => by
    simp only [tinL, tinF, List.mem_map] at hv
    obtain ⟨a, _, rfl⟩ := hv; omega
  have hfn := fr_new r.tasks r2.tasks
  have hLl : (tinL 2 r2.tasks).length ≤ 12 := Nat.le_trans (tinF_len _ _ _) (by omega)
  have hBl : (tinL 2 r.tasks).length ≤ 12 := Nat.le_trans (tinF_len _ _ _) hl12
  generalize tinL 2 r2.tasks = L2 at *
  refine wp_loopW (fun i : Nat × Heads => St.of [(0, Bx 90 b), (1, Ni k), (6, Hd 97 (ηi 0)), (7, Hd 7 i.2), (33, Hd 33 (ηj 0)), (34, Ni L2.length), (35, Ni i.1)] [(90, YdBox b tYd y.now y.seq y.shelf e2 (y.runs.set k r2) e3), (91, H), (92, o 92), (93, o 93), (94, o 94), (95, o 95), (96, o 96), (97, .loose (encInts (tinL 2 r.tasks)) (ηi 0)), (7, .loose (encInts ((L2.take i.1).filter (frP r.tasks))) i.2), (33, .loose (encInts L2) (ηj 0))]) (fun i => i.1 ≤ L2.length) (fun i => L2.length - i.1) (0, nilH) (by (try dsimp only); first | omega | (simp; done) | (and_intros <;> first | omega | simp)) (wk_of [some 90, some 91, some 92, some 93, some 94, some 95, some 96, some 97, none, some 500003300] (by simp -implicitDefEqProofs only [go_sem, j90, j91, j92, j93, j94, j95, j96, j97, List.take_zero, List.filter_nil, simO_self] <;> and_intros <;> first | rfl | assumption)) ?_
  rintro ⟨i, η7⟩ hi
  dsimp only at hi
  by_cases hlt : i < L2.length
  · have hlt' : (i : Int) < L2.length := by omega
    obtain ⟨v, hv⟩ := get_some hlt
    have hw : IntKind.i64.wrap ((i : Int) + 1) = ((i + 1 : Nat) : Int) := wrap64 (by omega) (by omega)
    have hft := fr_take (frP r.tasks) hv
    have hFl : ((L2.take i).filter (frP r.tasks)).length ≤ 12 := Nat.le_trans (List.length_filter_le _ _) (by rw [List.length_take]; omega)
    generalize (L2.take i).filter (frP r.tasks) = F at *
    have m1 : F.length + 1 ≤ maxLen := by unfold maxLen; omega
    have m2 : (F.length + 1) * 8 ≤ 140737488355328 := by omega
    simp -implicitDefEqProofs only [go_sem, hlt', hlt, at_encInts hv, in_encInts hlt]
    refine run_call (p_ContainsI (tinL 2 r.tasks) v (by omega)) (by simp -implicitDefEqProofs only [go_sem]) fun η => ?_
    simp -implicitDefEqProofs only [go_sem]
    cases hd : decide (v ∈ tinL 2 r.tasks)
    · have hp : frP r.tasks v = true := by rw [frP, hd]; rfl
      rw [hp, if_pos rfl] at hft
      simp -implicitDefEqProofs only [go_sem, hd, m1, m2, ints_snoc1, hw]
      intro η1 η8
      exact ⟨(i + 1, η8), by (try dsimp only); first | omega | assumption | (and_intros <;> first | omega | assumption), (wk_of [some 90, some 91, some 92, some 93, some 94, some 95, some 96, some 97, some 500004600, some 33] (by simp -implicitDefEqProofs only [go_sem, hft, simO_self] <;> and_intros <;> first | rfl | assumption)), by (try dsimp only); omega⟩
    · have hp : frP r.tasks v = false := by rw [frP, hd]; rfl
      rw [hp, if_neg (by decide), List.append_nil] at hft
      simp -implicitDefEqProofs only [go_sem, hd, hw]
      exact ⟨(i + 1, η7), by (try dsimp only); first | omega | assumption | (and_intros <;> first | omega | assumption), (wk_of [some 90, some 91, some 92, some 93, some 94, some 95, some 96, some 97, some 7, some 33] (by simp -implicitDefEqProofs only [go_sem, hft, simO_self] <;> and_intros <;> first | rfl | assumption)), by (try dsimp only); omega⟩
  have hlt' : ¬ (i : Int) < L2.length := by omega
  rw [List.take_of_length_le (by omega), hfn]
  simp -implicitDefEqProofs only [go_sem, hlt']
  refine wp_gk ?_
  have hR : encRns (y.runs.set k r2) = .sl 8 tRn (rnsR y.runs k (encRn r2)) := (rnsR_rn hk).symm
  have hid : (newL r.tasks r2.tasks r2.tasks.length).length ≤ 12 := Nat.le_trans (newL_len _ _ _) (by omega)
  have hLY : turnY y k r2 = ⟨y.now, (layL r2.plan.prio r2.id (newL r.tasks r2.tasks r2.tasks.length) ((y.shelf[shN r2.id]?).getD default, y.seq)).2, y.shelf.set (shN r2.id) (layL r2.plan.prio r2.id (newL r.tasks r2.tasks r2.tasks.length) ((y.shelf[shN r2.id]?).getD default, y.seq)).1, y.runs.set k r2⟩ := by rw [turnY, hr, Option.getD_some]; rfl
  generalize newL r.tasks r2.tasks r2.tasks.length = ids at *
  refine WkK.wk (s' := St.of [(0, Bx 90 b), (1, Ni k), (7, Hd 97 η7)] [(90, YdBoxD b tYd y.now y.seq y.shelf e2 (encRns (y.runs.set k r2)) e3), (91, H), (92, o 92), (93, o 93), (94, o 94), (95, o 95), (96, o 96), (97, .loose (encInts ids) η7)]) (wk_of [some 90, some 91, some 92, some 93, some 94, some 95, some 96, some 7] (by simp -implicitDefEqProofs only [go_sem, simO_self] <;> and_intros <;> first | rfl | assumption)) ?_
  rw [hR]
  refine wk_cutN 90 3 (k * 8 + 5) 98 (η := e3) (cs := r2.plan.edges.flatMap encEd) rfl (rnsR_get hk 5 (by simp [encRn, encPl])) rfl (by decide) fun ηa ηA hA1 hA2 hA3 => ?_
  rw [rnsR_set hk 5 (by simp [encRn, encPl])]
  refine wk_cutN 90 3 (k * 8 + 7) 99 (η := ηA) (cs := r2.tasks.flatMap encTk) rfl (rnsR_get hk 7 (by simp [encRn, encPl])) rfl (by decide) fun ηb ηB hB1 hB2 hB3 => ?_
  rw [rnsR_set hk 7 (by simp [encRn, encPl])]
  rw [← hA2, ← hB2]
  rw [← hA2] at hA3
  rw [← hB2] at hB3
  have hV : ((encRn r2).set 5 (.val (ηa []))).set 7 (.val (ηb [])) = rnV r2 (ηa []) (ηb []) := rfl
  rw [hV]
  obtain ⟨dR, hdR⟩ : ∃ dR, D.sl 8 tRn (rnsR y.runs k (rnV r2 (ηa []) (ηb []))) = dR := ⟨_, rfl⟩
  refine WkK.wk (s' := St.of [(0, Bx 90 b), (1, Ni k), (7, Hd 97 η7)] [(90, YdBoxD b tYd y.now y.seq y.shelf e2 (.sl 8 tRn (rnsR y.runs k (rnV r2 (ηa []) (ηb [])))) ηB), (91, H), (92, o 92), (93, o 93), (94, o 94), (95, o 95), (96, o 96), (97, .loose (encInts ids) η7), (98, .loose (encEds r2.plan.edges) ηa), (99, .loose (encTks r2.tasks) ηb)]) (wk_of [some 90, some 91, some 92, some 93, some 94, some 95, some 96, some 97, some 98, some 99] (by simp -implicitDefEqProofs only [go_sem, simO_self, encEds, encTks] <;> and_intros <;> first | rfl | assumption)) ?_
  refine WkK.of ?_
  have hl1 : (rnsR y.runs k (rnV r2 (ηa []) (ηb []))).length = y.runs.length * 8 := rnsR_len hk rfl
  have ha1 : ((rnsR y.runs k (rnV r2 (ηa []) (ηb []))).drop (k * 8)).take 8 = rnV r2 (ηa []) (ηb []) := rnsR_at hk rfl
  have hi8 : k * 8 + 8 ≤ y.runs.length * 8 := by omega
  have hdl : (D.sl 8 tRn (rnsR y.runs k (rnV r2 (ηa []) (ηb [])))).len = y.runs.length := rnsR_dlen hk rfl
  simp -implicitDefEqProofs only [go_sem, hl1, hdl, ha1, hi8, hk, h0k, hA3, hB3, Nat.add_zero]
  refine run_inl (inl_fn (β := 8000000) Tryz.func117 code_impl_stock (by simp) ?_)
  unfold c_impl_stock
  simp -implicitDefEqProofs only [go_sem, hA3, hB3]
  intro b74
  refine run_call (p_impl_ShelfOf r2.id) (by simp -implicitDefEqProofs only [go_sem]) fun η => ?_
  simp -implicitDefEqProofs only [go_sem]
  obtain ⟨hsn, hs4⟩ := shN_ r2.id
  rw [hsn]
  rw [hLY]
  generalize shN r2.id = n at *
  have hn : n < y.shelf.length := by omega
  have h0n : (n : Int) ≥ 0 := by omega
  obtain ⟨l, hl⟩ := get_some hn
  have hll := shelf2_le ht (List.mem_of_getElem? hl)
  rw [hl, Option.getD_some]
  rw [hdR]
  refine wp_loopW (fun i : Nat × Heads => St.of [(0, Bx 90 b), (4, Bx 4 b74), (6, Ni n), (12, Hd 97 η7), (13, Ni ids.length), (14, Ni i.1)] [(90, YdBoxD b tYd y.now (layL r2.plan.prio r2.id (ids.take i.1) (l, y.seq)).2 (y.shelf.set n (layL r2.plan.prio r2.id (ids.take i.1) (l, y.seq)).1) i.2 dR ηB), (91, H), (92, o 92), (93, o 93), (94, o 94), (95, o 95), (96, o 96), (97, .loose (encInts ids) η7), (98, .loose (encEds r2.plan.edges) ηa), (99, .loose (encTks r2.tasks) ηb), (4, RnBoxH b74 tRn r2 (ηa []) (ηb []))]) (fun i => i.1 ≤ ids.length) (fun i => ids.length - i.1) (0, e2) (by (try dsimp only); first | omega | (simp; done) | (and_intros <;> first | omega | simp)) (wk_of [some 90, some 91, some 92, some 93, some 94, some 95, some 96, some 97, some 98, some 99, some 800000400] (by simp -implicitDefEqProofs only [go_sem, List.take_zero, layL_nil, set_same hl, simO_self] <;> and_intros <;> first | rfl | assumption)) ?_
  rintro ⟨i, η⟩ hi
  dsimp only at hi
  have hsq := layL_seq r2.plan.prio r2.id (ids.take i) (l, y.seq)
  have hle := layL_len r2.plan.prio r2.id (ids.take i) (l, y.seq)
  have hnl : (ids.take i).length = i := by rw [List.length_take]; omega
  dsimp only at hsq hle
  by_cases hlt : i < ids.length
  · have hlt' : (i : Int) < ids.length := by omega
    have h0i : (i : Int) ≥ 0 := by omega
    obtain ⟨x, hx⟩ := get_some hlt
    have hsnoc := layL_snoc r2.plan.prio r2.id (ids.take i) x (l, y.seq)
    have hnx : ids.take (i + 1) = ids.take i ++ [x] := by rw [List.take_add_one, hx]; rfl
    rw [← hnx] at hsnoc
    have hw : IntKind.i64.wrap ((i : Int) + 1) = ((i + 1 : Nat) : Int) := wrap64 (by omega) (by omega)
    have hw2 : IntKind.i64.wrap ((layL r2.plan.prio r2.id (ids.take i) (l, y.seq)).2 + 1) = (layL r2.plan.prio r2.id (ids.take i) (l, y.seq)).2 + 1 := wrap64 (by omega) (by omega)
    generalize hPe : layL r2.plan.prio r2.id (ids.take i) (l, y.seq) = P at *
    obtain ⟨sh, hsh⟩ : ∃ s, y.shelf.set n P.1 = s := ⟨_, rfl⟩
    have hSl : sh[n]? = some P.1 := by rw [← hsh]; exact List.getElem?_set_self hn
    have hns : n < sh.length := by rw [← hsh, List.length_set]; exact hn
    have hss : ∀ L, sh.set n L = y.shelf.set n L := fun L => by rw [← hsh, List.set_set]
    have hi1 : n + 1 ≤ (sh.flatMap fun es => [encEns es]).length := by have := in_encSh hns; rwa [Nat.mul_one] at this
    have hb1 : ((sh.flatMap fun es => [encEns es]).drop n).take 1 = [encEns P.1] := by have := at_encSh hSl; rwa [Nat.mul_one] at this
    have hxi : i + 1 ≤ (ids.flatMap fun n => [iv n]).length := by have := in_encInts hlt; rwa [Nat.mul_one] at this
    have hxa : ((ids.flatMap fun n => [iv n]).drop i).take 1 = [iv x] := by have := at_encInts hx; rwa [Nat.mul_one] at this
    rw [hsh]
    simp -implicitDefEqProofs only [go_sem, encPl, encRn, hlt', h0i, hlt, hxa, hxi, Nat.add_zero, hns, Nat.mul_one, hb1, hi1, h0n]
    refine run_call (p_impl_PutEntry P.1 ⟨r2.plan.prio, P.2, r2.id, x⟩ (by omega)) (by simp -implicitDefEqProofs only [go_sem, encEn, get_sh hSl]) fun ηp => ?_
    simp -implicitDefEqProofs only [go_sem, encEn, get_sh hSl]
    simp -implicitDefEqProofs only [go_sem, hns, Nat.mul_one, hi1, hb1, h0n, put_sh1, hw2, hw, hss, Nat.add_zero]
    refine fun η' hη' => ?_
    exact ⟨(i + 1, η'), by (try dsimp only); first | omega | assumption | (and_intros <;> first | omega | assumption), (wk_of [some 90, some 91, some 92, some 93, some 94, some 95, some 96, some 97, some 98, some 99, some 4] (by simp -implicitDefEqProofs only [go_sem, encPl, encRn, hsnoc, simO_self] <;> and_intros <;> first | rfl | assumption)), by (try dsimp only); omega⟩
  obtain rfl : i = ids.length := by omega
  have hlt' : ¬ ((ids.length : Nat) : Int) < ids.length := by omega
  rw [List.take_length]
  generalize layL r2.plan.prio r2.id ids (l, y.seq) = P at *
  subst hdR
  simp -implicitDefEqProofs only [go_sem, hlt']
  refine WkK.wk (s' := St.of [] [(90, YdBoxD b tYd y.now P.2 (y.shelf.set n P.1) η (.sl 8 tRn (rnsR y.runs k (rnV r2 (ηa []) (ηb [])))) ηB), (91, H), (92, o 92), (93, o 93), (94, o 94), (95, o 95), (96, o 96), (98, .loose (encEds r2.plan.edges) ηa), (99, .loose (encTks r2.tasks) ηb)]) (wk_of [some 90, some 91, some 92, some 93, some 94, some 95, some 96, some 98, some 99] (by simp -implicitDefEqProofs only [go_sem, simO_self] <;> and_intros <;> first | rfl | assumption)) ?_
  refine wk_graftN 90 3 (k * 8 + 5) 98 (η := ηB) (η2 := ηa) (cs := r2.plan.edges.flatMap encEd) rfl (rnsR_get hk 5 (by simp)) (.inl rfl) rfl (by decide) fun ηD _ => ?_
  rw [rnsR_set hk 5 (by simp)]
  refine wk_graftN 90 3 (k * 8 + 7) 99 (η := ηD) (η2 := ηb) (cs := r2.tasks.flatMap encTk) rfl (rnsR_get hk 7 (by simp)) (.inl rfl) rfl (by decide) fun ηE _ => ?_
  rw [rnsR_set hk 7 (by simp)]
  have hrow : (List.set (List.set (rnV r2 (ηa []) (ηb [])) 5 (.sl 2 tEd (r2.plan.edges.flatMap encEd))) 7 (.sl 4 tTk (r2.tasks.flatMap encTk))) = encRn r2 := rfl
  rw [hrow, rnsR_rn hk]
  refine WkK.of ?_
  exact ⟨⟨η, ηE, rfl⟩, rfl, rfl, rfl, rfl, rfl, rfl⟩
end Go.Proofs.YtnhdcbhcocgjhaaGreat
