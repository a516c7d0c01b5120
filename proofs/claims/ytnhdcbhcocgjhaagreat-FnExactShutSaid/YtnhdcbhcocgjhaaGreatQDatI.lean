/- Texts for laws: DatI. -/
import Derived.Test.YtnhdcbhcocgjhaaGreatQDatM
import Derived.Test.YtnhdcbhcocgjhaaGreatQHole
set_option linter.unusedSimpArgs false
set_option linter.unusedVariables false
set_option maxRecDepth 100000
namespace Go.Proofs.YtnhdcbhcocgjhaaGreat
open Go.RowKit Go.Sort
def c_laws_markFileS : C := .seq (.reg [⟨some 4, none, .mov (.c (.int .i64 0))⟩]) (.seq (.seq (.reg [⟨some 5, none, .mov (.c (.int .i64 0))⟩]) (.blk 0 (.loop (.seq (.seq (.reg [⟨some 6, none, .mov (.t 5)⟩, ⟨some 7, none, .mov (.t 0)⟩, ⟨some 8, none, .len false (.t 7)⟩, ⟨some 9, none, .bin .lss 3 (.t 6) (.t 8)⟩]) (.cond (.t 9) .skip (.exit 0))) (.seq (.blk 1 (.seq (.reg [⟨some 12, none, .mov (.t 0)⟩, ⟨some 13, none, .mov (.t 5)⟩, ⟨some 14, none, .mov (.t 1)⟩, ⟨some 15, none, .call 190 [.t 14]⟩, ⟨some 16, none, .ia 3 (.t 12) (.t 13)⟩, ⟨some 17, none, .fa 0 (.t 16)⟩, ⟨none, none, .st 1 [none] (.t 17) (.t 15)⟩]) (.seq (.reg [⟨some 18, none, .mov (.t 1)⟩, ⟨some 19, none, .bin .add 3 (.t 18) (.c (.int .i64 1))⟩, ⟨some 1, none, .mov (.t 19)⟩]) (.seq (.reg [⟨some 20, none, .mov (.t 0)⟩, ⟨some 21, none, .mov (.t 5)⟩, ⟨some 22, none, .mov (.t 1)⟩, ⟨some 23, none, .call 190 [.t 22]⟩, ⟨some 24, none, .ia 3 (.t 20) (.t 21)⟩, ⟨some 25, none, .fa 1 (.t 24)⟩, ⟨none, none, .st 1 [none] (.t 25) (.t 23)⟩]) (.seq (.reg [⟨some 26, none, .mov (.t 1)⟩, ⟨some 27, none, .bin .add 3 (.t 26) (.c (.int .i64 1))⟩, ⟨some 1, none, .mov (.t 27)⟩]) (.seq (.reg [⟨some 28, none, .mov (.t 0)⟩, ⟨some 29, none, .mov (.t 5)⟩, ⟨some 30, none, .mov (.t 1)⟩, ⟨some 31, none, .ia 3 (.t 28) (.t 29)⟩, ⟨some 32, none, .fa 2 (.t 31)⟩, ⟨none, none, .st 1 [none] (.t 32) (.t 30)⟩]) (.reg [⟨some 33, none, .mov (.t 1)⟩, ⟨some 34, none, .bin .add 3 (.t 33) (.c (.int .i64 1))⟩, ⟨some 1, none, .mov (.t 34)⟩]))))))) (.reg [⟨some 10, none, .mov (.t 5)⟩, ⟨some 11, none, .bin .add 3 (.t 10) (.c (.int .i64 1))⟩, ⟨some 5, none, .mov (.t 11)⟩])))))) (.seq (.reg [⟨some 35, none, .mov (.t 1)⟩, ⟨some 4, none, .mov (.t 35)⟩]) .ret))
theorem code_laws_markFileS : fnC Tryz.prog Tryz.f157 = some (c_laws_markFileS, [.t 4], 36) := by kernel_rfl
def c_laws_markDisk : C := .seq (.reg [⟨some 2, none, .box 57 1 (.t 0)⟩, ⟨some 4, none, .mov (.c (.int .i64 0))⟩]) (.seq (.reg [⟨some 5, none, .fa 0 (.t 2)⟩, ⟨some 6, none, .ld false 1 (.t 5)⟩, ⟨some 7, none, .mov (.t 1)⟩, ⟨some 8, none, .call 157 [.t 6, .t 7]⟩, ⟨some 1, none, .mov (.t 8)⟩]) (.seq (.reg [⟨some 9, none, .mov (.t 1)⟩, ⟨some 4, none, .mov (.t 9)⟩]) .ret))
theorem code_laws_markDisk : fnC Tryz.prog Tryz.f97 = some (c_laws_markDisk, [.t 4], 10) := by kernel_rfl
def c_laws_markWaitS : C := .seq (.reg [⟨some 4, none, .mov (.c (.int .i64 0))⟩]) (.seq (.seq (.reg [⟨some 5, none, .mov (.c (.int .i64 0))⟩]) (.blk 0 (.loop (.seq (.seq (.reg [⟨some 6, none, .mov (.t 5)⟩, ⟨some 7, none, .mov (.t 0)⟩, ⟨some 8, none, .len false (.t 7)⟩, ⟨some 9, none, .bin .lss 3 (.t 6) (.t 8)⟩]) (.cond (.t 9) .skip (.exit 0))) (.seq (.blk 1 (.seq (.reg [⟨some 12, none, .mov (.t 0)⟩, ⟨some 13, none, .mov (.t 5)⟩, ⟨some 14, none, .mov (.t 1)⟩, ⟨some 15, none, .ia 5 (.t 12) (.t 13)⟩, ⟨some 16, none, .fa 0 (.t 15)⟩, ⟨none, none, .st 1 [none] (.t 16) (.t 14)⟩]) (.seq (.reg [⟨some 17, none, .mov (.t 1)⟩, ⟨some 18, none, .bin .add 3 (.t 17) (.c (.int .i64 1))⟩, ⟨some 1, none, .mov (.t 18)⟩]) (.seq (.reg [⟨some 19, none, .mov (.t 0)⟩, ⟨some 20, none, .mov (.t 5)⟩, ⟨some 21, none, .mov (.t 1)⟩, ⟨some 22, none, .ia 5 (.t 19) (.t 20)⟩, ⟨some 23, none, .fa 1 (.t 22)⟩, ⟨some 24, none, .fa 0 (.t 23)⟩, ⟨none, none, .st 1 [none] (.t 24) (.t 21)⟩]) (.seq (.reg [⟨some 25, none, .mov (.t 1)⟩, ⟨some 26, none, .bin .add 3 (.t 25) (.c (.int .i64 1))⟩, ⟨some 1, none, .mov (.t 26)⟩]) (.seq (.reg [⟨some 27, none, .mov (.t 0)⟩, ⟨some 28, none, .mov (.t 5)⟩, ⟨some 29, none, .mov (.t 1)⟩, ⟨some 30, none, .ia 5 (.t 27) (.t 28)⟩, ⟨some 31, none, .fa 1 (.t 30)⟩, ⟨some 32, none, .fa 1 (.t 31)⟩, ⟨none, none, .st 1 [none] (.t 32) (.t 29)⟩]) (.seq (.reg [⟨some 33, none, .mov (.t 1)⟩, ⟨some 34, none, .bin .add 3 (.t 33) (.c (.int .i64 1))⟩, ⟨some 1, none, .mov (.t 34)⟩]) (.seq (.reg [⟨some 35, none, .mov (.t 0)⟩, ⟨some 36, none, .mov (.t 5)⟩, ⟨some 37, none, .mov (.t 1)⟩, ⟨some 38, none, .ia 5 (.t 35) (.t 36)⟩, ⟨some 39, none, .fa 1 (.t 38)⟩, ⟨some 40, none, .fa 2 (.t 39)⟩, ⟨none, none, .st 1 [none] (.t 40) (.t 37)⟩]) (.seq (.reg [⟨some 41, none, .mov (.t 1)⟩, ⟨some 42, none, .bin .add 3 (.t 41) (.c (.int .i64 1))⟩, ⟨some 1, none, .mov (.t 42)⟩]) (.seq (.reg [⟨some 43, none, .mov (.t 0)⟩, ⟨some 44, none, .mov (.t 5)⟩, ⟨some 45, none, .mov (.t 1)⟩, ⟨some 46, none, .ia 5 (.t 43) (.t 44)⟩, ⟨some 47, none, .fa 1 (.t 46)⟩, ⟨some 48, none, .fa 3 (.t 47)⟩, ⟨none, none, .st 1 [none] (.t 48) (.t 45)⟩]) (.reg [⟨some 49, none, .mov (.t 1)⟩, ⟨some 50, none, .bin .add 3 (.t 49) (.c (.int .i64 1))⟩, ⟨some 1, none, .mov (.t 50)⟩]))))))))))) (.reg [⟨some 10, none, .mov (.t 5)⟩, ⟨some 11, none, .bin .add 3 (.t 10) (.c (.int .i64 1))⟩, ⟨some 5, none, .mov (.t 11)⟩])))))) (.seq (.reg [⟨some 51, none, .mov (.t 1)⟩, ⟨some 4, none, .mov (.t 51)⟩]) .ret))
theorem code_laws_markWaitS : fnC Tryz.prog Tryz.f39 = some (c_laws_markWaitS, [.t 4], 52) := by kernel_rfl
abbrev KeepA (o o' : Nat → Ob) : Prop := o' 89 = o 89 ∧ o' 90 = o 90 ∧ o' 91 = o 91 ∧ o' 92 = o 92 ∧ o' 93 = o 93 ∧ o' 94 = o 94 ∧ o' 95 = o 95
theorem put_fl0 {l : List Fl} {k : Nat} {x : Fl} (h : l[k]? = some x) (b : ByteArray) : D.put [] (k * 3) [.val (.string b)] (encFls l) = encFls (l.set k ⟨b, x.data, x.safe⟩) := put1_flat (enc := encFl) (size := 3) (fun _ => rfl) h (j := 0) rfl (by simp)
theorem put_fl1 {l : List Fl} {k : Nat} {x : Fl} (h : l[k]? = some x) (b : ByteArray) : D.put [] (k * 3 + 1) [.val (.string b)] (encFls l) = encFls (l.set k ⟨x.name, b, x.safe⟩) := put1_flat (enc := encFl) (size := 3) (fun _ => rfl) h (j := 1) rfl (by simp)
theorem put_fl2 {l : List Fl} {k : Nat} {x : Fl} (h : l[k]? = some x) (b : Int) : D.put [] (k * 3 + 2) [.val (.int .i64 b)] (encFls l) = encFls (l.set k ⟨x.name, x.data, b⟩) := put1_flat (enc := encFl) (size := 3) (fun _ => rfl) h (j := 2) rfl (by simp)
theorem in_fl0 {l : List Fl} {k : Nat} {x : Fl} (h : l[k]? = some x) : k * 3 + 1 ≤ (l.flatMap encFl).length := in1_flat (enc := encFl) (size := 3) (fun _ => rfl) h (j := 0) (n := 1) (by decide)
theorem in_fl1 {l : List Fl} {k : Nat} {x : Fl} (h : l[k]? = some x) : k * 3 + 1 + 1 ≤ (l.flatMap encFl).length := in1_flat (enc := encFl) (size := 3) (fun _ => rfl) h (j := 1) (n := 1) (by decide)
theorem in_fl2 {l : List Fl} {k : Nat} {x : Fl} (h : l[k]? = some x) : k * 3 + 2 + 1 ≤ (l.flatMap encFl).length := in1_flat (enc := encFl) (size := 3) (fun _ => rfl) h (j := 2) (n := 1) (by decide)
theorem put_wt0 {l : List Wt} {k : Nat} {x : Wt} (h : l[k]? = some x) (b : Int) : D.put [] (k * 5) [.val (.int .i64 b)] (encWts l) = encWts (l.set k ⟨b, x.code, x.run, x.task, x.tri⟩) := put1_flat (enc := encWt) (size := 5) (fun _ => rfl) h (j := 0) rfl (by simp)
theorem in_wt0 {l : List Wt} {k : Nat} {x : Wt} (h : l[k]? = some x) : k * 5 + 1 ≤ (l.flatMap encWt).length := in1_flat (enc := encWt) (size := 5) (fun _ => rfl) h (j := 0) (n := 1) (by decide)
theorem put_wt1 {l : List Wt} {k : Nat} {x : Wt} (h : l[k]? = some x) (b : Int) : D.put [] (k * 5 + 1) [.val (.int .i64 b)] (encWts l) = encWts (l.set k ⟨x.call, b, x.run, x.task, x.tri⟩) := put1_flat (enc := encWt) (size := 5) (fun _ => rfl) h (j := 1) rfl (by simp)
theorem in_wt1 {l : List Wt} {k : Nat} {x : Wt} (h : l[k]? = some x) : k * 5 + 1 + 1 ≤ (l.flatMap encWt).length := in1_flat (enc := encWt) (size := 5) (fun _ => rfl) h (j := 1) (n := 1) (by decide)
theorem put_wt2 {l : List Wt} {k : Nat} {x : Wt} (h : l[k]? = some x) (b : Int) : D.put [] (k * 5 + 2) [.val (.int .i64 b)] (encWts l) = encWts (l.set k ⟨x.call, x.code, b, x.task, x.tri⟩) := put1_flat (enc := encWt) (size := 5) (fun _ => rfl) h (j := 2) rfl (by simp)
theorem in_wt2 {l : List Wt} {k : Nat} {x : Wt} (h : l[k]? = some x) : k * 5 + 2 + 1 ≤ (l.flatMap encWt).length := in1_flat (enc := encWt) (size := 5) (fun _ => rfl) h (j := 2) (n := 1) (by decide)
theorem put_wt3 {l : List Wt} {k : Nat} {x : Wt} (h : l[k]? = some x) (b : Int) : D.put [] (k * 5 + 3) [.val (.int .i64 b)] (encWts l) = encWts (l.set k ⟨x.call, x.code, x.run, b, x.tri⟩) := put1_flat (enc := encWt) (size := 5) (fun _ => rfl) h (j := 3) rfl (by simp)
theorem in_wt3 {l : List Wt} {k : Nat} {x : Wt} (h : l[k]? = some x) : k * 5 + 3 + 1 ≤ (l.flatMap encWt).length := in1_flat (enc := encWt) (size := 5) (fun _ => rfl) h (j := 3) (n := 1) (by decide)
theorem put_wt4 {l : List Wt} {k : Nat} {x : Wt} (h : l[k]? = some x) (b : Int) : D.put [] (k * 5 + 4) [.val (.int .i64 b)] (encWts l) = encWts (l.set k ⟨x.call, x.code, x.run, x.task, b⟩) := put1_flat (enc := encWt) (size := 5) (fun _ => rfl) h (j := 4) rfl (by simp)
theorem in_wt4 {l : List Wt} {k : Nat} {x : Wt} (h : l[k]? = some x) : k * 5 + 4 + 1 ≤ (l.flatMap encWt).length := in1_flat (enc := encWt) (size := 5) (fun _ => rfl) h (j := 4) (n := 1) (by decide)
theorem marked_end {l S : List Fl} {k : Int} (h1 : S.length = l.length) (h2 : ∀ j < l.length, S[j]? = some (mkF k j)) : S = mkFls l k := by
  apply List.ext_getElem?
  intro j
  by_cases h : j < l.length
  · rw [h2 j h, mkFls_get h]
  · rw [List.getElem?_eq_none (by omega), List.getElem?_eq_none (by rw [mkFls_len]; omega)]
theorem marked_endW {l S : List Wt} {k : Int} (h1 : S.length = l.length) (h2 : ∀ j < l.length, S[j]? = some (mkW k j)) : S = mkWts l k := by
  apply List.ext_getElem?
  intro j
  by_cases h : j < l.length
  · rw [h2 j h, mkWts_get h]
  · rw [List.getElem?_eq_none (by omega), List.getElem?_eq_none (by rw [mkWts_len]; omega)]
theorem marked_next {α : Type} {S : List α} {f : Nat → α} {n : Nat} (hn : n < S.length) (h : ∀ j < n, S[j]? = some (f j)) : ∀ j < n + 1, (S.set n (f n))[j]? = some (f j) := by
  intro j hj
  by_cases hjn : j = n
  · subst hjn; exact List.getElem?_set_self hn
  · rw [List.getElem?_set_ne (by omega)]; exact h j (by omega)
set_option maxHeartbeats 4000000 in
theorem inl_markFileS (l : List Fl) (k : Int) (o : Nat → Ob) (e4 : Heads) (h0 : 0 ≤ k) (h1 : k + 3 * (l.length : Int) ≤ 1000000000) (ho : o 96 = .loose (encFls l) e4) (h4 : (e4 []).oneCell' = true) : Inl Tryz.prog 157 [.c (.v (e4 [])), Ni k] o fun av o' => av = Ni (k + 3 * (l.length : Int)) ∧ o' 96 = .loose (encFls (mkFls l k)) e4 ∧ KeepA o o' ∧ o' 97 = o 97 := by
  refine inl_gn (β := 8000000) [[]] Tryz.func157 code_laws_markFileS (by simp) ?_
  unfold c_laws_markFileS
  simp only [C.ghs, C.ghAt, List.foldr]
  refine wp_gk ?_
  refine WkK.wk (s' := St.of [(0, Hd 96 e4), (1, Ni k)] [(96, .loose (encFls l) e4), (89, o 89), (90, o 90), (91, o 91), (92, o 92), (93, o 93), (94, o 94), (95, o 95), (97, o 97)]) (wk_of [some 96, some 89, some 90, some 91, some 92, some 93, some 94, some 95, some 97] (by simp -implicitDefEqProofs only [go_sem, simO_self, ho, h4] <;> and_intros <;> first | rfl | assumption)) ?_
  refine WkK.of ?_
  simp -implicitDefEqProofs only [go_sem]
  refine wp_loopW (fun i : Nat × List Fl => St.of [(0, Hd 96 e4), (1, Ni (k + 3 * (i.1 : Int))), (5, Ni i.1)] [(96, .loose (encFls i.2) e4), (89, o 89), (90, o 90), (91, o 91), (92, o 92), (93, o 93), (94, o 94), (95, o 95), (97, o 97)]) (fun i => i.1 ≤ l.length ∧ i.2.length = l.length ∧ ∀ j < i.1, i.2[j]? = some (mkF k j)) (fun i => l.length - i.1) (0, l) (⟨Nat.zero_le _, rfl, fun j hj => absurd hj (Nat.not_lt_zero _)⟩) (wk_of [some 96, some 89, some 90, some 91, some 92, some 93, some 94, some 95, some 97] (by simp -implicitDefEqProofs only [go_sem, simO_self, Int.natCast_zero, Int.mul_zero, Int.add_zero] <;> and_intros <;> first | rfl | assumption)) ?_
  rintro ⟨n, S⟩ ⟨hn, hS, hm⟩
  dsimp only at hn hS hm
  by_cases hlt : n < l.length
  · have hlt' : (n : Int) < l.length := by omega
    have hlt2 : n < S.length := by omega
    have h0k : (n : Int) ≥ 0 := by omega
    obtain ⟨x, hx⟩ := get_some hlt2
    have hw : IntKind.i64.wrap ((n : Int) + 1) = ((n + 1 : Nat) : Int) := wrap64 (by omega) (by omega)
    have w1 : IntKind.i64.wrap (k + 3 * (n : Int) + 1) = k + 3 * (n : Int) + 1 := wrap64 (by omega) (by omega)
    have w2 : IntKind.i64.wrap (k + 3 * (n : Int) + 1 + 1) = k + 3 * (n : Int) + 2 := by rw [wrap64 (by omega) (by omega)]; omega
    have w3 : IntKind.i64.wrap (k + 3 * (n : Int) + 2 + 1) = k + 3 * ((n + 1 : Nat) : Int) := by rw [wrap64 (by omega) (by omega)]; omega
    have x1 : (S.set n ⟨mtS (k + 3 * (n : Int)), x.data, x.safe⟩)[n]? = some ⟨mtS (k + 3 * (n : Int)), x.data, x.safe⟩ := List.getElem?_set_self hlt2
    have x2 : (S.set n ⟨mtS (k + 3 * (n : Int)), mtS (k + 3 * (n : Int) + 1), x.safe⟩)[n]? = some ⟨mtS (k + 3 * (n : Int)), mtS (k + 3 * (n : Int) + 1), x.safe⟩ := List.getElem?_set_self hlt2
    have hnx := marked_next (f := mkF k) hlt2 hm
    simp -implicitDefEqProofs only [go_sem, hS, hlt, hlt', hlt2, h0k, Nat.add_zero]
    refine run_call (p_markText (k + 3 * (n : Int)) (by omega)) (by simp -implicitDefEqProofs only [go_sem, hS, hlt, hlt', hlt2, h0k, Nat.add_zero, put_fl0 hx, in_fl0 hx, in_encFls hlt2, w1, List.length_set, stH_t]) fun η => ?_
    simp -implicitDefEqProofs only [go_sem, hS, hlt, hlt', hlt2, h0k, Nat.add_zero, put_fl0 hx, in_fl0 hx, in_encFls hlt2, w1, List.length_set, stH_t]
    refine run_call (p_markText (k + 3 * (n : Int) + 1) (by omega)) (by simp -implicitDefEqProofs only [go_sem, hS, hlt, hlt', hlt2, h0k, Nat.add_zero, put_fl1 x1, in_fl1 x1, in_encFls hlt2, w1, w2, w3, List.length_set, List.set_set, put_fl2 x2, in_fl2 x2, hw, stH_t]) fun η => ?_
    simp -implicitDefEqProofs only [go_sem, hS, hlt, hlt', hlt2, h0k, Nat.add_zero, put_fl1 x1, in_fl1 x1, in_encFls hlt2, w1, w2, w3, List.length_set, List.set_set, put_fl2 x2, in_fl2 x2, hw, stH_t]
    exact ⟨(n + 1, S.set n (mkF k n)), ⟨hlt, by rw [List.length_set]; exact hS, hnx⟩, (wk_of [some 96, some 89, some 90, some 91, some 92, some 93, some 94, some 95, some 97] (by simp -implicitDefEqProofs only [go_sem, simO_self, mkF] <;> and_intros <;> first | rfl | assumption)), by (try dsimp only); omega⟩
  · have hlt' : ¬ (n : Int) < l.length := by omega
    obtain rfl : n = l.length := by omega
    obtain rfl := marked_end hS hm
    simp -implicitDefEqProofs only [go_sem, hS, hlt', KeepA]
theorem inl_markDisk (l : List Fl) (k : Int) (o : Nat → Ob) (e4 : Heads) (h0 : 0 ≤ k) (h1 : k + 3 * (l.length : Int) ≤ 1000000000) (ho : o 96 = .loose (encFls l) e4) (h4 : (e4 []).oneCell' = true) : Inl Tryz.prog 97 [.agg [.v (e4 [])], Ni k] o fun av o' => av = Ni (k + 3 * (l.length : Int)) ∧ o' 96 = .loose (encFls (mkFls l k)) e4 ∧ KeepA o o' ∧ o' 97 = o 97 := by
  refine inl_fn (β := 7000000) Tryz.func97 code_laws_markDisk (by simp) ?_
  unfold c_laws_markDisk
  simp -implicitDefEqProofs only [go_sem, h4]
  intro b1
  refine run_inl_at (by simp -implicitDefEqProofs only [go_sem]) (inl_markFileS l k _ e4 h0 h1 (by simp -implicitDefEqProofs only [go_sem, ho]) h4) fun av o' ⟨hav, ho', hk, hk7⟩ => ?_
  obtain ⟨k1, k2, k3, k4, k5, k6, k7⟩ := hk
  simp -implicitDefEqProofs only [go_sem] at k1 k2 k3 k4 k5 k6 k7 hk7
  subst hav
  simp -implicitDefEqProofs only [go_sem, ho', k1, k2, k3, k4, k5, k6, k7, hk7, KeepA]
set_option maxHeartbeats 4000000 in
theorem inl_markWaitS (l : List Wt) (k : Int) (o : Nat → Ob) (e7 : Heads) (h0 : 0 ≤ k) (h1 : k + 5 * (l.length : Int) ≤ 1000000000) (ho : o 97 = .loose (encWts l) e7) (h4 : (e7 []).oneCell' = true) : Inl Tryz.prog 39 [.c (.v (e7 [])), Ni k] o fun av o' => av = Ni (k + 5 * (l.length : Int)) ∧ o' 97 = .loose (encWts (mkWts l k)) e7 ∧ KeepA o o' ∧ o' 96 = o 96 := by
  refine inl_gn (β := 8000000) [[]] Tryz.func39 code_laws_markWaitS (by simp) ?_
  unfold c_laws_markWaitS
  simp only [C.ghs, C.ghAt, List.foldr]
  refine wp_gk ?_
  refine WkK.wk (s' := St.of [(0, Hd 97 e7), (1, Ni k)] [(97, .loose (encWts l) e7), (89, o 89), (90, o 90), (91, o 91), (92, o 92), (93, o 93), (94, o 94), (95, o 95), (96, o 96)]) (wk_of [some 97, some 89, some 90, some 91, some 92, some 93, some 94, some 95, some 96] (by simp -implicitDefEqProofs only [go_sem, simO_self, ho, h4] <;> and_intros <;> first | rfl | assumption)) ?_
  refine WkK.of ?_
  simp -implicitDefEqProofs only [go_sem]
  refine wp_loopW (fun i : Nat × List Wt => St.of [(0, Hd 97 e7), (1, Ni (k + 5 * (i.1 : Int))), (5, Ni i.1)] [(97, .loose (encWts i.2) e7), (89, o 89), (90, o 90), (91, o 91), (92, o 92), (93, o 93), (94, o 94), (95, o 95), (96, o 96)]) (fun i => i.1 ≤ l.length ∧ i.2.length = l.length ∧ ∀ j < i.1, i.2[j]? = some (mkW k j)) (fun i => l.length - i.1) (0, l) (⟨Nat.zero_le _, rfl, fun j hj => absurd hj (Nat.not_lt_zero _)⟩) (wk_of [some 97, some 89, some 90, some 91, some 92, some 93, some 94, some 95, some 96] (by simp -implicitDefEqProofs only [go_sem, simO_self, Int.natCast_zero, Int.mul_zero, Int.add_zero] <;> and_intros <;> first | rfl | assumption)) ?_
  rintro ⟨n, S⟩ ⟨hn, hS, hm⟩
  dsimp only at hn hS hm
  by_cases hlt : n < l.length
  · have hlt' : (n : Int) < l.length := by omega
    have hlt2 : n < S.length := by omega
    have h0k : (n : Int) ≥ 0 := by omega
    obtain ⟨x, hx⟩ := get_some hlt2
    have hw : IntKind.i64.wrap ((n : Int) + 1) = ((n + 1 : Nat) : Int) := wrap64 (by omega) (by omega)
    have w1 : IntKind.i64.wrap (k + 5 * (n : Int) + 1) = k + 5 * (n : Int) + 1 := wrap64 (by omega) (by omega)
    have w2 : IntKind.i64.wrap (k + 5 * (n : Int) + 1 + 1) = k + 5 * (n : Int) + 2 := by rw [wrap64 (by omega) (by omega)]; omega
    have w3 : IntKind.i64.wrap (k + 5 * (n : Int) + 2 + 1) = k + 5 * (n : Int) + 3 := by rw [wrap64 (by omega) (by omega)]; omega
    have w4 : IntKind.i64.wrap (k + 5 * (n : Int) + 3 + 1) = k + 5 * (n : Int) + 4 := by rw [wrap64 (by omega) (by omega)]; omega
    have w5 : IntKind.i64.wrap (k + 5 * (n : Int) + 4 + 1) = k + 5 * ((n + 1 : Nat) : Int) := by rw [wrap64 (by omega) (by omega)]; omega
    have x1 : (S.set n ⟨k + 5 * (n : Int), x.code, x.run, x.task, x.tri⟩)[n]? = some ⟨k + 5 * (n : Int), x.code, x.run, x.task, x.tri⟩ := List.getElem?_set_self hlt2
    have x2 : (S.set n ⟨k + 5 * (n : Int), k + 5 * (n : Int) + 1, x.run, x.task, x.tri⟩)[n]? = some ⟨k + 5 * (n : Int), k + 5 * (n : Int) + 1, x.run, x.task, x.tri⟩ := List.getElem?_set_self hlt2
    have x3 : (S.set n ⟨k + 5 * (n : Int), k + 5 * (n : Int) + 1, k + 5 * (n : Int) + 2, x.task, x.tri⟩)[n]? = some ⟨k + 5 * (n : Int), k + 5 * (n : Int) + 1, k + 5 * (n : Int) + 2, x.task, x.tri⟩ := List.getElem?_set_self hlt2
    have x4 : (S.set n ⟨k + 5 * (n : Int), k + 5 * (n : Int) + 1, k + 5 * (n : Int) + 2, k + 5 * (n : Int) + 3, x.tri⟩)[n]? = some ⟨k + 5 * (n : Int), k + 5 * (n : Int) + 1, k + 5 * (n : Int) + 2, k + 5 * (n : Int) + 3, x.tri⟩ := List.getElem?_set_self hlt2
    have hnx := marked_next (f := mkW k) hlt2 hm
    simp -implicitDefEqProofs only [go_sem, hS, hlt, hlt', hlt2, h0k, Nat.add_zero, in_encWts hlt2, w1, w2, w3, w4, w5, List.length_set, List.set_set, stH_t, hw, put_wt0 hx, in_wt0 hx, put_wt1 x1, in_wt1 x1, put_wt2 x2, in_wt2 x2, put_wt3 x3, in_wt3 x3, put_wt4 x4, in_wt4 x4]
    exact ⟨(n + 1, S.set n (mkW k n)), ⟨hlt, by rw [List.length_set]; exact hS, hnx⟩, (wk_of [some 97, some 89, some 90, some 91, some 92, some 93, some 94, some 95, some 96] (by simp -implicitDefEqProofs only [go_sem, simO_self, mkW] <;> and_intros <;> first | rfl | assumption)), by (try dsimp only); omega⟩
  · have hlt' : ¬ (n : Int) < l.length := by omega
    obtain rfl : n = l.length := by omega
    obtain rfl := marked_endW hS hm
    simp -implicitDefEqProofs only [go_sem, hS, hlt', KeepA]
end Go.Proofs.YtnhdcbhcocgjhaaGreat
