/- Texts for laws: Swept. -/
import Derived.Test.YtnhdcbhcocgjhaaGreatQCopyY
import Derived.Test.YtnhdcbhcocgjhaaGreatQHole
import Derived.Test.YtnhdcbhcocgjhaaGreatQOverP
set_option linter.unusedSimpArgs false
set_option linter.unusedVariables false
set_option maxRecDepth 100000
namespace Go.Proofs.YtnhdcbhcocgjhaaGreat
open Go.RowKit Go.Sort
structure DelI (p : En → Bool) (l L : List En) (i j : Nat) : Prop where
  len : L.length = l.length
  ij : i < j
  jl : j ≤ l.length
  pre : L.take i = (l.take j).filter fun e => !p e
  suf : ∀ q, j ≤ q → L[q]? = l[q]?
section
variable {p : En → Bool} {l L : List En} {i j : Nat} {e : En}
theorem del_0 (h : l[i]? = some e) (he : p e = true) (hn : ∀ y ∈ l.take i, p y = false) : DelI p l l i (i + 1) := by
  refine ⟨rfl, by omega, (List.getElem?_eq_some_iff.1 h).1, ?_, fun _ _ => rfl⟩
  rw [List.take_add_one, h, List.filter_append]
  simp only [Option.toList_some, List.filter_cons, he, Bool.not_true, Bool.false_eq_true, if_false, List.filter_nil, List.append_nil]
  exact (List.filter_eq_self.2 fun y hy => by rw [hn y hy]; rfl).symm
theorem del_no (hd : DelI p l L i j) (h : l[j]? = some e) (he : p e = true) : DelI p l L i (j + 1) := by
  refine ⟨hd.len, by have := hd.ij; omega, (List.getElem?_eq_some_iff.1 h).1, ?_, fun q hq => hd.suf q (by omega)⟩
  rw [hd.pre, List.take_add_one, h, List.filter_append]
  simp [he]
theorem del_yes (hd : DelI p l L i j) (h : l[j]? = some e) (he : p e = false) : DelI p l (L.set i e) (i + 1) (j + 1) := by
  have hj := (List.getElem?_eq_some_iff.1 h).1
  have h1 := hd.ij
  have h2 := hd.len
  refine ⟨by rw [List.length_set]; exact h2, by omega, hj, ?_, fun q hq => ?_⟩
  · rw [List.take_add_one, List.getElem?_set_self (by omega), List.take_set_of_le (Nat.le_refl _), hd.pre, List.take_add_one, h, List.filter_append]
    simp [he]
  · rw [List.getElem?_set_ne (by omega)]; exact hd.suf q (by omega)
theorem del_end (hd : DelI p l L i l.length) : L.take i = l.filter fun e => !p e := by rw [hd.pre, List.take_length]
end
def c_slices_IndexFunc_impl_Entry_impl_Entry_ : C := .seq (.reg [⟨some 4, none, .mov (.c (.int .i64 0))⟩]) (.seq (.seq (.reg [⟨some 6, none, .mov (.t 0)⟩, ⟨some 7, none, .len false (.t 6)⟩, ⟨some 8, none, .mov (.c (.int .i64 0))⟩]) (.blk 0 (.loop (.seq (.reg [⟨some 9, none, .bin .lss 3 (.t 8) (.t 7)⟩]) (.seq (.cond (.t 9) .skip (.exit 0)) (.seq (.blk 1 (.seq (.reg [⟨some 10, none, .mov (.t 8)⟩, ⟨some 5, none, .mov (.t 10)⟩]) (.seq (.reg [⟨some 11, none, .mov (.t 1)⟩, ⟨some 12, none, .mov (.t 0)⟩, ⟨some 13, none, .mov (.t 5)⟩, ⟨some 14, none, .ia 4 (.t 12) (.t 13)⟩, ⟨some 15, none, .ld true 4 (.t 14)⟩, ⟨some 16, none, .callv (.t 11) [.t 15]⟩]) (.cond (.t 16) (.seq (.reg [⟨some 17, none, .mov (.t 5)⟩, ⟨some 4, none, .mov (.t 17)⟩]) .ret) .skip)))) (.reg [⟨some 18, none, .bin .add 3 (.t 8) (.c (.int .i64 1))⟩, ⟨some 8, none, .mov (.t 18)⟩]))))))) (.seq (.reg [⟨some 4, none, .mov (.c (.int .i64 (-1)))⟩]) .ret))
theorem code_slices_IndexFunc_impl_Entry_impl_Entry_ : fnC Tryz.prog Tryz.f148 = some (c_slices_IndexFunc_impl_Entry_impl_Entry_, [.t 4], 19) := by kernel_rfl
set_option maxHeartbeats 4000000 in
theorem p_IndexFuncEn (l : List En) (f : Nat) (cd : List D) (p : En → Bool) (hf : ∀ x, Pure Tryz.prog f [.agg (encEn x), .ptr cd] (.c (.val (.bool (p x))))) (hl : l.length ≤ 4000000) : Pure Tryz.prog 148 [.c (encEns l), .fn f [cd]] (.c (.val (.int .i64 (findI p l)))) := by
  refine pure_fn Tryz.func148 code_slices_IndexFunc_impl_Entry_impl_Entry_ (by simp) ?_
  unfold c_slices_IndexFunc_impl_Entry_impl_Entry_
  simp -implicitDefEqProofs only [go_sem]
  refine wp_loopW (fun i : Nat => St.of [(0, Ro (encEns l)), (1, .fn f [.rp cd]), (7, Ni l.length), (8, Ni i)] []) (fun i => i ≤ l.length ∧ ∀ y ∈ l.take i, p y = false) (fun i => l.length - i) 0 (by (try dsimp only); first | omega | (simp; done) | (and_intros <;> first | omega | simp)) (wk_of [] (by simp -implicitDefEqProofs only [go_sem] <;> and_intros <;> first | rfl | assumption)) ?_
  rintro k ⟨hk, hko⟩
  by_cases hlt : k < l.length
  · have hlt' : (k : Int) < l.length := by omega
    have h0k : (k : Int) ≥ 0 := by omega
    obtain ⟨x, hx⟩ := get_some hlt
    have hw : IntKind.i64.wrap ((k : Int) + 1) = ((k + 1 : Nat) : Int) := wrap64 (by omega) (by omega)
    simp -implicitDefEqProofs only [go_sem, hlt, hlt', h0k, elem_encEns hx, encEn]
    refine run_callv (by simp -implicitDefEqProofs only [go_sem]; rfl) (hf x) (by simp -implicitDefEqProofs only [go_sem, encEn]) fun η => ?_
    cases hp : p x
    · simp -implicitDefEqProofs only [go_sem, hp, hw]
      exact ⟨k + 1, ⟨hlt, take_no hx hp hko⟩, (wk_of [] (by simp -implicitDefEqProofs only [go_sem] <;> and_intros <;> first | rfl | assumption)), by (try dsimp only); omega⟩
    · simp -implicitDefEqProofs only [go_sem, hp, findI_hit hx hp hko]
  · have hlt' : ¬ (k : Int) < l.length := by omega
    rw [List.take_of_length_le (by omega)] at hko
    simp -implicitDefEqProofs only [go_sem, hlt', findI_none hko]
def sweptY (y : Yd) (k : Int) : Yd := if 0 ≤ k ∧ k ≤ (y.shelf.length : Int) - 1 then ⟨y.now, y.seq, y.shelf.set k.toNat (((y.shelf[k.toNat]?).getD []).filter (fresh y)), y.runs⟩ else y
theorem swept_no {y : Yd} {k : Int} (h : ¬ (0 ≤ k ∧ k ≤ (y.shelf.length : Int) - 1)) : sweptY y k = y := by rw [sweptY, if_neg h]
theorem swept_yes {y : Yd} {k : Nat} {l : List En} (h : y.shelf[k]? = some l) : sweptY y k = ⟨y.now, y.seq, y.shelf.set k (l.filter (fresh y)), y.runs⟩ := by
  have := (List.getElem?_eq_some_iff.1 h).1
  rw [sweptY, if_pos (by omega)]
  simp [h]
theorem put_encSh' {l : List (List En)} {k : Nat} (v : List En) (hk : k < l.length) : D.put [] k [encEns v] (encSh l) = encSh (l.set k v) := by
  have := put_encSh v hk
  rwa [Nat.mul_one] at this
theorem ens_snoc1 (l : List En) (a : En) : D.sl 4 tEn (l.flatMap encEn ++ [.val (.int .i64 a.prio), .val (.int .i64 a.seq), .val (.int .i64 a.run), .val (.int .i64 a.task)]) = encEns (l ++ [a]) := by simp [encEns, encEn]
theorem sh_map (sh : List (List En)) : (sh.flatMap fun es => [encEns es]) = sh.map encEns := by induction sh <;> simp_all
theorem get_shc {sh : List (List En)} {k : Nat} {l : List En} (h : sh[k]? = some l) : (sh.flatMap fun es => [encEns es])[k]? = some (.sl 4 tEn (l.flatMap encEn)) := by
  rw [sh_map, List.getElem?_map, h]; rfl
theorem put_shp {sh : List (List En)} {k i : Nat} {l l2 : List En} {ds : List D} (h : sh[k]? = some l) (hp : D.put [] i ds (encEns l) = encEns l2) : D.put [k] i ds (encSh sh) = encSh (sh.set k l2) := by
  have hd : (sh.flatMap fun es => [encEns es])[k]? = some (encEns l) := get_shc h
  simp only [encSh, D.put, hd, hp]
  simp only [sh_map, List.map_set]
theorem put_shen {sh : List (List En)} {k i : Nat} {l : List En} (e : En) (h : sh[k]? = some l) (hi : i < l.length) : D.put [k] (i * 4) [.val (.int .i64 e.prio), .val (.int .i64 e.seq), .val (.int .i64 e.run), .val (.int .i64 e.task)] (encSh sh) = encSh (sh.set k (l.set i e)) := put_shp h (put_encEns e hi)
def zEntry : En := ⟨0, 0, 0, 0⟩
theorem rep_en (n : Nat) : (List.replicate n [D.val (.int .i64 0), D.val (.int .i64 0), D.val (.int .i64 0), D.val (.int .i64 0)]).flatten = (List.replicate n zEntry).flatMap encEn := by
  rw [List.flatMap_replicate]; rfl
theorem clr_en {l : List En} {i n : Nat} (h : i + n = l.length) : D.put [] (i * 4) ((List.replicate n zEntry).flatMap encEn) (encEns l) = encEns (l.take i ++ List.replicate n zEntry) := by
  have h4 : ∀ x : En, (encEn x).length = 4 := fun _ => rfl
  have e1 : l.flatMap encEn = (l.take i).flatMap encEn ++ (l.drop i).flatMap encEn := by rw [← List.flatMap_append, List.take_append_drop]
  have l1 : ((l.take i).flatMap encEn).length = i * 4 := by rw [len_flat h4, List.length_take, Nat.min_eq_left (by omega)]
  have l2 : ((l.drop i).flatMap encEn).length = n * 4 := by rw [len_flat h4, List.length_drop]; congr 1; omega
  have l3 : ((List.replicate n zEntry).flatMap encEn).length = n * 4 := by rw [len_flat h4, List.length_replicate]
  simp only [encEns, D.put]
  rw [setAt_eq _ _ _ (by rw [e1, List.length_append]; omega), e1, List.take_left' l1, l3, List.drop_eq_nil_of_le (by rw [List.length_append]; omega), List.append_nil, List.flatMap_append]
theorem flat_sub : ∀ {l m : List D}, (∀ x ∈ m, x ∈ l) → flatB l = true → flatB m = true := by
  intro l m h hl
  have key : ∀ {l : List D}, flatB l = true ↔ ∀ x ∈ l, ∃ u, x = .val u ∧ u.oneCell' = true := by
    intro l
    induction l with
    | nil => simp [flatB]
    | cons a l ih =>
      cases a with
      | val u =>
        simp only [flatB, Bool.and_eq_true, ih, List.mem_cons]
        constructor
        · rintro ⟨h1, h2⟩ x (rfl | hx)
          · exact ⟨u, rfl, h1⟩
          · exact h2 x hx
        · intro h
          refine ⟨?_, fun x hx => h x (.inr hx)⟩
          obtain ⟨v, h1, h2⟩ := h _ (.inl rfl)
          cases h1; exact h2
      | sl a b c =>
        simp only [flatB, Bool.false_eq_true, false_iff]
        intro h
        obtain ⟨v, h1, _⟩ := h _ (List.mem_cons_self)
        cases h1
  exact key.2 fun x hx => key.1 hl x (h x hx)
theorem flat_part (l : List En) (a b : Nat) : flatB (((l.flatMap encEn).drop a).take b) = true := flat_sub (fun x hx => List.mem_of_mem_drop (List.mem_of_mem_take hx)) (flatB_encEns l)
def holeSh (sh : List (List En)) (n : Nat) (v : Value) : D := .sl 1 tEnS ((sh.flatMap fun es => [encEns es]).set n (.val v))
theorem fold_hole (sh : List (List En)) (n : Nat) (v : Value) : D.sl 1 tEnS ((sh.flatMap fun es => [encEns es]).set n (.val v)) = holeSh sh n v := rfl
theorem sl_hole (sh : List (List En)) (n : Nat) (v : Value) : (holeSh sh n v).isSl = true := rfl
theorem sz_hole (sh : List (List En)) (n : Nat) (v : Value) : (holeSh sh n v).size = 1 := rfl
theorem len_hole (sh : List (List En)) (n : Nat) (v : Value) : (holeSh sh n v).len = sh.length := by simp [holeSh, D.len, D.cells, D.size, sh_map]
theorem cells_hole (sh : List (List En)) (n : Nat) (v : Value) : (holeSh sh n v).cells.length = sh.length := by simp [holeSh, D.cells, sh_map]
theorem put_hole {sh : List (List En)} {n : Nat} (v : Value) (l : List En) (h : n < sh.length) : D.put [] n [encEns l] (holeSh sh n v) = encSh (sh.set n l) := by
  simp only [holeSh, D.put, setAt, encSh, sh_map, List.set_set, List.map_set]
theorem holeO_ (o : Nat → Ob) (g c g2 : Nat) (d : D) (η' : Heads) (d2 : D) (η2 : Heads) (j : Nat) : holeO o g c g2 d η' d2 η2 j = if j = g2 then .loose d2 η2 else if j = g then (o g).putOwn c d η' else o j := rfl
theorem set_same {α : Type} {l : List α} {k : Nat} {x : α} (h : l[k]? = some x) : l.set k x = l := by
  apply List.ext_getElem?
  intro j
  by_cases e : k = j
  · subst e; rw [List.getElem?_set_self (List.getElem?_eq_some_iff.1 h).1, h]
  · rw [List.getElem?_set_ne e]
def c_spec_Swept : C := .seq (.reg [⟨some 2, none, .box 30 4 (.t 0)⟩, ⟨some 4, none, .alloc 30 [.int .i64 0, .int .i64 0, .slice none 0 0, .slice none 0 0]⟩]) (.seq (.reg [⟨some 8, none, .ld true 4 (.t 2)⟩, ⟨some 9, none, .call 43 [.t 8]⟩, ⟨some 5, none, .alloc 30 [.int .i64 0, .int .i64 0, .slice none 0 0, .slice none 0 0]⟩, ⟨none, none, .st 4 [none, none, some (1, 103), some (8, 80)] (.t 5) (.t 9)⟩]) (.seq (.seq (.reg [⟨some 10, none, .mov (.t 1)⟩, ⟨some 11, none, .fa 2 (.t 2)⟩, ⟨some 12, none, .ld false 1 (.t 11)⟩, ⟨some 13, none, .len false (.t 12)⟩, ⟨some 14, none, .bin .sub 3 (.t 13) (.c (.int .i64 1))⟩, ⟨some 15, none, .call 72 [.t 10, .c (.int .i64 0), .t 14]⟩, ⟨some 16, none, .un .not (.t 15)⟩]) (.cond (.t 16) (.seq (.reg [⟨some 17, none, .ld true 4 (.t 5)⟩, ⟨none, none, .st 4 [none, none, some (1, 103), some (8, 80)] (.t 4) (.t 17)⟩]) .ret) .skip)) (.seq (.reg [⟨some 18, none, .bsl 108 4 0 [] []⟩, ⟨some 6, none, .mov (.t 18)⟩]) (.seq (.seq (.reg [⟨some 7, none, .mov (.c (.int .i64 0))⟩]) (.blk 0 (.loop (.seq (.seq (.reg [⟨some 19, none, .mov (.t 7)⟩, ⟨some 20, none, .fa 2 (.t 2)⟩, ⟨some 21, none, .ld false 1 (.t 20)⟩, ⟨some 22, none, .mov (.t 1)⟩, ⟨some 23, none, .ia 1 (.t 21) (.t 22)⟩, ⟨some 24, none, .ld false 1 (.t 23)⟩, ⟨some 25, none, .len false (.t 24)⟩, ⟨some 26, none, .bin .lss 3 (.t 19) (.t 25)⟩]) (.cond (.t 26) .skip (.exit 0))) (.seq (.blk 1 (.seq (.dreg (T.pure 0 ⟨some 29, none, .ld true 4 (.t 2)⟩ (T.pure 1 ⟨some 30, none, .fa 2 (.t 2)⟩ (T.pure 2 ⟨some 31, none, .ld false 1 (.t 30)⟩ (T.pure 3 ⟨some 32, none, .mov (.t 1)⟩ (T.pure 4 ⟨some 33, none, .ia 1 (.t 31) (.t 32)⟩ (T.pure 5 ⟨some 34, none, .ld false 1 (.t 33)⟩ (T.pure 6 ⟨some 35, none, .mov (.t 7)⟩ (T.pure 7 ⟨some 36, none, .ia 4 (.t 34) (.t 35)⟩ (T.pure 8 ⟨some 37, none, .ld true 4 (.t 36)⟩ (T.alt ⟨some 38, none, .call 141 [.t 29, .t 37]⟩ [] T.done T.stop))))))))))) (.cond (.t 38) (.reg [⟨some 39, none, .mov (.t 6)⟩, ⟨some 40, none, .fa 2 (.t 2)⟩, ⟨some 41, none, .ld false 1 (.t 40)⟩, ⟨some 42, none, .mov (.t 1)⟩, ⟨some 43, none, .ia 1 (.t 41) (.t 42)⟩, ⟨some 44, none, .ld false 1 (.t 43)⟩, ⟨some 45, none, .mov (.t 7)⟩, ⟨some 46, none, .ia 4 (.t 44) (.t 45)⟩, ⟨some 47, none, .ld true 4 (.t 46)⟩, ⟨some 48, none, .bsl 108 4 1 [none, none, none, none] [(0, 4, .t 47)]⟩, ⟨some 49, none, .app 108 4 32 (.t 39) (.t 48)⟩, ⟨some 6, none, .mov (.t 49)⟩]) .skip))) (.reg [⟨some 27, none, .mov (.t 7)⟩, ⟨some 28, none, .bin .add 3 (.t 27) (.c (.int .i64 1))⟩, ⟨some 7, none, .mov (.t 28)⟩])))))) (.seq (.reg [⟨some 50, none, .fa 2 (.t 5)⟩, ⟨some 51, none, .ld false 1 (.t 50)⟩, ⟨some 52, none, .mov (.t 1)⟩, ⟨some 53, none, .mov (.t 6)⟩, ⟨some 54, none, .ia 1 (.t 51) (.t 52)⟩, ⟨none, none, .st 1 [some (4, 108)] (.t 54) (.t 53)⟩]) (.seq (.reg [⟨some 55, none, .ld true 4 (.t 5)⟩, ⟨none, none, .st 4 [none, none, some (1, 103), some (8, 80)] (.t 4) (.t 55)⟩]) .ret))))))
theorem code_spec_Swept : fnC Tryz.prog Tryz.f73 = some (c_spec_Swept, [.cell 4 true 4], 56) := by kernel_rfl
def c_impl_Swept_1 : C := .seq (.reg [⟨some 2, none, .box 108 4 (.t 0)⟩, ⟨some 3, none, .mov (.c (.bool false))⟩]) (.seq (.reg [⟨some 4, none, .ld true 4 (.t 1)⟩, ⟨some 5, none, .ld true 4 (.t 2)⟩, ⟨some 6, none, .call 145 [.t 4, .t 5]⟩, ⟨some 7, none, .un .not (.t 6)⟩, ⟨some 3, none, .mov (.t 7)⟩]) .ret)
theorem code_impl_Swept_1 : fnC Tryz.prog Tryz.f144 = some (c_impl_Swept_1, [.t 3], 8) := by kernel_rfl
def c_impl_Swept : C := .seq (.reg [⟨some 2, none, .box 30 4 (.t 0)⟩, ⟨some 4, none, .alloc 30 [.int .i64 0, .int .i64 0, .slice none 0 0, .slice none 0 0]⟩]) (.seq (.reg [⟨some 6, none, .ld true 4 (.t 2)⟩, ⟨some 7, none, .call 50 [.t 6]⟩, ⟨some 5, none, .alloc 30 [.int .i64 0, .int .i64 0, .slice none 0 0, .slice none 0 0]⟩, ⟨none, none, .st 4 [none, none, some (1, 103), some (8, 80)] (.t 5) (.t 7)⟩]) (.seq (.seq (.reg [⟨some 8, none, .mov (.t 1)⟩, ⟨some 9, none, .fa 2 (.t 2)⟩, ⟨some 10, none, .ld false 1 (.t 9)⟩, ⟨some 11, none, .len false (.t 10)⟩, ⟨some 12, none, .bin .sub 3 (.t 11) (.c (.int .i64 1))⟩, ⟨some 13, none, .call 79 [.t 8, .c (.int .i64 0), .t 12]⟩, ⟨some 14, none, .un .not (.t 13)⟩]) (.cond (.t 14) (.seq (.reg [⟨some 15, none, .ld true 4 (.t 5)⟩, ⟨none, none, .st 4 [none, none, some (1, 103), some (8, 80)] (.t 4) (.t 15)⟩]) .ret) .skip)) (.seq (.dreg (T.pure 0 ⟨some 16, none, .fa 2 (.t 5)⟩ (T.pure 1 ⟨some 17, none, .ld false 1 (.t 16)⟩ (T.pure 2 ⟨some 18, none, .mov (.t 1)⟩ (T.pure 3 ⟨some 19, none, .fa 2 (.t 5)⟩ (T.pure 4 ⟨some 20, none, .ld false 1 (.t 19)⟩ (T.pure 5 ⟨some 21, none, .mov (.t 1)⟩ (T.pure 6 ⟨some 22, none, .ia 1 (.t 20) (.t 21)⟩ (T.pure 7 ⟨some 23, none, .ld false 1 (.t 22)⟩ (T.pure 8 ⟨some 24, none, .mkf 144 [.t 2]⟩ (T.alt ⟨some 25, none, .call 86 [.t 23, .t 24]⟩ [2, 1, 0] (T.pure 10 ⟨some 26, none, .ia 1 (.t 17) (.t 18)⟩ (T.alt ⟨none, none, .st 1 [some (4, 108)] (.t 26) (.t 25)⟩ [] T.done T.stop)) T.stop))))))))))) (.seq (.reg [⟨some 27, none, .ld true 4 (.t 5)⟩, ⟨none, none, .st 4 [none, none, some (1, 103), some (8, 80)] (.t 4) (.t 27)⟩]) .ret))))
theorem code_impl_Swept : fnC Tryz.prog Tryz.f80 = some (c_impl_Swept, [.cell 4 true 4], 28) := by kernel_rfl
def c_slices_DeleteFunc_impl_Entry_impl_Entry_ : C := .seq (.reg [⟨some 4, none, .mov (.c (.slice none 0 0))⟩]) (.seq (.reg [⟨some 8, none, .mov (.t 0)⟩, ⟨some 9, none, .mov (.t 1)⟩, ⟨some 10, none, .call 148 [.t 8, .t 9]⟩, ⟨some 5, none, .mov (.t 10)⟩]) (.seq (.seq (.reg [⟨some 11, none, .mov (.t 5)⟩, ⟨some 12, none, .bin .eql 3 (.t 11) (.c (.int .i64 (-1)))⟩]) (.cond (.t 12) (.seq (.reg [⟨some 13, none, .mov (.t 0)⟩, ⟨some 4, none, .mov (.t 13)⟩]) .ret) .skip)) (.seq (.seq (.reg [⟨some 14, none, .mov (.t 5)⟩, ⟨some 15, none, .bin .add 3 (.t 14) (.c (.int .i64 1))⟩, ⟨some 6, none, .mov (.t 15)⟩]) (.blk 0 (.loop (.seq (.seq (.reg [⟨some 16, none, .mov (.t 6)⟩, ⟨some 17, none, .mov (.t 0)⟩, ⟨some 18, none, .len false (.t 17)⟩, ⟨some 19, none, .bin .lss 3 (.t 16) (.t 18)⟩]) (.cond (.t 19) .skip (.exit 0))) (.seq (.blk 1 (.seq (.reg [⟨some 22, none, .mov (.t 0)⟩, ⟨some 23, none, .mov (.t 6)⟩, ⟨some 24, none, .ia 4 (.t 22) (.t 23)⟩, ⟨some 25, none, .ld true 4 (.t 24)⟩, ⟨some 7, none, .alloc 108 [.int .i64 0, .int .i64 0, .int .i64 0, .int .i64 0]⟩, ⟨none, none, .st 4 [none, none, none, none] (.t 7) (.t 25)⟩]) (.seq (.reg [⟨some 26, none, .mov (.t 1)⟩, ⟨some 27, none, .ld true 4 (.t 7)⟩, ⟨some 28, none, .callv (.t 26) [.t 27]⟩, ⟨some 29, none, .un .not (.t 28)⟩]) (.cond (.t 29) (.seq (.reg [⟨some 30, none, .mov (.t 0)⟩, ⟨some 31, none, .mov (.t 5)⟩, ⟨some 32, none, .ld true 4 (.t 7)⟩, ⟨some 33, none, .ia 4 (.t 30) (.t 31)⟩, ⟨none, none, .st 4 [none, none, none, none] (.t 33) (.t 32)⟩]) (.reg [⟨some 34, none, .mov (.t 5)⟩, ⟨some 35, none, .bin .add 3 (.t 34) (.c (.int .i64 1))⟩, ⟨some 5, none, .mov (.t 35)⟩])) .skip)))) (.reg [⟨some 20, none, .mov (.t 6)⟩, ⟨some 21, none, .bin .add 3 (.t 20) (.c (.int .i64 1))⟩, ⟨some 6, none, .mov (.t 21)⟩])))))) (.seq (.reg [⟨some 36, none, .mov (.t 0)⟩, ⟨some 37, none, .mov (.t 5)⟩, ⟨some 38, none, .sl 4 (.t 36) (some (.t 37)) none⟩, ⟨none, none, .clr 4 [D.val (.int .i64 0), D.val (.int .i64 0), D.val (.int .i64 0), D.val (.int .i64 0)] (.t 38)⟩]) (.seq (.reg [⟨some 39, none, .mov (.t 0)⟩, ⟨some 40, none, .mov (.t 5)⟩, ⟨some 41, none, .sl 4 (.t 39) none (some (.t 40))⟩, ⟨some 4, none, .mov (.t 41)⟩]) .ret)))))
theorem code_slices_DeleteFunc_impl_Entry_impl_Entry_ : fnC Tryz.prog Tryz.f86 = some (c_slices_DeleteFunc_impl_Entry_impl_Entry_, [.t 4], 42) := by kernel_rfl
set_option maxHeartbeats 8000000 in
theorem p_spec_Swept (y : Yd) (k : Int) (ht : totYd y ≤ 2000000) : Pure Tryz.prog 73 [.agg (encYd y), .c (.val (.int .i64 k))] (.agg (encYd (sweptY y k))) := by
  refine pure_fn Tryz.func73 code_spec_Swept (by simp) ?_
  unfold c_spec_Swept
  have hsl : y.shelf.length ≤ 2000000 := by simp only [totYd, totSh] at ht; omega
  have hws : IntKind.i64.wrap ((y.shelf.length : Int) - 1) = (y.shelf.length : Int) - 1 := wrap64 (by omega) (by omega)
  simp -implicitDefEqProofs only [go_sem, encYd]
  intro b2 b4
  refine run_call (p_spec_l10Copy y ht) (by simp -implicitDefEqProofs only [go_sem, encYd]) fun ηc => ?_
  simp -implicitDefEqProofs only [go_sem, encYd]
  intro b5
  simp -implicitDefEqProofs only [go_sem, encYd, hws]
  refine run_call (p_spec_l01In k 0 (y.shelf.length - 1)) (by simp -implicitDefEqProofs only [go_sem, encYd, hws]) fun η => ?_
  simp -implicitDefEqProofs only [go_sem, encYd, hws]
  cases h : decide (0 ≤ k ∧ k ≤ (y.shelf.length : Int) - 1)
  · simp -implicitDefEqProofs only [go_sem, encYd, h, swept_no (of_decide_eq_false h)]
  have h' := of_decide_eq_true h
  obtain ⟨n, rfl⟩ := Int.eq_ofNat_of_zero_le h'.1
  have hn : n < y.shelf.length := by omega
  have h0n : (n : Int) ≥ 0 := by omega
  obtain ⟨l, hl⟩ := get_some hn
  have hll := shelf1_le' ht (List.mem_of_getElem? hl)
  rw [swept_yes hl]
  simp -implicitDefEqProofs only [go_sem, encYd, h, nil_encEns]
  intro η18
  refine wp_loopW (fun i : Nat × Heads => St.of [(1, Ni n), (2, Bx 200 b2), (4, Bx 400 b4), (5, Bx 500 b5), (6, Hd 6 i.2), (7, Ni i.1)] [(200, Bi b2 _ (encYd y)), (400, ZYd b4 _), (500, YdBox b5 _ y.now y.seq y.shelf (ηc 2) y.runs (ηc 3)), (6, .loose (encEns ((l.take i.1).filter (fresh y))) i.2)]) (fun i => i.1 ≤ l.length) (fun i => l.length - i.1) (0, η18) (by (try dsimp only); first | omega | (simp; done) | (and_intros <;> first | omega | simp)) (wk_of [some 200, some 400, some 500, some 1800] (by simp -implicitDefEqProofs only [go_sem, encYd, List.take_zero, List.filter_nil] <;> and_intros <;> first | rfl | assumption)) ?_
  rintro ⟨j, ηj⟩ hj
  dsimp only at hj
  by_cases hlt : j < l.length
  · have hlt' : (j : Int) < l.length := by omega
    have h0j : (j : Int) ≥ 0 := by omega
    obtain ⟨e, he⟩ := get_some hlt
    have hw : IntKind.i64.wrap ((j : Int) + 1) = ((j + 1 : Nat) : Int) := wrap64 (by omega) (by omega)
    have hft := filter_take (f := fresh y) he
    have hfl : ((l.take j).filter (fresh y)).length ≤ 4000000 := Nat.le_trans (List.length_filter_le _ _) (by rw [List.length_take]; omega)
    generalize (l.take j).filter (fresh y) = M at *
    have m1 : M.length + 1 ≤ maxLen := by unfold maxLen; omega
    have m2 : (M.length + 1) * 32 ≤ 140737488355328 := by omega
    simp -implicitDefEqProofs only [go_sem, encYd, hn, h0n, elem_encSh hl, hlt, hlt', h0j, elem_encEns he, encEn]
    refine run_call (p_spec_Fresh y e) (by simp -implicitDefEqProofs only [go_sem, encYd, encEn]) fun η => ?_
    simp -implicitDefEqProofs only [go_sem, encYd, encEn]
    cases hf : fresh y e
    · rw [hf] at hft
      simp only [Bool.false_eq_true, if_false] at hft
      simp -implicitDefEqProofs only [go_sem, encYd, hf, hw]
      exact ⟨(j + 1, ηj), by (try dsimp only); first | omega | assumption | (and_intros <;> first | omega | assumption), (wk_of [some 200, some 400, some 500, some 6] (by simp -implicitDefEqProofs only [go_sem, encYd, hft] <;> and_intros <;> first | rfl | assumption)), by (try dsimp only); omega⟩
    · rw [hf] at hft
      simp only [if_true] at hft
      simp -implicitDefEqProofs only [go_sem, encYd, hn, h0n, elem_encSh hl, hlt, hlt', h0j, elem_encEns he, encEn, hf, m1, m2, ens_snoc1, hw]
      intro η48 η49
      exact ⟨(j + 1, η49), by (try dsimp only); first | omega | assumption | (and_intros <;> first | omega | assumption), (wk_of [some 200, some 400, some 500, some 4900] (by simp -implicitDefEqProofs only [go_sem, encYd, hft] <;> and_intros <;> first | rfl | assumption)), by (try dsimp only); omega⟩
  have hlt' : ¬ (j : Int) < l.length := by omega
  rw [List.take_of_length_le (by omega)]
  generalize l.filter (fresh y) = M at *
  simp -implicitDefEqProofs only [go_sem, encYd, hn, h0n, elem_encSh hl, hlt', in_encSh hn, put_encSh M hn, put_encSh' M hn]
  exact fun _ _ => trivial
theorem p_SweptC (y : Yd) (e : En) : Pure Tryz.prog 144 [.agg (encEn e), .ptr (encYd y)] (.c (.val (.bool (!fresh y e)))) := by
  refine pure_fn Tryz.func144 code_impl_Swept_1 (by simp) ?_
  unfold c_impl_Swept_1
  simp -implicitDefEqProofs only [go_sem, encYd, encEn]
  intro b2
  refine run_call (p_impl_Fresh y e) (by simp -implicitDefEqProofs only [go_sem, encYd, encEn]) fun η => ?_
  simp -implicitDefEqProofs only [go_sem, encYd, encEn]
set_option maxHeartbeats 8000000 in
theorem p_impl_Swept (y : Yd) (k : Int) (ht : totYd y ≤ 2000000) : Pure Tryz.prog 80 [.agg (encYd y), .c (.val (.int .i64 k))] (.agg (encYd (sweptY y k))) := by
  refine pure_fn Tryz.func80 code_impl_Swept (by simp) ?_
  unfold c_impl_Swept
  have hsl : y.shelf.length ≤ 2000000 := by simp only [totYd, totSh] at ht; omega
  have hws : IntKind.i64.wrap ((y.shelf.length : Int) - 1) = (y.shelf.length : Int) - 1 := wrap64 (by omega) (by omega)
  simp -implicitDefEqProofs only [go_sem, encYd]
  intro b2 b4
  refine run_call (p_impl_copyYard y ht) (by simp -implicitDefEqProofs only [go_sem, encYd]) fun ηc => ?_
  simp -implicitDefEqProofs only [go_sem, encYd]
  intro b5
  simp -implicitDefEqProofs only [go_sem, encYd, hws]
  refine run_call (p_impl_within k 0 (y.shelf.length - 1)) (by simp -implicitDefEqProofs only [go_sem, encYd, hws]) fun η => ?_
  simp -implicitDefEqProofs only [go_sem, encYd, hws]
  cases h : decide (0 ≤ k ∧ k ≤ (y.shelf.length : Int) - 1)
  · simp -implicitDefEqProofs only [go_sem, encYd, h, swept_no (of_decide_eq_false h)]
  have h' := of_decide_eq_true h
  obtain ⟨n, rfl⟩ := Int.eq_ofNat_of_zero_le h'.1
  have hn : n < y.shelf.length := by omega
  have h0n : (n : Int) ≥ 0 := by omega
  obtain ⟨l, hl⟩ := get_some hn
  have hll := shelf1_le' ht (List.mem_of_getElem? hl)
  rw [swept_yes hl]
  have hi1 : n + 1 ≤ (y.shelf.flatMap fun es => [encEns es]).length := by have := in_encSh hn; rwa [Nat.mul_one] at this
  have ha1 : ((y.shelf.flatMap fun es => [encEns es]).drop n).take 1 = [encEns l] := by have := at_encSh hl; rwa [Nat.mul_one] at this
  simp -implicitDefEqProofs only [go_sem, encYd, h, hn, h0n, elem_encSh hl, ha1, hi1, Nat.mul_one]
  refine run_inl (inl_cut ?_)
  refine inl_fn (β := 7000000) Tryz.func86 code_slices_DeleteFunc_impl_Entry_impl_Entry_ (by simp) ?_
  unfold c_slices_DeleteFunc_impl_Entry_impl_Entry_
  simp -implicitDefEqProofs only [go_sem, encYd]
  refine run_call (p_IndexFuncEn l _ (encYd y) (fun e => !fresh y e) (fun x => p_SweptC y x) hll) (by simp -implicitDefEqProofs only [go_sem, encYd, get_sh hl]) fun η => ?_
  simp -implicitDefEqProofs only [go_sem, encYd]
  have hcut : ∀ (L : List En) (m : Nat), m ≤ L.length → (L.flatMap encEn).take (m * 4) = (L.take m).flatMap encEn := fun L m hm => by
    have e1 : L.flatMap encEn = (L.take m).flatMap encEn ++ (L.drop m).flatMap encEn := by rw [← List.flatMap_append, List.take_append_drop]
    rw [e1, List.take_left' (by rw [len_flat enc4, List.length_take, Nat.min_eq_left hm])]
  rcases findI_cases (fun e => !fresh y e) l with ⟨h1, h2⟩ | ⟨i0, x0, h1, h2, h3, h4⟩
  · have hfl : l.filter (fresh y) = l := List.filter_eq_self.2 fun e he => by have := h2 e he; simpa using this
    simp -implicitDefEqProofs only [go_sem, encYd, h1, beq_self_eq_true]
    refine ⟨500, 2, n, 777, l.length, 4, tEn, tEnS, l.flatMap encEn, _, ηc 2, .inr ⟨rfl, (len_flat enc4 l).symm⟩, by simp -implicitDefEqProofs only [go_sem]; rfl, get_shc hl, by simp -implicitDefEqProofs only [go_sem], by decide, by decide, by rw [len_flat enc4]; exact Nat.le_refl _, fun η2 η' hη => ?_⟩
    rw [hcut l l.length (Nat.le_refl _), List.take_length, hfl]
    simp -implicitDefEqProofs only [go_sem, holeO_, fold_hole, hη, sl_hole, sz_hole, len_hole, hn, h0n, Nat.mul_one, cells_hole, hi1, put_hole _ l hn, fold_encEns']
    exact ⟨hn, fun _ _ => trivial⟩
  · have hi0 := (List.getElem?_eq_some_iff.1 h2).1
    have hne : ((i0 : Int) == -1) = false := by simp
    have hw0 : IntKind.i64.wrap ((i0 : Int) + 1) = ((i0 + 1 : Nat) : Int) := wrap64 (by omega) (by omega)
    have hset0 := set_same hl
    simp -implicitDefEqProofs only [go_sem, encYd, h1, hne, hw0]
    refine wp_loopW (fun i : Nat × Nat × List En => St.of [(0, .c (.h 500 2 [n] (ηc 2 [n]))), (1, .fn 144 [.bp 200 0 b2]), (5, Ni i.1), (6, Ni i.2.1)] [(200, Bi b2 _ (encYd y)), (400, ZYd b4 _), (500, YdBox b5 _ y.now y.seq (y.shelf.set n i.2.2) (ηc 2) y.runs (ηc 3))]) (fun i => DelI (fun e => !fresh y e) l i.2.2 i.1 i.2.1) (fun i => l.length - i.2.1) (i0, i0 + 1, l) (del_0 h2 h3 h4) (wk_of [some 200, some 400, some 500] (by simp -implicitDefEqProofs only [go_sem, encYd, hset0] <;> and_intros <;> first | rfl | assumption)) ?_
    rintro ⟨i, j, L⟩ hd
    dsimp only at hd
    have hL : (y.shelf.set n L)[n]? = some L := List.getElem?_set_self hn
    have hLl := hd.len
    have hij := hd.ij
    have hjl := hd.jl
    have h0i : (i : Int) ≥ 0 := by omega
    by_cases hlt : j < l.length
    · have hlt' : (j : Int) < l.length := by omega
      have h0j : (j : Int) ≥ 0 := by omega
      obtain ⟨e, he⟩ := get_some hlt
      have heL : L[j]? = some e := by rw [hd.suf j (Nat.le_refl _)]; exact he
      have hiL : i < L.length := by omega
      have hjL : j < L.length := by omega
      obtain ⟨xi, hxi⟩ := get_some hiL
      have hw : IntKind.i64.wrap ((j : Int) + 1) = ((j + 1 : Nat) : Int) := wrap64 (by omega) (by omega)
      have hwi : IntKind.i64.wrap ((i : Int) + 1) = ((i + 1 : Nat) : Int) := wrap64 (by omega) (by omega)
      simp -implicitDefEqProofs only [go_sem, encYd, get_sh hL, hLl, hlt, hlt', h0j, at_en heL, in_en heL, encEn]
      intro b7
      refine run_callv (by simp -implicitDefEqProofs only [go_sem]; rfl) (p_SweptC y e) (by simp -implicitDefEqProofs only [go_sem, encYd, encEn]) fun η => ?_
      cases hf : fresh y e
      · simp -implicitDefEqProofs only [go_sem, encYd, encEn, hf, hw]
        exact ⟨(i, j + 1, L), del_no hd he (by simp [hf]), (wk_of [some 200, some 400, some 500] (by simp -implicitDefEqProofs only [go_sem, encYd] <;> and_intros <;> first | rfl | assumption)), by (try dsimp only); omega⟩
      · simp -implicitDefEqProofs only [go_sem, encYd, encEn, hf, hw, hwi, get_sh hL, hLl, h0i, at_en hxi, in_en hxi, put_shen e hL hiL, List.set_set, (show i < l.length by omega)]
        exact ⟨(i + 1, j + 1, L.set i e), del_yes hd he (by simp [hf]), (wk_of [some 200, some 400, some 500] (by simp -implicitDefEqProofs only [go_sem, encYd] <;> and_intros <;> first | rfl | assumption)), by (try dsimp only); omega⟩
    · have hlt' : ¬ (j : Int) < l.length := by omega
      obtain rfl : j = l.length := by omega
      have hde := del_end hd
      have hfe : l.filter (fun e => !!fresh y e) = l.filter (fresh y) := by simp
      rw [hfe] at hde
      have hin : i ≤ l.length := by omega
      have hpos : 0 < l.length - i := by omega
      have hsum : i + (l.length - i) = l.length := by omega
      have hsum2 : i + (l.length - i) = L.length := by omega
      have hrf : flatB ((List.replicate (l.length - i) zEntry).flatMap encEn) = true := flatB_encEns _
      obtain ⟨L2, hL2⟩ : ∃ L2, L2 = L.take i ++ List.replicate (l.length - i) zEntry := ⟨_, rfl⟩
      have hL2l : L2.length = l.length := by rw [hL2]; simp; omega
      have hL2t : L2.take i = l.filter (fresh y) := by rw [hL2, List.take_left' (by rw [List.length_take]; omega), hde]
      have hp2 : D.put [n] (i * 4) ((List.replicate (l.length - i) zEntry).flatMap encEn) (encSh (y.shelf.set n L)) = encSh (y.shelf.set n L2) := by rw [put_shp hL (clr_en hsum2), List.set_set, hL2]
      have hg2 : (y.shelf.set n L2)[n]? = some L2 := List.getElem?_set_self hn
      have hns : n < (y.shelf.set n L2).length := by rw [List.length_set]; exact hn
      simp -implicitDefEqProofs only [go_sem, encYd, get_sh hL, hLl, hlt', h0i, hin, Nat.le_refl, hpos, hsum, rep_en, flat_part, hrf, hp2, get_sh hg2, hL2l]
      refine ⟨500, 2, n, 777, i, 4, tEn, tEnS, L2.flatMap encEn, _, ηc 2, .inl rfl, by simp -implicitDefEqProofs only [go_sem]; rfl, get_shc hg2, by simp -implicitDefEqProofs only [go_sem], by decide, by decide, by rw [len_flat enc4]; omega, fun η2 η' hη => ?_⟩
      rw [hcut L2 i (by omega), hL2t]
      simp -implicitDefEqProofs only [go_sem, holeO_, fold_hole, hη, sl_hole, sz_hole, len_hole, hns, h0n, Nat.mul_one, cells_hole, put_hole _ (l.filter (fresh y)) hns, fold_encEns', List.set_set, List.length_set, hn]
      exact ⟨hn, fun _ _ => trivial⟩
end Go.Proofs.YtnhdcbhcocgjhaaGreat
