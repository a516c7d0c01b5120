/- A shelf swept; both. -/
import Derived.Test.YtbplebgnkhmemaaGreatHole
import Derived.Test.YtbplebgnkhmemaaGreatCopyY
import Derived.Test.YtbplebgnkhmemaaGreatReadyOf
set_option linter.unusedSimpArgs false
set_option linter.unusedVariables false
set_option maxRecDepth 100000
namespace Go.Proofs.YtbplebgnkhmemaaGreat
open Go.RowKit Go.Sort
/-! ### What slices.DeleteFunc does -/
structure DelI (p : En → Bool) (l L : List En) (i j : Nat) : Prop where
  len : L.length = l.length
  ij : i < j
  jl : j ≤ l.length
  pre : L.take i = (l.take j).filter fun e => !p e
  suf : ∀ q, j ≤ q → L[q]? = l[q]?
section
variable {p : En → Bool} {l L : List En} {i j : Nat} {e : En}
theorem del_0 (h : l[i]? = some e) (he : p e = true) (hn : ∀ y ∈ l.take i, p y = false) : DelI p l l i (i + 1) := by
  refine ⟨rfl, by omega, (List.getElem?_eq_some_iff.1 h).1, ?_, fun _ _ => rfl⟩
  rw [List.take_add_one, h, List.filter_append]
  simp only [Option.toList_some, List.filter_cons, he, Bool.not_true, Bool.false_eq_true, if_false, List.filter_nil, List.append_nil]
  exact (List.filter_eq_self.2 fun y hy => by rw [hn y hy]; rfl).symm
theorem del_no (hd : DelI p l L i j) (h : l[j]? = some e) (he : p e = true) : DelI p l L i (j + 1) := by
  refine ⟨hd.len, by have := hd.ij; omega, (List.getElem?_eq_some_iff.1 h).1, ?_, fun q hq => hd.suf q (by omega)⟩
  rw [hd.pre, List.take_add_one, h, List.filter_append]
  simp [he]
theorem del_yes (hd : DelI p l L i j) (h : l[j]? = some e) (he : p e = false) : DelI p l (L.set i e) (i + 1) (j + 1) := by
  have hj := (List.getElem?_eq_some_iff.1 h).1
  have h1 := hd.ij
  have h2 := hd.len
  refine ⟨by rw [List.length_set]; exact h2, by omega, hj, ?_, fun q hq => ?_⟩
  · rw [List.take_add_one, List.getElem?_set_self (by omega), List.take_set_of_le (Nat.le_refl _), hd.pre, List.take_add_one, h, List.filter_append]
    simp [he]
  · rw [List.getElem?_set_ne (by omega)]; exact hd.suf q (by omega)
theorem del_end (hd : DelI p l L i l.length) : L.take i = l.filter fun e => !p e := by rw [hd.pre, List.take_length]
end
def c_slices_IndexFunc_impl_Entry_impl_Entry_ : C := .seq (.reg [⟨some 4, none, .mov (.c (.int .i64 0))⟩]) (.seq (.seq (.reg [⟨some 6, none, .mov (.t 0)⟩, ⟨some 7, none, .len false (.t 6)⟩, ⟨some 8, none, .mov (.c (.int .i64 0))⟩]) (.blk 0 (.loop (.seq (.reg [⟨some 9, none, .bin .lss 3 (.t 8) (.t 7)⟩]) (.seq (.cond (.t 9) .skip (.exit 0)) (.seq (.blk 1 (.seq (.reg [⟨some 10, none, .mov (.t 8)⟩, ⟨some 5, none, .mov (.t 10)⟩]) (.seq (.reg [⟨some 11, none, .mov (.t 1)⟩, ⟨some 12, none, .mov (.t 0)⟩, ⟨some 13, none, .mov (.t 5)⟩, ⟨some 14, none, .ia 4 (.t 12) (.t 13)⟩, ⟨some 15, none, .ld true 4 (.t 14)⟩, ⟨some 16, none, .callv (.t 11) [.t 15]⟩]) (.cond (.t 16) (.seq (.reg [⟨some 17, none, .mov (.t 5)⟩, ⟨some 4, none, .mov (.t 17)⟩]) .ret) .skip)))) (.reg [⟨some 18, none, .bin .add 3 (.t 8) (.c (.int .i64 1))⟩, ⟨some 8, none, .mov (.t 18)⟩]))))))) (.seq (.reg [⟨some 4, none, .mov (.c (.int .i64 (-1)))⟩]) .ret))
theorem code_slices_IndexFunc_impl_Entry_impl_Entry_ : fnC Tryz.prog Tryz.f157 = some (c_slices_IndexFunc_impl_Entry_impl_Entry_, [.t 4], 19) := by kernel_rfl
set_option maxHeartbeats 4000000 in
theorem p_IndexFuncEn (l : List En) (f : Nat) (cd : List D) (p : En → Bool) (hf : ∀ x, Pure Tryz.prog f [.agg (encEn x), .ptr cd] (.c (.val (.bool (p x))))) (hl : l.length ≤ 4000000) : Pure Tryz.prog 157 [.c (encEns l), .fn f [cd]] (.c (.val (.int .i64 (findI p l)))) := by
  refine pure_fn Tryz.func157 code_slices_IndexFunc_impl_Entry_impl_Entry_ (by simp) ?_
  unfold c_slices_IndexFunc_impl_Entry_impl_Entry_
  simp -implicitDefEqProofs only [go_sem]
  refine wp_loopW (fun i : Nat => St.of [(0, Ro (encEns l)), (1, .fn f [.rp cd]), (7, Ni l.length), (8, Ni i)] []) (fun i => i ≤ l.length ∧ ∀ y ∈ l.take i, p y = false) (fun i => l.length - i) 0 (by (try dsimp only); first | omega | (simp; done) | (and_intros <;> first | omega | simp)) (wk_of [] (by simp -implicitDefEqProofs only [go_sem] <;> and_intros <;> first | rfl | assumption)) ?_
  rintro k ⟨hk, hko⟩
  by_cases hlt : k < l.length
  · have hlt' : (k : Int) < l.length := by omega
    have h0k : (k : Int) ≥ 0 := by omega
    obtain ⟨x, hx⟩ := get_some hlt
    have hw : IntKind.i64.wrap ((k : Int) + 1) = ((k + 1 : Nat) : Int) := wrap64 (by omega) (by omega)
    simp -implicitDefEqProofs only [go_sem, hlt, hlt', h0k, elem_encEns hx, encEn]
    refine run_callv (by simp -implicitDefEqProofs only [go_sem]; rfl) (hf x) (by simp -implicitDefEqProofs only [go_sem, encEn]) fun η => ?_
    cases hp : p x
    · simp -implicitDefEqProofs only [go_sem, hp, hw]
      exact ⟨k + 1, ⟨hlt, take_no hx hp hko⟩, (wk_of [] (by simp -implicitDefEqProofs only [go_sem] <;> and_intros <;> first | rfl | assumption)), by (try dsimp only); omega⟩
    · simp -implicitDefEqProofs only [go_sem, hp, findI_hit hx hp hko]
  · have hlt' : ¬ (k : Int) < l.length := by omega
    rw [List.take_of_length_le (by omega)] at hko
    simp -implicitDefEqProofs only [go_sem, hlt', findI_none hko]
/-! ### Swept -/
def sweptY (y : Yd) (k : Int) : Yd := if 0 ≤ k ∧ k ≤ (y.shelf.length : Int) - 1 then ⟨y.now, y.seq, y.shelf.set k.toNat (((y.shelf[k.toNat]?).getD []).filter (fresh y)), y.runs⟩ else y
theorem swept_no {y : Yd} {k : Int} (h : ¬ (0 ≤ k ∧ k ≤ (y.shelf.length : Int) - 1)) : sweptY y k = y := by rw [sweptY, if_neg h]
theorem swept_yes {y : Yd} {k : Nat} {l : List En} (h : y.shelf[k]? = some l) : sweptY y k = ⟨y.now, y.seq, y.shelf.set k (l.filter (fresh y)), y.runs⟩ := by
  have := (List.getElem?_eq_some_iff.1 h).1
  rw [sweptY, if_pos (by omega)]
  simp [h]
theorem put_encSh' {l : List (List En)} {k : Nat} (v : List En) (hk : k < l.length) : D.put [] k [encEns v] (encSh l) = encSh (l.set k v) := by
  have := put_encSh v hk
  rwa [Nat.mul_one] at this
theorem ens_snoc1 (l : List En) (a : En) : D.sl 4 tEn (l.flatMap encEn ++ [.val (.int .i64 a.prio), .val (.int .i64 a.seq), .val (.int .i64 a.run), .val (.int .i64 a.task)]) = encEns (l ++ [a]) := by simp [encEns, encEn]
/-! ### Shelves as data: an element stored in a shelf; a shelf cleared; a shelf taken out -/
theorem sh_map (sh : List (List En)) : (sh.flatMap fun es => [encEns es]) = sh.map encEns := by induction sh <;> simp_all
theorem get_shc {sh : List (List En)} {k : Nat} {l : List En} (h : sh[k]? = some l) : (sh.flatMap fun es => [encEns es])[k]? = some (.sl 4 tEn (l.flatMap encEn)) := by
  rw [sh_map, List.getElem?_map, h]; rfl
theorem put_shp {sh : List (List En)} {k i : Nat} {l l2 : List En} {ds : List D} (h : sh[k]? = some l) (hp : D.put [] i ds (encEns l) = encEns l2) : D.put [k] i ds (encSh sh) = encSh (sh.set k l2) := by
  have hd : (sh.flatMap fun es => [encEns es])[k]? = some (encEns l) := get_shc h
  simp only [encSh, D.put, hd, hp]
  simp only [sh_map, List.map_set]
theorem put_shen {sh : List (List En)} {k i : Nat} {l : List En} (e : En) (h : sh[k]? = some l) (hi : i < l.length) : D.put [k] (i * 4) [.val (.int .i64 e.prio), .val (.int .i64 e.seq), .val (.int .i64 e.run), .val (.int .i64 e.task)] (encSh sh) = encSh (sh.set k (l.set i e)) := put_shp h (put_encEns e hi)
def zEntry : En := ⟨0, 0, 0, 0⟩
theorem rep_en (n : Nat) : (List.replicate n [D.val (.int .i64 0), D.val (.int .i64 0), D.val (.int .i64 0), D.val (.int .i64 0)]).flatten = (List.replicate n zEntry).flatMap encEn := by
  rw [List.flatMap_replicate]; rfl
theorem clr_en {l : List En} {i n : Nat} (h : i + n = l.length) : D.put [] (i * 4) ((List.replicate n zEntry).flatMap encEn) (encEns l) = encEns (l.take i ++ List.replicate n zEntry) := by
  have h4 : ∀ x : En, (encEn x).length = 4 := fun _ => rfl
  have e1 : l.flatMap encEn = (l.take i).flatMap encEn ++ (l.drop i).flatMap encEn := by rw [← List.flatMap_append, List.take_append_drop]
  have l1 : ((l.take i).flatMap encEn).length = i * 4 := by rw [len_flat h4, List.length_take, Nat.min_eq_left (by omega)]
  have l2 : ((l.drop i).flatMap encEn).length = n * 4 := by rw [len_flat h4, List.length_drop]; congr 1; omega
  have l3 : ((List.replicate n zEntry).flatMap encEn).length = n * 4 := by rw [len_flat h4, List.length_replicate]
  simp only [encEns, D.put]
  rw [setAt_eq _ _ _ (by rw [e1, List.length_append]; omega), e1, List.take_left' l1, l3, List.drop_eq_nil_of_le (by rw [List.length_append]; omega), List.append_nil, List.flatMap_append]
theorem flat_sub : ∀ {l m : List D}, (∀ x ∈ m, x ∈ l) → flatB l = true → flatB m = true := by
  intro l m h hl
  have key : ∀ {l : List D}, flatB l = true ↔ ∀ x ∈ l, ∃ u, x = .val u ∧ u.oneCell' = true := by
    intro l
    induction l with
    | nil => simp [flatB]
    | cons a l ih =>
      cases a with
      | val u =>
        simp only [flatB, Bool.and_eq_true, ih, List.mem_cons]
        constructor
        · rintro ⟨h1, h2⟩ x (rfl | hx)
          · exact ⟨u, rfl, h1⟩
          · exact h2 x hx
        · intro h
          refine ⟨?_, fun x hx => h x (.inr hx)⟩
          obtain ⟨v, h1, h2⟩ := h _ (.inl rfl)
          cases h1; exact h2
      | sl a b c =>
        simp only [flatB, Bool.false_eq_true, false_iff]
        intro h
        obtain ⟨v, h1, _⟩ := h _ (List.mem_cons_self)
        cases h1
  exact key.2 fun x hx => key.1 hl x (h x hx)
theorem flat_part (l : List En) (a b : Nat) : flatB (((l.flatMap encEn).drop a).take b) = true := flat_sub (fun x hx => List.mem_of_mem_drop (List.mem_of_mem_take hx)) (flatB_encEns l)
def holeSh (sh : List (List En)) (n : Nat) (v : Value) : D := .sl 1 tEnS ((sh.flatMap fun es => [encEns es]).set n (.val v))
theorem fold_hole (sh : List (List En)) (n : Nat) (v : Value) : D.sl 1 tEnS ((sh.flatMap fun es => [encEns es]).set n (.val v)) = holeSh sh n v := rfl
theorem sl_hole (sh : List (List En)) (n : Nat) (v : Value) : (holeSh sh n v).isSl = true := rfl
theorem sz_hole (sh : List (List En)) (n : Nat) (v : Value) : (holeSh sh n v).size = 1 := rfl
theorem len_hole (sh : List (List En)) (n : Nat) (v : Value) : (holeSh sh n v).len = sh.length := by simp [holeSh, D.len, D.cells, D.size, sh_map]
theorem cells_hole (sh : List (List En)) (n : Nat) (v : Value) : (holeSh sh n v).cells.length = sh.length := by simp [holeSh, D.cells, sh_map]
theorem put_hole {sh : List (List En)} {n : Nat} (v : Value) (l : List En) (h : n < sh.length) : D.put [] n [encEns l] (holeSh sh n v) = encSh (sh.set n l) := by
  simp only [holeSh, D.put, setAt, encSh, sh_map, List.set_set, List.map_set]
theorem holeO_ (o : Nat → Ob) (g c g2 : Nat) (d : D) (η' : Heads) (d2 : D) (η2 : Heads) (j : Nat) : holeO o g c g2 d η' d2 η2 j = if j = g2 then .loose d2 η2 else if j = g then (o g).putOwn c d η' else o j := rfl
theorem set_same {α : Type} {l : List α} {k : Nat} {x : α} (h : l[k]? = some x) : l.set k x = l := by
  apply List.ext_getElem?
  intro j
  by_cases e : k = j
  · subst e; rw [List.getElem?_set_self (List.getElem?_eq_some_iff.1 h).1, h]
  · rw [List.getElem?_set_ne e]
theorem tsum_set_le {α : Type} {f : α → Nat} {l : List α} {k : Nat} {x v : α} (h : l[k]? = some x) (hv : f v ≤ f x) : tsum f (l.set k v) ≤ tsum f l := by
  obtain ⟨hk, hx⟩ := List.getElem?_eq_some_iff.1 h
  have e : l = l.take k ++ x :: l.drop (k + 1) := by rw [← hx, ← List.drop_eq_getElem_cons hk, List.take_append_drop]
  have e2 : l.set k v = l.take k ++ v :: l.drop (k + 1) := by rw [List.set_eq_take_append_cons_drop, if_pos hk]
  rw [e2]
  conv => rhs; rw [e]
  rw [tsum_append, tsum_append]
  simp only [tsum, List.map_cons, List.sum_cons]
  omega
theorem tot_swept (y : Yd) (k : Int) (ht : totYd y ≤ 2000000) : totYd (sweptY y k) ≤ 2000000 := by
  by_cases h : 0 ≤ k ∧ k ≤ (y.shelf.length : Int) - 1
  · obtain ⟨n, rfl⟩ := Int.eq_ofNat_of_zero_le h.1
    obtain ⟨l, hl⟩ := get_some (show n < y.shelf.length by omega)
    rw [swept_yes hl]
    have := tsum_set_le (f := totEnS) (v := l.filter (fresh y)) hl (List.length_filter_le _ _)
    simp only [totYd, totSh, List.length_set] at *
    omega
  · rw [swept_no h]; exact ht
end Go.Proofs.YtbplebgnkhmemaaGreat
