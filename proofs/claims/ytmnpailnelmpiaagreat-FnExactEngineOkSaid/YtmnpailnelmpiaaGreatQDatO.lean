/- Texts for laws: DatO. -/
import Derived.Test.YtmnpailnelmpiaaGreatQDatZ
import Derived.Test.YtmnpailnelmpiaaGreatQHole
set_option linter.unusedSimpArgs false
set_option linter.unusedVariables false
set_option maxRecDepth 100000
namespace Go.Proofs.YtmnpailnelmpiaaGreat
open Go.RowKit Go.Sort
def c_impl_DiskOk : C := .seq (.reg [⟨some 1, none, .box 40 1 (.t 0)⟩, ⟨some 2, none, .mov (.c (.bool false))⟩]) (.seq (.seq (.reg [⟨some 5, none, .fa 0 (.t 1)⟩, ⟨some 6, none, .ld false 1 (.t 5)⟩, ⟨some 7, none, .len false (.t 6)⟩, ⟨some 8, none, .bin .gtr 3 (.t 7) (.c (.int .i64 4))⟩]) (.cond (.t 8) (.seq (.reg [⟨some 2, none, .mov (.c (.bool false))⟩]) .ret) .skip)) (.seq (.seq (.reg [⟨some 9, none, .fa 0 (.t 1)⟩, ⟨some 10, none, .ld false 1 (.t 9)⟩, ⟨some 11, none, .len false (.t 10)⟩, ⟨some 12, none, .mov (.c (.int .i64 0))⟩]) (.blk 0 (.loop (.seq (.reg [⟨some 13, none, .bin .lss 3 (.t 12) (.t 11)⟩]) (.seq (.cond (.t 13) .skip (.exit 0)) (.seq (.blk 1 (.seq (.reg [⟨some 14, none, .mov (.t 12)⟩, ⟨some 15, none, .ia 3 (.t 10) (.t 12)⟩, ⟨some 16, none, .ld true 3 (.t 15)⟩, ⟨some 4, none, .alloc 184 [.string ⟨⟨[]⟩⟩, .string ⟨⟨[]⟩⟩, .int .i64 0]⟩, ⟨some 3, none, .mov (.t 14)⟩, ⟨none, none, .st 3 [none, none, none] (.t 4) (.t 16)⟩]) (.seq (.reg [⟨some 17, none, .fa 0 (.t 4)⟩, ⟨some 18, none, .ld false 1 (.t 17)⟩, ⟨some 19, none, .call 158 [.t 18]⟩, ⟨some 20, none, .un .not (.t 19)⟩, ⟨some 21, none, .mov (.t 20)⟩, ⟨some 22, some (21, false), .ld true 1 (.t 1)⟩, ⟨some 23, some (21, false), .fa 0 (.t 4)⟩, ⟨some 24, some (21, false), .ld false 1 (.t 23)⟩, ⟨some 25, some (21, false), .call 159 [.t 22, .t 24]⟩, ⟨some 26, some (21, false), .mov (.t 3)⟩, ⟨some 27, some (21, false), .bin .neq 3 (.t 25) (.t 26)⟩, ⟨some 28, none, .pick (.t 21) (.c (.bool true)) (.t 27)⟩, ⟨some 29, none, .mov (.t 28)⟩, ⟨some 30, some (29, false), .fa 1 (.t 4)⟩, ⟨some 31, some (29, false), .ld false 1 (.t 30)⟩, ⟨some 32, some (29, false), .len true (.t 31)⟩, ⟨some 33, some (29, false), .bin .gtr 3 (.t 32) (.c (.int .i64 60000))⟩, ⟨some 34, none, .pick (.t 29) (.c (.bool true)) (.t 33)⟩, ⟨some 35, none, .mov (.t 34)⟩, ⟨some 36, some (35, false), .fa 2 (.t 4)⟩, ⟨some 37, some (35, false), .ld false 1 (.t 36)⟩, ⟨some 38, some (35, false), .fa 1 (.t 4)⟩, ⟨some 39, some (35, false), .ld false 1 (.t 38)⟩, ⟨some 40, some (35, false), .len true (.t 39)⟩, ⟨some 41, some (35, false), .call 78 [.t 37, .c (.int .i64 0), .t 40]⟩, ⟨some 42, some (35, false), .un .not (.t 41)⟩, ⟨some 43, none, .pick (.t 35) (.c (.bool true)) (.t 42)⟩]) (.cond (.t 43) (.seq (.reg [⟨some 2, none, .mov (.c (.bool false))⟩]) .ret) .skip)))) (.reg [⟨some 44, none, .bin .add 3 (.t 12) (.c (.int .i64 1))⟩, ⟨some 12, none, .mov (.t 44)⟩]))))))) (.seq (.reg [⟨some 2, none, .mov (.c (.bool true))⟩]) .ret)))
theorem code_impl_DiskOk : fnC Tryz.prog Tryz.f77 = some (c_impl_DiskOk, [.t 2], 45) := by kernel_rfl
def c_spec_DiskOk : C := .seq (.reg [⟨some 1, none, .box 40 1 (.t 0)⟩, ⟨some 2, none, .mov (.c (.bool false))⟩]) (.seq (.seq (.reg [⟨some 5, none, .fa 0 (.t 1)⟩, ⟨some 6, none, .ld false 1 (.t 5)⟩, ⟨some 7, none, .len false (.t 6)⟩, ⟨some 8, none, .bin .gtr 3 (.t 7) (.c (.int .i64 4))⟩]) (.cond (.t 8) (.seq (.reg [⟨some 2, none, .mov (.c (.bool false))⟩]) .ret) .skip)) (.seq (.seq (.reg [⟨some 3, none, .mov (.c (.int .i64 0))⟩]) (.blk 0 (.loop (.seq (.seq (.reg [⟨some 9, none, .mov (.t 3)⟩, ⟨some 10, none, .fa 0 (.t 1)⟩, ⟨some 11, none, .ld false 1 (.t 10)⟩, ⟨some 12, none, .len false (.t 11)⟩, ⟨some 13, none, .bin .lss 3 (.t 9) (.t 12)⟩]) (.cond (.t 13) .skip (.exit 0))) (.seq (.blk 1 (.seq (.reg [⟨some 16, none, .fa 0 (.t 1)⟩, ⟨some 17, none, .ld false 1 (.t 16)⟩, ⟨some 18, none, .mov (.t 3)⟩, ⟨some 19, none, .ia 3 (.t 17) (.t 18)⟩, ⟨some 20, none, .ld true 3 (.t 19)⟩, ⟨some 4, none, .alloc 184 [.string ⟨⟨[]⟩⟩, .string ⟨⟨[]⟩⟩, .int .i64 0]⟩, ⟨none, none, .st 3 [none, none, none] (.t 4) (.t 20)⟩]) (.seq (.reg [⟨some 21, none, .fa 0 (.t 4)⟩, ⟨some 22, none, .ld false 1 (.t 21)⟩, ⟨some 23, none, .call 154 [.t 22]⟩, ⟨some 24, none, .un .not (.t 23)⟩, ⟨some 25, none, .mov (.t 24)⟩, ⟨some 26, some (25, false), .fa 1 (.t 4)⟩, ⟨some 27, some (25, false), .ld false 1 (.t 26)⟩, ⟨some 28, some (25, false), .len true (.t 27)⟩, ⟨some 29, some (25, false), .bin .gtr 3 (.t 28) (.c (.int .i64 60000))⟩, ⟨some 30, none, .pick (.t 25) (.c (.bool true)) (.t 29)⟩, ⟨some 31, none, .mov (.t 30)⟩, ⟨some 32, some (31, false), .fa 2 (.t 4)⟩, ⟨some 33, some (31, false), .ld false 1 (.t 32)⟩, ⟨some 34, some (31, false), .fa 1 (.t 4)⟩, ⟨some 35, some (31, false), .ld false 1 (.t 34)⟩, ⟨some 36, some (31, false), .len true (.t 35)⟩, ⟨some 37, some (31, false), .call 74 [.t 33, .c (.int .i64 0), .t 36]⟩, ⟨some 38, some (31, false), .un .not (.t 37)⟩, ⟨some 39, none, .pick (.t 31) (.c (.bool true)) (.t 38)⟩, ⟨some 40, none, .mov (.t 39)⟩, ⟨some 41, some (40, false), .ld true 1 (.t 1)⟩, ⟨some 42, some (40, false), .fa 0 (.t 4)⟩, ⟨some 43, some (40, false), .ld false 1 (.t 42)⟩, ⟨some 44, some (40, false), .call 155 [.t 41, .t 43]⟩, ⟨some 45, some (40, false), .mov (.t 3)⟩, ⟨some 46, some (40, false), .bin .neq 3 (.t 44) (.t 45)⟩, ⟨some 47, none, .pick (.t 40) (.c (.bool true)) (.t 46)⟩]) (.cond (.t 47) (.seq (.reg [⟨some 2, none, .mov (.c (.bool false))⟩]) .ret) .skip)))) (.reg [⟨some 14, none, .mov (.t 3)⟩, ⟨some 15, none, .bin .add 3 (.t 14) (.c (.int .i64 1))⟩, ⟨some 3, none, .mov (.t 15)⟩])))))) (.seq (.reg [⟨some 2, none, .mov (.c (.bool true))⟩]) .ret)))
theorem code_spec_DiskOk : fnC Tryz.prog Tryz.f73 = some (c_spec_DiskOk, [.t 2], 48) := by kernel_rfl
def c_impl_nameOk : C := .seq (.reg [⟨some 2, none, .mov (.c (.bool false))⟩]) (.seq (.reg [⟨some 3, none, .mov (.t 0)⟩, ⟨some 4, none, .len true (.t 3)⟩, ⟨some 5, none, .call 78 [.t 4, .c (.int .i64 1), .c (.int .i64 10)]⟩, ⟨some 2, none, .mov (.t 5)⟩]) .ret)
theorem code_impl_nameOk : fnC Tryz.prog Tryz.f158 = some (c_impl_nameOk, [.t 2], 6) := by kernel_rfl
def c_spec_l04Name : C := .seq (.reg [⟨some 2, none, .mov (.c (.bool false))⟩]) (.seq (.reg [⟨some 3, none, .mov (.t 0)⟩, ⟨some 4, none, .len true (.t 3)⟩, ⟨some 5, none, .bin .geq 3 (.t 4) (.c (.int .i64 1))⟩, ⟨some 6, none, .mov (.t 5)⟩, ⟨some 7, some (6, true), .mov (.t 0)⟩, ⟨some 8, some (6, true), .len true (.t 7)⟩, ⟨some 9, some (6, true), .bin .leq 3 (.t 8) (.c (.int .i64 10))⟩, ⟨some 10, none, .pick (.t 6) (.t 9) (.c (.bool false))⟩, ⟨some 2, none, .mov (.t 10)⟩]) .ret)
theorem code_spec_l04Name : fnC Tryz.prog Tryz.f154 = some (c_spec_l04Name, [.t 2], 11) := by kernel_rfl
def c_impl_fileAt : C := .seq (.reg [⟨some 2, none, .box 40 1 (.t 0)⟩, ⟨some 3, none, .box 9 1 (.t 1)⟩, ⟨some 4, none, .mov (.c (.int .i64 0))⟩]) (.seq (.reg [⟨some 5, none, .fa 0 (.t 2)⟩, ⟨some 6, none, .ld false 1 (.t 5)⟩, ⟨some 7, none, .mkf 245 [.t 3]⟩, ⟨some 8, none, .call 244 [.t 6, .t 7]⟩, ⟨some 4, none, .mov (.t 8)⟩]) .ret)
theorem code_impl_fileAt : fnC Tryz.prog Tryz.f159 = some (c_impl_fileAt, [.t 4], 9) := by kernel_rfl
def c_impl_fileAt_1 : C := .seq (.reg [⟨some 2, none, .box 184 3 (.t 0)⟩, ⟨some 3, none, .mov (.c (.bool false))⟩]) (.seq (.reg [⟨some 4, none, .fa 0 (.t 2)⟩, ⟨some 5, none, .ld false 1 (.t 4)⟩, ⟨some 6, none, .ld false 1 (.t 1)⟩, ⟨some 7, none, .bin .eql 9 (.t 5) (.t 6)⟩, ⟨some 3, none, .mov (.t 7)⟩]) .ret)
theorem code_impl_fileAt_1 : fnC Tryz.prog Tryz.f245 = some (c_impl_fileAt_1, [.t 3], 8) := by kernel_rfl
def c_spec_l04At : C := .seq (.reg [⟨some 2, none, .box 40 1 (.t 0)⟩, ⟨some 4, none, .mov (.c (.int .i64 0))⟩]) (.seq (.seq (.reg [⟨some 5, none, .mov (.c (.int .i64 0))⟩]) (.blk 0 (.loop (.seq (.seq (.reg [⟨some 6, none, .mov (.t 5)⟩, ⟨some 7, none, .fa 0 (.t 2)⟩, ⟨some 8, none, .ld false 1 (.t 7)⟩, ⟨some 9, none, .len false (.t 8)⟩, ⟨some 10, none, .bin .lss 3 (.t 6) (.t 9)⟩]) (.cond (.t 10) .skip (.exit 0))) (.seq (.blk 1 (.seq (.reg [⟨some 13, none, .fa 0 (.t 2)⟩, ⟨some 14, none, .ld false 1 (.t 13)⟩, ⟨some 15, none, .mov (.t 5)⟩, ⟨some 16, none, .ia 3 (.t 14) (.t 15)⟩, ⟨some 17, none, .fa 0 (.t 16)⟩, ⟨some 18, none, .ld false 1 (.t 17)⟩, ⟨some 19, none, .mov (.t 1)⟩, ⟨some 20, none, .bin .eql 9 (.t 18) (.t 19)⟩]) (.cond (.t 20) (.seq (.reg [⟨some 21, none, .mov (.t 5)⟩, ⟨some 4, none, .mov (.t 21)⟩]) .ret) .skip))) (.reg [⟨some 11, none, .mov (.t 5)⟩, ⟨some 12, none, .bin .add 3 (.t 11) (.c (.int .i64 1))⟩, ⟨some 5, none, .mov (.t 12)⟩])))))) (.seq (.reg [⟨some 4, none, .mov (.c (.int .i64 (-1)))⟩]) .ret))
theorem code_spec_l04At : fnC Tryz.prog Tryz.f155 = some (c_spec_l04At, [.t 4], 22) := by kernel_rfl
def c_slices_IndexFunc_impl_File_impl_File_ : C := .seq (.reg [⟨some 4, none, .mov (.c (.int .i64 0))⟩]) (.seq (.seq (.reg [⟨some 6, none, .mov (.t 0)⟩, ⟨some 7, none, .len false (.t 6)⟩, ⟨some 8, none, .mov (.c (.int .i64 0))⟩]) (.blk 0 (.loop (.seq (.reg [⟨some 9, none, .bin .lss 3 (.t 8) (.t 7)⟩]) (.seq (.cond (.t 9) .skip (.exit 0)) (.seq (.blk 1 (.seq (.reg [⟨some 10, none, .mov (.t 8)⟩, ⟨some 5, none, .mov (.t 10)⟩]) (.seq (.reg [⟨some 11, none, .mov (.t 1)⟩, ⟨some 12, none, .mov (.t 0)⟩, ⟨some 13, none, .mov (.t 5)⟩, ⟨some 14, none, .ia 3 (.t 12) (.t 13)⟩, ⟨some 15, none, .ld true 3 (.t 14)⟩, ⟨some 16, none, .callv (.t 11) [.t 15]⟩]) (.cond (.t 16) (.seq (.reg [⟨some 17, none, .mov (.t 5)⟩, ⟨some 4, none, .mov (.t 17)⟩]) .ret) .skip)))) (.reg [⟨some 18, none, .bin .add 3 (.t 8) (.c (.int .i64 1))⟩, ⟨some 8, none, .mov (.t 18)⟩]))))))) (.seq (.reg [⟨some 4, none, .mov (.c (.int .i64 (-1)))⟩]) .ret))
theorem code_slices_IndexFunc_impl_File_impl_File_ : fnC Tryz.prog Tryz.f244 = some (c_slices_IndexFunc_impl_File_impl_File_, [.t 4], 19) := by kernel_rfl
def allI {α : Type} (p : Nat → α → Bool) (l : List α) : Bool := (List.range l.length).all fun k => match l[k]? with | some x => p k x | none => true
theorem allI_no {α : Type} {p : Nat → α → Bool} {l : List α} {k : Nat} {x : α} (h : l[k]? = some x) (hp : p k x = false) : allI p l = false := by
  rw [allI, List.all_eq_false]
  exact ⟨k, List.mem_range.2 (List.getElem?_eq_some_iff.1 h).1, by simp [h, hp]⟩
theorem allI_yes {α : Type} {p : Nat → α → Bool} {l : List α} (h : ∀ k x, k < l.length → l[k]? = some x → p k x = true) : allI p l = true := by
  rw [allI, List.all_eq_true]
  intro k hk
  have hk' := List.mem_range.1 hk
  rw [List.getElem?_eq_getElem hk']
  exact h k _ hk' (List.getElem?_eq_getElem hk')
theorem allI_next {α : Type} {p : Nat → α → Bool} {l : List α} {n : Nat} {x : α} (h : ∀ k y, k < n → l[k]? = some y → p k y = true) (hx : l[n]? = some x) (hp : p n x = true) : ∀ k y, k < n + 1 → l[k]? = some y → p k y = true := by
  intro k y hk hy
  by_cases hkn : k = n
  · subst hkn; rw [hx] at hy; cases hy; exact hp
  · exact h k y (by omega) hy
def nameB (s : ByteArray) : Bool := decide (1 ≤ (s.size : Int) ∧ (s.size : Int) ≤ 10)
def atF (l : List Fl) (s : ByteArray) : Int := findI (fun f => decide (f.name = s)) l
def fileOk (l : List Fl) (k : Nat) (f : Fl) : Bool := nameB f.name && (atF l f.name == (k : Int)) && !decide ((f.data.size : Int) > 60000) && decide (0 ≤ f.safe ∧ f.safe ≤ (f.data.size : Int))
def diskB (l : List Fl) : Bool := !decide ((l.length : Int) > 4) && allI (fileOk l) l
theorem p_impl_nameOk (s : ByteArray) : Pure Tryz.prog 158 [.c (.val (.string s))] (.c (.val (.bool (nameB s)))) := by
  refine pure_fn Tryz.func158 code_impl_nameOk (by simp) ?_
  unfold c_impl_nameOk
  simp -implicitDefEqProofs only [go_sem]
  refine run_call (p_impl_within s.size 1 10) (by simp -implicitDefEqProofs only [go_sem, nameB]) fun η => ?_
  simp -implicitDefEqProofs only [go_sem, nameB]
theorem p_spec_l04Name (s : ByteArray) : Pure Tryz.prog 154 [.c (.val (.string s))] (.c (.val (.bool (nameB s)))) := by
  refine pure_fn Tryz.func154 code_spec_l04Name (by simp) ?_
  unfold c_spec_l04Name
  by_cases h1 : (1 : Int) ≤ s.size
  · have h1' : (s.size : Int) ≥ 1 := h1
    by_cases h2 : (s.size : Int) ≤ 10
    · have hb : nameB s = true := by simp only [nameB]; exact decide_eq_true ⟨h1, h2⟩
      simp -implicitDefEqProofs only [go_sem, h1', h2, hb]
    · have hb : nameB s = false := by simp only [nameB]; exact decide_eq_false (fun h => h2 h.2)
      simp -implicitDefEqProofs only [go_sem, h1', h2, hb]
  · have h1' : ¬ (s.size : Int) ≥ 1 := h1
    have hb : nameB s = false := by simp only [nameB]; exact decide_eq_false (fun h => h1 h.1)
    simp -implicitDefEqProofs only [go_sem, h1', hb]
theorem p_fileAtC (s : ByteArray) (x : Fl) : Pure Tryz.prog 245 [.agg (encFl x), .ptr [sv s]] (.c (.val (.bool (decide (x.name = s))))) := by
  refine pure_fn Tryz.func245 code_impl_fileAt_1 (by simp) ?_
  unfold c_impl_fileAt_1
  simp -implicitDefEqProofs only [go_sem, encFl, str_beq]
theorem p_IndexFuncFl (l : List Fl) (f : Nat) (cd : List D) (p : Fl → Bool) (hf : ∀ x, Pure Tryz.prog f [.agg (encFl x), .ptr cd] (.c (.val (.bool (p x))))) (hl : l.length ≤ 4000000) : Pure Tryz.prog 244 [.c (encFls l), .fn f [cd]] (.c (.val (.int .i64 (findI p l)))) := by
  refine pure_fn Tryz.func244 code_slices_IndexFunc_impl_File_impl_File_ (by simp) ?_
  unfold c_slices_IndexFunc_impl_File_impl_File_
  simp -implicitDefEqProofs only [go_sem]
  refine wp_loopW (fun i : Nat => St.of [(0, Ro (encFls l)), (1, .fn f [.rp cd]), (7, Ni l.length), (8, Ni i)] []) (fun i => i ≤ l.length ∧ ∀ y ∈ l.take i, p y = false) (fun i => l.length - i) 0 (by (try dsimp only); first | omega | (simp; done) | (and_intros <;> first | omega | simp)) (wk_of [] (by simp -implicitDefEqProofs only [go_sem] <;> and_intros <;> first | rfl | assumption)) ?_
  rintro k ⟨hk, hko⟩
  by_cases hlt : k < l.length
  · have hlt' : (k : Int) < l.length := by omega
    have h0k : (k : Int) ≥ 0 := by omega
    obtain ⟨x, hx⟩ := get_some hlt
    have hw : IntKind.i64.wrap ((k : Int) + 1) = ((k + 1 : Nat) : Int) := wrap64 (by omega) (by omega)
    simp -implicitDefEqProofs only [go_sem, hlt, hlt', h0k, elem_encFls hx, encFl]
    refine run_callv (by simp -implicitDefEqProofs only [go_sem]; rfl) (hf x) (by simp -implicitDefEqProofs only [go_sem, encFl]) fun η => ?_
    cases hp : p x
    · simp -implicitDefEqProofs only [go_sem, hp, hw]
      exact ⟨k + 1, ⟨hlt, take_no hx hp hko⟩, (wk_of [] (by simp -implicitDefEqProofs only [go_sem] <;> and_intros <;> first | rfl | assumption)), by (try dsimp only); omega⟩
    · simp -implicitDefEqProofs only [go_sem, hp, findI_hit hx hp hko]
  · have hlt' : ¬ (k : Int) < l.length := by omega
    rw [List.take_of_length_le (by omega)] at hko
    simp -implicitDefEqProofs only [go_sem, hlt', findI_none hko]
theorem p_impl_fileAt (l : List Fl) (s : ByteArray) (hl : l.length ≤ 4000000) : Pure Tryz.prog 159 [.agg [encFls l], .c (.val (.string s))] (.c (.val (.int .i64 (atF l s)))) := by
  refine pure_fn Tryz.func159 code_impl_fileAt (by simp) ?_
  unfold c_impl_fileAt
  simp -implicitDefEqProofs only [go_sem]
  intros
  refine run_call (p_IndexFuncFl l _ [sv s] (fun f => decide (f.name = s)) (p_fileAtC s) hl) (by simp -implicitDefEqProofs only [go_sem, sv]) fun η => ?_
  simp -implicitDefEqProofs only [go_sem, atF]
theorem p_spec_l04At (l : List Fl) (s : ByteArray) (hl : l.length ≤ 4000000) : Pure Tryz.prog 155 [.agg [encFls l], .c (.val (.string s))] (.c (.val (.int .i64 (atF l s)))) := by
  refine pure_fn Tryz.func155 code_spec_l04At (by simp) ?_
  unfold c_spec_l04At
  simp -implicitDefEqProofs only [go_sem]
  intro b2
  refine wp_loopW (fun i : Nat => St.of [(1, .c (.v (.string s))), (2, Bx 200 b2), (5, Ni i)] [(200, Bi b2 _ [encFls l])]) (fun i => i ≤ l.length ∧ ∀ y ∈ l.take i, decide (y.name = s) = false) (fun i => l.length - i) 0 (by (try dsimp only); first | omega | (simp; done) | (and_intros <;> first | omega | simp)) (wk_of [some 200] (by simp -implicitDefEqProofs only [go_sem] <;> and_intros <;> first | rfl | assumption)) ?_
  rintro k ⟨hk, hko⟩
  by_cases hlt : k < l.length
  · have hlt' : (k : Int) < l.length := by omega
    have h0k : (k : Int) ≥ 0 := by omega
    obtain ⟨x, hx⟩ := get_some hlt
    have hw : IntKind.i64.wrap ((k : Int) + 1) = ((k + 1 : Nat) : Int) := wrap64 (by omega) (by omega)
    cases hp : decide (x.name = s)
    · simp -implicitDefEqProofs only [go_sem, hlt, hlt', h0k, elem_encFls hx, encFl, str_beq, hp, hw]
      exact ⟨k + 1, ⟨hlt, take_no hx hp hko⟩, (wk_of [some 200] (by simp -implicitDefEqProofs only [go_sem] <;> and_intros <;> first | rfl | assumption)), by (try dsimp only); omega⟩
    · have ha : atF l s = (k : Int) := findI_hit hx hp hko
      simp -implicitDefEqProofs only [go_sem, hlt, hlt', h0k, elem_encFls hx, encFl, str_beq, hp, ha]
  · have hlt' : ¬ (k : Int) < l.length := by omega
    rw [List.take_of_length_le (by omega)] at hko
    have ha : atF l s = -1 := findI_none hko
    simp -implicitDefEqProofs only [go_sem, hlt', ha]
set_option maxHeartbeats 4000000 in
theorem p_impl_DiskOk (l : List Fl) (hl : l.length ≤ 4000000) : Pure Tryz.prog 77 [.agg [encFls l]] (.c (.val (.bool (diskB l)))) := by
  refine pure_fn Tryz.func77 code_impl_DiskOk (by simp) ?_
  unfold c_impl_DiskOk
  simp -implicitDefEqProofs only [go_sem]
  intro b1
  by_cases h4 : (l.length : Int) > 4
  · have hd : diskB l = false := by simp [diskB, h4]
    simp -implicitDefEqProofs only [go_sem, h4, hd]
  simp -implicitDefEqProofs only [go_sem, h4]
  refine wp_loopW (fun i : Nat => St.of [(1, Bx 100 b1), (10, Ro (encFls l)), (11, Ni l.length), (12, Ni i)] [(100, Bi b1 _ [encFls l])]) (fun i => i ≤ l.length ∧ ∀ k y, k < i → l[k]? = some y → fileOk l k y = true) (fun i => l.length - i) 0 (⟨Nat.zero_le _, fun k y h => absurd h (Nat.not_lt_zero _)⟩) (wk_of [some 100] (by simp -implicitDefEqProofs only [go_sem] <;> and_intros <;> first | rfl | assumption)) ?_
  rintro k ⟨hk, hko⟩
  by_cases hlt : k < l.length
  · have hlt' : (k : Int) < l.length := by omega
    have h0k : (k : Int) ≥ 0 := by omega
    obtain ⟨x, hx⟩ := get_some hlt
    have hw : IntKind.i64.wrap ((k : Int) + 1) = ((k + 1 : Nat) : Int) := wrap64 (by omega) (by omega)
    have hno : fileOk l k x = false → diskB l = false := fun h => by simp [diskB, allI_no hx h]
    simp -implicitDefEqProofs only [go_sem, hlt, hlt', h0k, elem_encFls hx, encFl, Nat.add_zero, Bool.not_true, Bool.not_false]
    intro b4
    refine run_call (p_impl_nameOk x.name) (by simp -implicitDefEqProofs only [go_sem, hlt, hlt', h0k, elem_encFls hx, encFl, Nat.add_zero, Bool.not_true, Bool.not_false]) fun ηn => ?_
    simp -implicitDefEqProofs only [go_sem, hlt, hlt', h0k, elem_encFls hx, encFl, Nat.add_zero, Bool.not_true, Bool.not_false]
    cases h1 : nameB x.name
    · have hd := hno (by simp [fileOk, h1])
      simp -implicitDefEqProofs only [go_sem, hlt, hlt', h0k, elem_encFls hx, encFl, Nat.add_zero, Bool.not_true, Bool.not_false, h1, hd]
    simp -implicitDefEqProofs only [go_sem, hlt, hlt', h0k, elem_encFls hx, encFl, Nat.add_zero, Bool.not_true, Bool.not_false, h1]
    refine run_call (p_impl_fileAt l x.name hl) (by simp -implicitDefEqProofs only [go_sem, hlt, hlt', h0k, elem_encFls hx, encFl, Nat.add_zero, Bool.not_true, Bool.not_false, h1]) fun ηa => ?_
    simp -implicitDefEqProofs only [go_sem, hlt, hlt', h0k, elem_encFls hx, encFl, Nat.add_zero, Bool.not_true, Bool.not_false, h1]
    cases h2 : atF l x.name == (k : Int)
    · have hd := hno (by simp [fileOk, h2])
      simp -implicitDefEqProofs only [go_sem, hlt, hlt', h0k, elem_encFls hx, encFl, Nat.add_zero, Bool.not_true, Bool.not_false, h1, bne, h2, hd]
    by_cases h3 : (x.data.size : Int) > 60000
    · have hd := hno (by simp [fileOk, h3])
      simp -implicitDefEqProofs only [go_sem, hlt, hlt', h0k, elem_encFls hx, encFl, Nat.add_zero, Bool.not_true, Bool.not_false, h1, bne, h2, h3, hd]
    simp -implicitDefEqProofs only [go_sem, hlt, hlt', h0k, elem_encFls hx, encFl, Nat.add_zero, Bool.not_true, Bool.not_false, h1, bne, h2, h3]
    refine run_call (p_impl_within x.safe 0 x.data.size) (by simp -implicitDefEqProofs only [go_sem, hlt, hlt', h0k, elem_encFls hx, encFl, Nat.add_zero, Bool.not_true, Bool.not_false, h1, bne, h2, h3]) fun ηw => ?_
    simp -implicitDefEqProofs only [go_sem, hlt, hlt', h0k, elem_encFls hx, encFl, Nat.add_zero, Bool.not_true, Bool.not_false, h1, bne, h2, h3]
    cases h5 : decide (0 ≤ x.safe ∧ x.safe ≤ (x.data.size : Int))
    · have hd := hno (by simp [fileOk, h5])
      simp -implicitDefEqProofs only [go_sem, hlt, hlt', h0k, elem_encFls hx, encFl, Nat.add_zero, Bool.not_true, Bool.not_false, h5, hd]
    have hf : fileOk l k x = true := by simp only [fileOk, h1, h2, h3, h5, decide_false, Bool.not_false, Bool.true_and, Bool.and_true]
    simp -implicitDefEqProofs only [go_sem, hlt, hlt', h0k, elem_encFls hx, encFl, Nat.add_zero, Bool.not_true, Bool.not_false, h5, hw]
    exact ⟨k + 1, ⟨hlt, allI_next hko hx hf⟩, (wk_of [some 100] (by simp -implicitDefEqProofs only [go_sem] <;> and_intros <;> first | rfl | assumption)), by (try dsimp only); omega⟩
  · have hlt' : ¬ (k : Int) < l.length := by omega
    have hd : diskB l = true := by
      rw [diskB, allI_yes (fun j y hj hy => hko j y (by omega) hy)]; simp only [h4, decide_false, Bool.not_false, Bool.true_and]
    simp -implicitDefEqProofs only [go_sem, hlt', hd]
set_option maxHeartbeats 4000000 in
theorem p_spec_DiskOk (l : List Fl) (hl : l.length ≤ 4000000) : Pure Tryz.prog 73 [.agg [encFls l]] (.c (.val (.bool (diskB l)))) := by
  refine pure_fn Tryz.func73 code_spec_DiskOk (by simp) ?_
  unfold c_spec_DiskOk
  simp -implicitDefEqProofs only [go_sem]
  intro b1
  by_cases h4 : (l.length : Int) > 4
  · have hd : diskB l = false := by simp [diskB, h4]
    simp -implicitDefEqProofs only [go_sem, h4, hd]
  simp -implicitDefEqProofs only [go_sem, h4]
  refine wp_loopW (fun i : Nat => St.of [(1, Bx 100 b1), (3, Ni i)] [(100, Bi b1 _ [encFls l])]) (fun i => i ≤ l.length ∧ ∀ k y, k < i → l[k]? = some y → fileOk l k y = true) (fun i => l.length - i) 0 (⟨Nat.zero_le _, fun k y h => absurd h (Nat.not_lt_zero _)⟩) (wk_of [some 100] (by simp -implicitDefEqProofs only [go_sem] <;> and_intros <;> first | rfl | assumption)) ?_
  rintro k ⟨hk, hko⟩
  by_cases hlt : k < l.length
  · have hlt' : (k : Int) < l.length := by omega
    have h0k : (k : Int) ≥ 0 := by omega
    obtain ⟨x, hx⟩ := get_some hlt
    have hw : IntKind.i64.wrap ((k : Int) + 1) = ((k + 1 : Nat) : Int) := wrap64 (by omega) (by omega)
    have hno : fileOk l k x = false → diskB l = false := fun h => by simp [diskB, allI_no hx h]
    simp -implicitDefEqProofs only [go_sem, hlt, hlt', h0k, elem_encFls hx, encFl, Nat.add_zero, Bool.not_true, Bool.not_false]
    intro b4
    refine run_call (p_spec_l04Name x.name) (by simp -implicitDefEqProofs only [go_sem, hlt, hlt', h0k, elem_encFls hx, encFl, Nat.add_zero, Bool.not_true, Bool.not_false]) fun ηn => ?_
    simp -implicitDefEqProofs only [go_sem, hlt, hlt', h0k, elem_encFls hx, encFl, Nat.add_zero, Bool.not_true, Bool.not_false]
    cases h1 : nameB x.name
    · have hd := hno (by simp [fileOk, h1])
      simp -implicitDefEqProofs only [go_sem, hlt, hlt', h0k, elem_encFls hx, encFl, Nat.add_zero, Bool.not_true, Bool.not_false, h1, hd]
    simp -implicitDefEqProofs only [go_sem, hlt, hlt', h0k, elem_encFls hx, encFl, Nat.add_zero, Bool.not_true, Bool.not_false, h1]
    by_cases h3 : (x.data.size : Int) > 60000
    · have hd := hno (by simp [fileOk, h3])
      simp -implicitDefEqProofs only [go_sem, hlt, hlt', h0k, elem_encFls hx, encFl, Nat.add_zero, Bool.not_true, Bool.not_false, h1, h3, hd]
    simp -implicitDefEqProofs only [go_sem, hlt, hlt', h0k, elem_encFls hx, encFl, Nat.add_zero, Bool.not_true, Bool.not_false, h1, h3]
    refine run_call (p_spec_l01In x.safe 0 x.data.size) (by simp -implicitDefEqProofs only [go_sem, hlt, hlt', h0k, elem_encFls hx, encFl, Nat.add_zero, Bool.not_true, Bool.not_false, h1, h3]) fun ηw => ?_
    simp -implicitDefEqProofs only [go_sem, hlt, hlt', h0k, elem_encFls hx, encFl, Nat.add_zero, Bool.not_true, Bool.not_false, h1, h3]
    cases h5 : decide (0 ≤ x.safe ∧ x.safe ≤ (x.data.size : Int))
    · have hd := hno (by simp [fileOk, h5])
      simp -implicitDefEqProofs only [go_sem, hlt, hlt', h0k, elem_encFls hx, encFl, Nat.add_zero, Bool.not_true, Bool.not_false, h5, hd]
    simp -implicitDefEqProofs only [go_sem, hlt, hlt', h0k, elem_encFls hx, encFl, Nat.add_zero, Bool.not_true, Bool.not_false, h5]
    refine run_call (p_spec_l04At l x.name hl) (by simp -implicitDefEqProofs only [go_sem, hlt, hlt', h0k, elem_encFls hx, encFl, Nat.add_zero, Bool.not_true, Bool.not_false, h1]) fun ηa => ?_
    simp -implicitDefEqProofs only [go_sem, hlt, hlt', h0k, elem_encFls hx, encFl, Nat.add_zero, Bool.not_true, Bool.not_false, h1]
    cases h2 : atF l x.name == (k : Int)
    · have hd := hno (by simp [fileOk, h2])
      simp -implicitDefEqProofs only [go_sem, hlt, hlt', h0k, elem_encFls hx, encFl, Nat.add_zero, Bool.not_true, Bool.not_false, h1, bne, h2, hd]
    have hf : fileOk l k x = true := by simp only [fileOk, h1, h2, h3, h5, decide_false, Bool.not_false, Bool.true_and, Bool.and_true]
    simp -implicitDefEqProofs only [go_sem, hlt, hlt', h0k, elem_encFls hx, encFl, Nat.add_zero, Bool.not_true, Bool.not_false, bne, h2, hw]
    exact ⟨k + 1, ⟨hlt, allI_next hko hx hf⟩, (wk_of [some 100] (by simp -implicitDefEqProofs only [go_sem] <;> and_intros <;> first | rfl | assumption)), by (try dsimp only); omega⟩
  · have hlt' : ¬ (k : Int) < l.length := by omega
    have hd : diskB l = true := by
      rw [diskB, allI_yes (fun j y hj hy => hko j y (by omega) hy)]; simp only [h4, decide_false, Bool.not_false, Bool.true_and]
    simp -implicitDefEqProofs only [go_sem, hlt', hd]
end Go.Proofs.YtmnpailnelmpiaaGreat
