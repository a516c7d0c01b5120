/- NoteText: a list of numbers as bytes. -/
import Derived.Test.YtbplebgnkhmemaaGreatDeedB
import Derived.Test.YtbplebgnkhmemaaGreatShelf
set_option linter.unusedSimpArgs false
set_option linter.unusedVariables false
set_option maxRecDepth 100000
namespace Go.Proofs.YtbplebgnkhmemaaGreat
open Go.RowKit Go.Sort
def c_spec_l02Vars : C := .seq (.reg [⟨some 2, none, .mov (.c (.string ⟨⟨[]⟩⟩))⟩]) (.seq (.reg [⟨some 3, none, .mov (.c (.string ⟨⟨[]⟩⟩))⟩]) (.seq (.seq (.reg [⟨some 4, none, .mov (.c (.int .i64 0))⟩]) (.blk 0 (.loop (.seq (.seq (.reg [⟨some 5, none, .mov (.t 4)⟩, ⟨some 6, none, .mov (.t 0)⟩, ⟨some 7, none, .len false (.t 6)⟩, ⟨some 8, none, .bin .lss 3 (.t 5) (.t 7)⟩]) (.cond (.t 8) .skip (.exit 0))) (.seq (.blk 1 (.reg [⟨some 11, none, .mov (.t 3)⟩, ⟨some 12, none, .mov (.t 0)⟩, ⟨some 13, none, .mov (.t 4)⟩, ⟨some 14, none, .ia 1 (.t 12) (.t 13)⟩, ⟨some 15, none, .ld false 1 (.t 14)⟩, ⟨some 16, none, .call 141 [.t 15]⟩, ⟨some 17, none, .bin .add 9 (.t 11) (.t 16)⟩, ⟨some 3, none, .mov (.t 17)⟩])) (.reg [⟨some 9, none, .mov (.t 4)⟩, ⟨some 10, none, .bin .add 3 (.t 9) (.c (.int .i64 1))⟩, ⟨some 4, none, .mov (.t 10)⟩])))))) (.seq (.reg [⟨some 18, none, .mov (.t 3)⟩, ⟨some 2, none, .mov (.t 18)⟩]) .ret)))
theorem code_spec_l02Vars : fnC Tryz.prog Tryz.f91 = some (c_spec_l02Vars, [.t 2], 19) := by kernel_rfl
def c_impl_vars : C := .seq (.reg [⟨some 2, none, .mov (.c (.string ⟨⟨[]⟩⟩))⟩]) (.seq (.reg [⟨some 3, none, .mov (.c (.slice none 0 0))⟩]) (.seq (.seq (.reg [⟨some 6, none, .mov (.t 0)⟩, ⟨some 7, none, .len false (.t 6)⟩, ⟨some 8, none, .mov (.c (.int .i64 0))⟩]) (.blk 0 (.loop (.seq (.reg [⟨some 9, none, .bin .lss 3 (.t 8) (.t 7)⟩]) (.seq (.cond (.t 9) .skip (.exit 0)) (.seq (.blk 1 (.seq (.reg [⟨some 10, none, .ia 1 (.t 6) (.t 8)⟩, ⟨some 11, none, .ld false 1 (.t 10)⟩, ⟨some 5, none, .mov (.t 11)⟩]) (.reg [⟨some 12, none, .mov (.t 3)⟩, ⟨some 13, none, .mov (.t 5)⟩, ⟨some 14, none, .call 144 [.t 13]⟩, ⟨some 15, none, .apps 5 (.t 12) (.t 14)⟩, ⟨some 3, none, .mov (.t 15)⟩]))) (.reg [⟨some 16, none, .bin .add 3 (.t 8) (.c (.int .i64 1))⟩, ⟨some 8, none, .mov (.t 16)⟩]))))))) (.seq (.reg [⟨some 17, none, .mov (.t 3)⟩, ⟨some 18, none, .cv .text 5 (.t 17)⟩, ⟨some 2, none, .mov (.t 18)⟩]) .ret)))
theorem code_impl_vars : fnC Tryz.prog Tryz.f95 = some (c_impl_vars, [.t 2], 19) := by kernel_rfl
theorem cvK_textn {d : Option Nat} {s : St} {K : St → Prop} (hk : K (s.put d (.c (.v (.string ⟨#[]⟩))))) : cvK d s K .text (.c (.v (.slice none 0 0))) :=
  ⟨_, ⟨_, 0, [], rfl, by simp [Is], rfl⟩, hk⟩
theorem varL_le (k : Nat) : ∀ v : Nat, v < 128 ^ (k + 1) → (varL v).length ≤ k + 1 := by
  induction k with
  | zero =>
    intro v h
    rw [varL, if_pos (by simpa using h)]; simp
  | succ k ih =>
    intro v h
    rw [varL]
    split
    · simp
    · have := ih (v / 128) (by rw [Nat.pow_succ] at h; omega)
      simp only [List.length_cons]; omega
theorem varS_le (n : Int) : (varS n).data.toList.length ≤ 5 := by
  unfold varS
  split
  · have := varL_le 4 n.toNat (by simp; omega)
    simpa using this
  · simp
def varsL (l : List Int) : List UInt8 := l.flatMap fun n => (varS n).data.toList
def varsS (l : List Int) : ByteArray := ⟨(varsL l).toArray⟩
theorem varsL_le (l : List Int) : (varsL l).length ≤ 5 * l.length := by
  induction l with
  | nil => simp [varsL]
  | cons x l ih =>
    have := varS_le x
    simp only [varsL, List.flatMap_cons, List.length_append, List.length_cons] at ih ⊢
    omega
theorem varsL_snoc (l : List Int) (x : Int) : varsL (l ++ [x]) = varsL l ++ (varS x).data.toList := by simp [varsL]
theorem varsL_take {l : List Int} {k : Nat} {x : Int} (h : l[k]? = some x) : varsL (l.take (k + 1)) = varsL (l.take k) ++ (varS x).data.toList := by
  rw [List.take_add_one, h]; exact varsL_snoc _ _
theorem varsS_size (l : List Int) : (varsS l).size = (varsL l).length := by
  show (varsL l).toArray.size = _
  simp
theorem varsS_take {l : List Int} {k : Nat} {x : Int} (h : l[k]? = some x) : varsS (l.take k) ++ varS x = varsS (l.take (k + 1)) := by
  apply ByteArray.ext
  rw [ByteArray.data_append]
  show (varsL (l.take k)).toArray ++ (varS x).data = (varsL (l.take (k + 1))).toArray
  rw [varsL_take h]; simp
theorem p_spec_l02Vars (l : List Int) (hl : l.length ≤ 20000000) : Pure Tryz.prog 91 [.c (encInts l)] (.c (.val (.string (varsS l)))) := by
  refine pure_fn Tryz.func91 code_spec_l02Vars (by simp) ?_
  unfold c_spec_l02Vars
  simp -implicitDefEqProofs only [go_sem]
  refine wp_loop_ (fun s => ∃ k : Nat, k ≤ l.length ∧ s.t 0 = .c (.ro (encInts l)) ∧ s.t 4 = .c (.v (.int .i64 k)) ∧ s.t 3 = .c (.v (.string (varsS (l.take k))))) (fun s => l.length - s.n 4) ?_ ?_
  · exact ⟨0, Nat.zero_le _, by simp -implicitDefEqProofs only [go_sem] <;> rfl, by simp -implicitDefEqProofs only [go_sem] <;> rfl, by simp -implicitDefEqProofs only [go_sem] <;> rfl⟩
  · rintro s ⟨k, hk, h0, h4, h3⟩
    by_cases hlt : k < l.length
    · have hlt' : (k : Int) < l.length := by omega
      obtain ⟨x, hx⟩ := get_some hlt
      have hw : IntKind.i64.wrap ((k : Int) + 1) = ((k + 1 : Nat) : Int) := wrap64 (by omega) (by omega)
      have hsz : (varsS (l.take k)).size + (varS x).size ≤ maxLen := by
        have h1 := varsL_le (l.take k)
        have h2 := varS_le x
        rw [← varsS_size, List.length_take] at h1
        have h2' : (varS x).size ≤ 5 := h2
        unfold maxLen; omega
      simp -implicitDefEqProofs only [go_sem, h0, h4, h3, hlt, hlt', elem_encInts hx]
      refine run_call (p_spec_VarText x) (by simp -implicitDefEqProofs only [go_sem]) fun η => ?_
      simp -implicitDefEqProofs only [go_sem, h0, h4, h3, hw, varsS_take hx, hsz]
      refine ⟨⟨k + 1, ?_⟩, ?_⟩
      · and_intros <;> first | rfl | omega
      · rw [st_n (k := .i64) (n := ((k + 1 : Nat) : Int)) (by simp -implicitDefEqProofs only [go_sem]), st_n h4]; omega
    · have hlt' : ¬ (k : Int) < l.length := by omega
      rw [List.take_of_length_le (by omega)] at h3
      simp -implicitDefEqProofs only [go_sem, h0, h4, h3, hlt']
theorem p_impl_vars (l : List Int) (hl : l.length ≤ 20000000) : Pure Tryz.prog 95 [.c (encInts l)] (.c (.val (.string (varsS l)))) := by
  refine pure_fn Tryz.func95 code_impl_vars (by simp) ?_
  unfold c_impl_vars
  simp -implicitDefEqProofs only [go_sem]
  refine wp_loop_ (fun s => ∃ k : Nat, k ≤ l.length ∧ s.t 6 = .c (.ro (encInts l)) ∧ s.t 7 = .c (.v (.int .i64 l.length)) ∧ s.t 8 = .c (.v (.int .i64 k)) ∧ ((k = 0 ∧ s.t 3 = .c (.v (.slice none 0 0))) ∨ ∃ η, s.t 3 = .c (.h 1500 0 [] (η [])) ∧ s.o 1500 = .loose (.sl 1 5 ((varsL (l.take k)).map byteVal)) η)) (fun s => l.length - s.n 8) ?_ ?_
  · exact ⟨0, Nat.zero_le _, by simp -implicitDefEqProofs only [go_sem] <;> rfl, by simp -implicitDefEqProofs only [go_sem] <;> rfl, by simp -implicitDefEqProofs only [go_sem] <;> rfl, .inl ⟨rfl, by simp -implicitDefEqProofs only [go_sem]⟩⟩
  · rintro s ⟨k, hk, h6, h7, h8, hg⟩
    by_cases hlt : k < l.length
    · have hlt' : (k : Int) < l.length := by omega
      obtain ⟨x, hx⟩ := get_some hlt
      have hw : IntKind.i64.wrap ((k : Int) + 1) = ((k + 1 : Nat) : Int) := wrap64 (by omega) (by omega)
      have h2 : (varS x).size ≤ 5 := varS_le x
      have h1 := varsL_le (l.take k)
      rw [List.length_take] at h1
      have happ : (varsL (l.take k)).map byteVal ++ strCells (varS x) = (varsL (l.take (k + 1))).map byteVal := by rw [varsL_take hx, List.map_append]; rfl
      have hln : ((varsL (l.take k)).map byteVal).length + (varS x).size ≤ 140737488355328 := by rw [List.length_map]; omega
      rcases hg with ⟨hk0, h3⟩ | ⟨η, h3, ho⟩
      · have hln0 : (varS x).size ≤ 140737488355328 := by omega
        have happ0 : strCells (varS x) = (varsL (l.take (k + 1))).map byteVal := by rw [← happ, hk0]; rfl
        simp -implicitDefEqProofs only [go_sem, h3, h6, h7, h8, hlt, hlt', elem_encInts hx]
        refine run_call (p_impl_VarText x) (by simp -implicitDefEqProofs only [go_sem]) fun η => ?_
        simp -implicitDefEqProofs only [go_sem, run_apps, h3, h6, h7, h8, hw]
        refine ⟨_, rfl, ?_⟩
        simp -implicitDefEqProofs only [go_sem, h3, h6, h7, h8, hw, hln0]
        intro η1
        refine ⟨⟨k + 1, by omega, rfl, .inr ⟨η1, rfl, by rw [happ0]⟩⟩, ?_⟩
        rw [st_n (k := .i64) (n := ((k + 1 : Nat) : Int)) (by simp -implicitDefEqProofs only [go_sem]), st_n h8]; omega
      · simp -implicitDefEqProofs only [go_sem, h3, h6, h7, h8, ho, hlt, hlt', elem_encInts hx]
        refine run_call (p_impl_VarText x) (by simp -implicitDefEqProofs only [go_sem]) fun η => ?_
        simp -implicitDefEqProofs only [go_sem, run_apps, h3, h6, h7, h8, ho, hw]
        refine ⟨_, rfl, ?_⟩
        simp -implicitDefEqProofs only [go_sem, h3, h6, h7, h8, ho, hw, hln]
        intro η1
        refine ⟨⟨k + 1, by omega, rfl, .inr ⟨η1, rfl, by rw [happ]⟩⟩, ?_⟩
        rw [st_n (k := .i64) (n := ((k + 1 : Nat) : Int)) (by simp -implicitDefEqProofs only [go_sem]), st_n h8]; omega
    · have hlt' : ¬ (k : Int) < l.length := by omega
      have hk' : k = l.length := by omega
      rcases hg with ⟨hk0, h3⟩ | ⟨η, h3, ho⟩
      · have hl0 : l = [] := List.eq_nil_of_length_eq_zero (by omega)
        simp -implicitDefEqProofs only [go_sem, h3, h6, h7, h8, hlt']
        refine cvK_textn ?_
        simp -implicitDefEqProofs only [go_sem]
        rw [hl0]; rfl
      · rw [List.take_of_length_le (by omega)] at ho
        simp -implicitDefEqProofs only [go_sem, h3, h6, h7, h8, ho, hlt']
        refine cvK_text (ty := 5) (cs := (varsL l).map byteVal) (η := η) (bs := varsL l) (by simp -implicitDefEqProofs only [go_sem, ho]) rfl rfl ?_
        simp -implicitDefEqProofs only [go_sem]
        rfl
def noteL (n : Nt) : List Int := n.seq :: n.deed.kind :: numsL n.deed
def cutS (b : ByteArray) : ByteArray := if 400 < b.size then ⟨⟨[]⟩⟩ else b
def noteS (n : Nt) : ByteArray := if (deedB n.deed && decide (1 ≤ n.seq ∧ n.seq ≤ 1000000000)) = true then cutS (varsS (noteL n)) else ⟨⟨[]⟩⟩
theorem numsL_le (d : Dd) (hb : totDd d ≤ 2000000) : (numsL d).length ≤ 5000000 := by
  have hp : d.plan.edges.length ≤ 2000000 := hb
  unfold numsL
  split
  · rw [List.length_append, fl_len]; simp; omega
  · split
    · simp
    · split
      · simp
      · split <;> simp
end Go.Proofs.YtbplebgnkhmemaaGreat
set_option linter.unusedSimpArgs false
set_option linter.unusedVariables false
set_option maxRecDepth 100000
namespace Go.Proofs.YtbplebgnkhmemaaGreat
open Go.RowKit Go.Sort
end Go.Proofs.YtbplebgnkhmemaaGreat
set_option linter.unusedSimpArgs false
set_option linter.unusedVariables false
set_option maxRecDepth 100000
namespace Go.Proofs.YtbplebgnkhmemaaGreat
open Go.RowKit Go.Sort
end Go.Proofs.YtbplebgnkhmemaaGreat
