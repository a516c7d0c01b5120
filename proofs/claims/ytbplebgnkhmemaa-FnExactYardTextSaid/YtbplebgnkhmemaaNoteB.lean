/- NoteText: a list of numbers as bytes. -/
import Derived.Test.YtbplebgnkhmemaaDeedB
import Derived.Test.YtbplebgnkhmemaaShelf
set_option linter.unusedSimpArgs false
set_option linter.unusedVariables false
set_option maxRecDepth 100000
namespace Go.Proofs.Ytbplebgnkhmemaa
open Go.RowKit Go.Sort
def c_spec_l02Vars : C := .seq (.reg [⟨some 2, none, .mov (.c (.string ⟨⟨[]⟩⟩))⟩]) (.seq (.reg [⟨some 3, none, .mov (.c (.string ⟨⟨[]⟩⟩))⟩]) (.seq (.seq (.reg [⟨some 4, none, .mov (.c (.int .i64 0))⟩]) (.blk 0 (.loop (.seq (.seq (.reg [⟨some 5, none, .mov (.t 4)⟩, ⟨some 6, none, .mov (.t 0)⟩, ⟨some 7, none, .len false (.t 6)⟩, ⟨some 8, none, .bin .lss 3 (.t 5) (.t 7)⟩]) (.cond (.t 8) .skip (.exit 0))) (.seq (.blk 1 (.reg [⟨some 11, none, .mov (.t 3)⟩, ⟨some 12, none, .mov (.t 0)⟩, ⟨some 13, none, .mov (.t 4)⟩, ⟨some 14, none, .ia 1 (.t 12) (.t 13)⟩, ⟨some 15, none, .ld false 1 (.t 14)⟩, ⟨some 16, none, .call 104 [.t 15]⟩, ⟨some 17, none, .bin .add 9 (.t 11) (.t 16)⟩, ⟨some 3, none, .mov (.t 17)⟩])) (.reg [⟨some 9, none, .mov (.t 4)⟩, ⟨some 10, none, .bin .add 3 (.t 9) (.c (.int .i64 1))⟩, ⟨some 4, none, .mov (.t 10)⟩])))))) (.seq (.reg [⟨some 18, none, .mov (.t 3)⟩, ⟨some 2, none, .mov (.t 18)⟩]) .ret)))
theorem code_spec_l02Vars : fnC Try.prog Try.f58 = some (c_spec_l02Vars, [.t 2], 19) := by kernel_rfl
def c_impl_vars : C := .seq (.reg [⟨some 2, none, .mov (.c (.string ⟨⟨[]⟩⟩))⟩]) (.seq (.reg [⟨some 3, none, .mov (.c (.slice none 0 0))⟩]) (.seq (.seq (.reg [⟨some 6, none, .mov (.t 0)⟩, ⟨some 7, none, .len false (.t 6)⟩, ⟨some 8, none, .mov (.c (.int .i64 0))⟩]) (.blk 0 (.loop (.seq (.reg [⟨some 9, none, .bin .lss 3 (.t 8) (.t 7)⟩]) (.seq (.cond (.t 9) .skip (.exit 0)) (.seq (.blk 1 (.seq (.reg [⟨some 10, none, .ia 1 (.t 6) (.t 8)⟩, ⟨some 11, none, .ld false 1 (.t 10)⟩, ⟨some 5, none, .mov (.t 11)⟩]) (.reg [⟨some 12, none, .mov (.t 3)⟩, ⟨some 13, none, .mov (.t 5)⟩, ⟨some 14, none, .call 105 [.t 13]⟩, ⟨some 15, none, .apps 5 (.t 12) (.t 14)⟩, ⟨some 3, none, .mov (.t 15)⟩]))) (.reg [⟨some 16, none, .bin .add 3 (.t 8) (.c (.int .i64 1))⟩, ⟨some 8, none, .mov (.t 16)⟩]))))))) (.seq (.reg [⟨some 17, none, .mov (.t 3)⟩, ⟨some 18, none, .cv .text 5 (.t 17)⟩, ⟨some 2, none, .mov (.t 18)⟩]) .ret)))
theorem code_impl_vars : fnC Try.prog Try.f60 = some (c_impl_vars, [.t 2], 19) := by kernel_rfl
theorem cvK_textn {d : Option Nat} {s : St} {K : St → Prop} (hk : K (s.put d (.c (.v (.string ⟨#[]⟩))))) : cvK d s K .text (.c (.v (.slice none 0 0))) :=
  ⟨_, ⟨_, 0, [], rfl, by simp [Is], rfl⟩, hk⟩
theorem varL_le (k : Nat) : ∀ v : Nat, v < 128 ^ (k + 1) → (varL v).length ≤ k + 1 := by
  induction k with
  | zero =>
    intro v h
    rw [varL, if_pos (by simpa using h)]; simp
  | succ k ih =>
    intro v h
    rw [varL]
    split
    · simp
    · have := ih (v / 128) (by rw [Nat.pow_succ] at h; omega)
      simp only [List.length_cons]; omega
theorem varS_le (n : Int) : (varS n).data.toList.length ≤ 5 := by
  unfold varS
  split
  · have := varL_le 4 n.toNat (by simp; omega)
    simpa using this
  · simp
def varsL (l : List Int) : List UInt8 := l.flatMap fun n => (varS n).data.toList
def varsS (l : List Int) : ByteArray := ⟨(varsL l).toArray⟩
theorem varsL_le (l : List Int) : (varsL l).length ≤ 5 * l.length := by
  induction l with
  | nil => simp [varsL]
  | cons x l ih =>
    have := varS_le x
    simp only [varsL, List.flatMap_cons, List.length_append, List.length_cons] at ih ⊢
    omega
theorem varsL_snoc (l : List Int) (x : Int) : varsL (l ++ [x]) = varsL l ++ (varS x).data.toList := by simp [varsL]
theorem varsL_take {l : List Int} {k : Nat} {x : Int} (h : l[k]? = some x) : varsL (l.take (k + 1)) = varsL (l.take k) ++ (varS x).data.toList := by
  rw [List.take_add_one, h]; exact varsL_snoc _ _
theorem varsS_size (l : List Int) : (varsS l).size = (varsL l).length := by
  show (varsL l).toArray.size = _
  simp
theorem varsS_take {l : List Int} {k : Nat} {x : Int} (h : l[k]? = some x) : varsS (l.take k) ++ varS x = varsS (l.take (k + 1)) := by
  apply ByteArray.ext
  rw [ByteArray.data_append]
  show (varsL (l.take k)).toArray ++ (varS x).data = (varsL (l.take (k + 1))).toArray
  rw [varsL_take h]; simp
theorem p_spec_l02Vars (l : List Int) (hl : l.length ≤ 20000000) : Pure Try.prog 58 [.c (encInts l)] (.c (.val (.string (varsS l)))) := by
  refine pure_fn Try.func58 code_spec_l02Vars (by simp) ?_
  unfold c_spec_l02Vars
  simp -implicitDefEqProofs only [go_sem]
  refine wp_loop_ (fun s => ∃ k : Nat, k ≤ l.length ∧ s.t 0 = .c (.ro (encInts l)) ∧ s.t 4 = .c (.v (.int .i64 k)) ∧ s.t 3 = .c (.v (.string (varsS (l.take k))))) (fun s => l.length - s.n 4) ?_ ?_
  · exact ⟨0, Nat.zero_le _, by simp -implicitDefEqProofs only [go_sem] <;> rfl, by simp -implicitDefEqProofs only [go_sem] <;> rfl, by simp -implicitDefEqProofs only [go_sem] <;> rfl⟩
  · rintro s ⟨k, hk, h0, h4, h3⟩
    by_cases hlt : k < l.length
    · have hlt' : (k : Int) < l.length := by omega
      obtain ⟨x, hx⟩ := get_some hlt
      have hw : IntKind.i64.wrap ((k : Int) + 1) = ((k + 1 : Nat) : Int) := wrap64 (by omega) (by omega)
      have hsz : (varsS (l.take k)).size + (varS x).size ≤ maxLen := by
        have h1 := varsL_le (l.take k)
        have h2 := varS_le x
        rw [← varsS_size, List.length_take] at h1
        have h2' : (varS x).size ≤ 5 := h2
        unfold maxLen; omega
      simp -implicitDefEqProofs only [go_sem, h0, h4, h3, hlt, hlt', elem_encInts hx]
      refine run_call (p_spec_VarText x) (by simp -implicitDefEqProofs only [go_sem]) fun η => ?_
      simp -implicitDefEqProofs only [go_sem, h0, h4, h3, hw, varsS_take hx, hsz]
      refine ⟨⟨k + 1, ?_⟩, ?_⟩
      · and_intros <;> first | rfl | omega
      · rw [st_n (k := .i64) (n := ((k + 1 : Nat) : Int)) (by simp -implicitDefEqProofs only [go_sem]), st_n h4]; omega
    · have hlt' : ¬ (k : Int) < l.length := by omega
      rw [List.take_of_length_le (by omega)] at h3
      simp -implicitDefEqProofs only [go_sem, h0, h4, h3, hlt']
theorem p_impl_vars (l : List Int) (hl : l.length ≤ 20000000) : Pure Try.prog 60 [.c (encInts l)] (.c (.val (.string (varsS l)))) := by
  refine pure_fn Try.func60 code_impl_vars (by simp) ?_
  unfold c_impl_vars
  simp -implicitDefEqProofs only [go_sem]
  refine wp_loop_ (fun s => ∃ k : Nat, k ≤ l.length ∧ s.t 6 = .c (.ro (encInts l)) ∧ s.t 7 = .c (.v (.int .i64 l.length)) ∧ s.t 8 = .c (.v (.int .i64 k)) ∧ ((k = 0 ∧ s.t 3 = .c (.v (.slice none 0 0))) ∨ ∃ η, s.t 3 = .c (.h 1500 0 [] (η [])) ∧ s.o 1500 = .loose (.sl 1 5 ((varsL (l.take k)).map byteVal)) η)) (fun s => l.length - s.n 8) ?_ ?_
  · exact ⟨0, Nat.zero_le _, by simp -implicitDefEqProofs only [go_sem] <;> rfl, by simp -implicitDefEqProofs only [go_sem] <;> rfl, by simp -implicitDefEqProofs only [go_sem] <;> rfl, .inl ⟨rfl, by simp -implicitDefEqProofs only [go_sem]⟩⟩
  · rintro s ⟨k, hk, h6, h7, h8, hg⟩
    by_cases hlt : k < l.length
    · have hlt' : (k : Int) < l.length := by omega
      obtain ⟨x, hx⟩ := get_some hlt
      have hw : IntKind.i64.wrap ((k : Int) + 1) = ((k + 1 : Nat) : Int) := wrap64 (by omega) (by omega)
      have h2 : (varS x).size ≤ 5 := varS_le x
      have h1 := varsL_le (l.take k)
      rw [List.length_take] at h1
      have happ : (varsL (l.take k)).map byteVal ++ strCells (varS x) = (varsL (l.take (k + 1))).map byteVal := by rw [varsL_take hx, List.map_append]; rfl
      have hln : ((varsL (l.take k)).map byteVal).length + (varS x).size ≤ 140737488355328 := by rw [List.length_map]; omega
      rcases hg with ⟨hk0, h3⟩ | ⟨η, h3, ho⟩
      · have hln0 : (varS x).size ≤ 140737488355328 := by omega
        have happ0 : strCells (varS x) = (varsL (l.take (k + 1))).map byteVal := by rw [← happ, hk0]; rfl
        simp -implicitDefEqProofs only [go_sem, h3, h6, h7, h8, hlt, hlt', elem_encInts hx]
        refine run_call (p_impl_VarText x) (by simp -implicitDefEqProofs only [go_sem]) fun η => ?_
        simp -implicitDefEqProofs only [go_sem, run_apps, h3, h6, h7, h8, hw]
        refine ⟨_, rfl, ?_⟩
        simp -implicitDefEqProofs only [go_sem, h3, h6, h7, h8, hw, hln0]
        intro η1
        refine ⟨⟨k + 1, by omega, rfl, .inr ⟨η1, rfl, by rw [happ0]⟩⟩, ?_⟩
        rw [st_n (k := .i64) (n := ((k + 1 : Nat) : Int)) (by simp -implicitDefEqProofs only [go_sem]), st_n h8]; omega
      · simp -implicitDefEqProofs only [go_sem, h3, h6, h7, h8, ho, hlt, hlt', elem_encInts hx]
        refine run_call (p_impl_VarText x) (by simp -implicitDefEqProofs only [go_sem]) fun η => ?_
        simp -implicitDefEqProofs only [go_sem, run_apps, h3, h6, h7, h8, ho, hw]
        refine ⟨_, rfl, ?_⟩
        simp -implicitDefEqProofs only [go_sem, h3, h6, h7, h8, ho, hw, hln]
        intro η1
        refine ⟨⟨k + 1, by omega, rfl, .inr ⟨η1, rfl, by rw [happ]⟩⟩, ?_⟩
        rw [st_n (k := .i64) (n := ((k + 1 : Nat) : Int)) (by simp -implicitDefEqProofs only [go_sem]), st_n h8]; omega
    · have hlt' : ¬ (k : Int) < l.length := by omega
      have hk' : k = l.length := by omega
      rcases hg with ⟨hk0, h3⟩ | ⟨η, h3, ho⟩
      · have hl0 : l = [] := List.eq_nil_of_length_eq_zero (by omega)
        simp -implicitDefEqProofs only [go_sem, h3, h6, h7, h8, hlt']
        refine cvK_textn ?_
        simp -implicitDefEqProofs only [go_sem]
        rw [hl0]; rfl
      · rw [List.take_of_length_le (by omega)] at ho
        simp -implicitDefEqProofs only [go_sem, h3, h6, h7, h8, ho, hlt']
        refine cvK_text (ty := 5) (cs := (varsL l).map byteVal) (η := η) (bs := varsL l) (by simp -implicitDefEqProofs only [go_sem, ho]) rfl rfl ?_
        simp -implicitDefEqProofs only [go_sem]
        rfl
def noteL (n : Nt) : List Int := n.seq :: n.deed.kind :: numsL n.deed
def cutS (b : ByteArray) : ByteArray := if 400 < b.size then ⟨⟨[]⟩⟩ else b
def noteS (n : Nt) : ByteArray := if (deedB n.deed && decide (1 ≤ n.seq ∧ n.seq ≤ 1000000000)) = true then cutS (varsS (noteL n)) else ⟨⟨[]⟩⟩
theorem numsL_le (d : Dd) (hb : totDd d ≤ 2000000) : (numsL d).length ≤ 5000000 := by
  have hp : d.plan.edges.length ≤ 2000000 := hb
  unfold numsL
  split
  · rw [List.length_append, fl_len]; simp; omega
  · split
    · simp
    · split
      · simp
      · split <;> simp
end Go.Proofs.Ytbplebgnkhmemaa
set_option linter.unusedSimpArgs false
set_option linter.unusedVariables false
set_option maxRecDepth 100000
namespace Go.Proofs.Ytbplebgnkhmemaa
open Go.RowKit Go.Sort
def c_impl_NoteText : C := .seq (.reg [⟨some 1, none, .box 92 12 (.t 0)⟩, ⟨some 2, none, .mov (.c (.string ⟨⟨[]⟩⟩))⟩]) (.seq (.seq (.reg [⟨some 4, none, .fa 1 (.t 1)⟩, ⟨some 5, none, .ld true 11 (.t 4)⟩, ⟨some 6, none, .call 100 [.t 5]⟩, ⟨some 7, none, .un .not (.t 6)⟩, ⟨some 8, none, .mov (.t 7)⟩, ⟨some 9, some (8, false), .fa 0 (.t 1)⟩, ⟨some 10, some (8, false), .ld false 1 (.t 9)⟩, ⟨some 11, some (8, false), .call 40 [.t 10, .c (.int .i64 1), .c (.int .i64 1000000000)]⟩, ⟨some 12, some (8, false), .un .not (.t 11)⟩, ⟨some 13, none, .pick (.t 8) (.c (.bool true)) (.t 12)⟩]) (.cond (.t 13) (.seq (.reg [⟨some 2, none, .mov (.c (.string ⟨⟨[]⟩⟩))⟩]) .ret) .skip)) (.seq (.dreg (T.pure 0 ⟨some 14, none, .fa 0 (.t 1)⟩ (T.pure 1 ⟨some 15, none, .ld false 1 (.t 14)⟩ (T.pure 2 ⟨some 16, none, .fa 1 (.t 1)⟩ (T.pure 3 ⟨some 17, none, .fa 0 (.t 16)⟩ (T.pure 4 ⟨some 18, none, .ld false 1 (.t 17)⟩ (T.pure 6 ⟨some 20, none, .fa 1 (.t 1)⟩ (T.pure 7 ⟨some 21, none, .ld true 11 (.t 20)⟩ (T.alt ⟨some 19, none, .bsl 3 1 2 [none, none] [(0, 1, .t 15), (1, 1, .t 18)]⟩ [7, 6] (T.alt ⟨some 22, none, .call 101 [.t 21]⟩ [4, 3, 2, 1, 0] (T.alt ⟨some 23, none, .app 3 1 8 (.t 19) (.t 22)⟩ [] (T.alt ⟨some 24, none, .call 60 [.t 23]⟩ [] (T.pure 11 ⟨some 3, none, .mov (.t 24)⟩ T.done) T.stop) T.stop) T.stop) (T.alt ⟨some 22, none, .call 101 [.t 21]⟩ [4, 3, 2, 1, 0] (T.alt ⟨some 19, none, .bsl 3 1 2 [none, none] [(0, 1, .t 15), (1, 1, .t 18)]⟩ [7, 6] (T.alt ⟨some 23, none, .app 3 1 8 (.t 19) (.t 22)⟩ [] (T.alt ⟨some 24, none, .call 60 [.t 23]⟩ [] (T.pure 11 ⟨some 3, none, .mov (.t 24)⟩ T.done) T.stop) T.stop) T.stop) T.stop)))))))))) (.seq (.seq (.reg [⟨some 25, none, .mov (.t 3)⟩, ⟨some 26, none, .len true (.t 25)⟩, ⟨some 27, none, .bin .gtr 3 (.t 26) (.c (.int .i64 400))⟩]) (.cond (.t 27) (.seq (.reg [⟨some 2, none, .mov (.c (.string ⟨⟨[]⟩⟩))⟩]) .ret) .skip)) (.seq (.reg [⟨some 28, none, .mov (.t 3)⟩, ⟨some 2, none, .mov (.t 28)⟩]) .ret))))
theorem code_impl_NoteText : fnC Try.prog Try.f54 = some (c_impl_NoteText, [.t 2], 29) := by kernel_rfl
set_option maxHeartbeats 2000000 in
theorem p_impl_NoteText (n : Nt) (hb : totNt n ≤ 2000000) : Pure Try.prog 54 [.agg (encNt n)] (.c (.val (.string (noteS n)))) := by
  refine pure_fn Try.func54 code_impl_NoteText (by simp) ?_
  unfold c_impl_NoteText
  obtain ⟨seq, kind, run, plan, task, tri, worker, draw⟩ := n
  have hb' : totDd ⟨kind, run, plan, task, tri, worker, draw⟩ ≤ 2000000 := hb
  have hnl := numsL_le _ hb'
  simp -implicitDefEqProofs only [go_sem, encNt, encDd, encPl]
  intro b
  refine run_call (p_impl_DeedOk ⟨kind, run, plan, task, tri, worker, draw⟩ hb') (by simp -implicitDefEqProofs only [go_sem, encDd, encPl]) fun η => ?_
  cases hd : deedB ⟨kind, run, plan, task, tri, worker, draw⟩
  · simp -implicitDefEqProofs only [go_sem]
    simp [noteS, hd]
  simp -implicitDefEqProofs only [go_sem]
  refine run_call (p_impl_within seq 1 1000000000) (by simp -implicitDefEqProofs only [go_sem]) fun η => ?_
  by_cases hs : 1 ≤ seq ∧ seq ≤ 1000000000
  · have e : noteS ⟨seq, kind, run, plan, task, tri, worker, draw⟩ = cutS (varsS (seq :: kind :: numsL ⟨kind, run, plan, task, tri, worker, draw⟩)) := by simp [noteS, hd, hs, noteL]
    rw [e]
    simp -implicitDefEqProofs only [go_sem, hs]
    have hpd := p_deedNumbers ⟨kind, run, plan, task, tri, worker, draw⟩ hb'
    generalize numsL ⟨kind, run, plan, task, tri, worker, draw⟩ = l at *
    have m1 : 2 + l.length ≤ maxLen := by unfold maxLen; omega
    have m2 : (2 + l.length) * 8 ≤ 140737488355328 := by omega
    have m3 : D.sl 1 tInt (iv seq :: iv kind :: l.flatMap (fun n => [iv n])) = encInts (seq :: kind :: l) := rfl
    refine ⟨fun η1 => run_call hpd (by simp -implicitDefEqProofs only [go_sem, encDd, encPl]) fun η2 => ?_, run_call hpd (by simp -implicitDefEqProofs only [go_sem, encDd, encPl]) fun η2 => ?_⟩
    · simp -implicitDefEqProofs only [go_sem, m1, m2, m3]
      intro η3
      refine run_call (p_impl_vars (seq :: kind :: l) (by simp only [List.length_cons]; omega)) (by simp -implicitDefEqProofs only [go_sem]) fun η4 => ?_
      by_cases h4 : 400 < (varsS (seq :: kind :: l)).size
      · have h4' : (400 : Int) < (varsS (seq :: kind :: l)).size := by omega
        simp -implicitDefEqProofs only [go_sem, h4']
        simp [cutS, h4]
      · have h4' : ¬ (400 : Int) < (varsS (seq :: kind :: l)).size := by omega
        simp -implicitDefEqProofs only [go_sem, h4']
        simp [cutS, h4]
    · simp -implicitDefEqProofs only [go_sem, m1, m2, m3]
      intro η1 η3
      refine run_call (p_impl_vars (seq :: kind :: l) (by simp only [List.length_cons]; omega)) (by simp -implicitDefEqProofs only [go_sem]) fun η4 => ?_
      by_cases h4 : 400 < (varsS (seq :: kind :: l)).size
      · have h4' : (400 : Int) < (varsS (seq :: kind :: l)).size := by omega
        simp -implicitDefEqProofs only [go_sem, h4']
        simp [cutS, h4]
      · have h4' : ¬ (400 : Int) < (varsS (seq :: kind :: l)).size := by omega
        simp -implicitDefEqProofs only [go_sem, h4']
        simp [cutS, h4]
  · simp -implicitDefEqProofs only [go_sem, hs]
    simp [noteS, hs]
end Go.Proofs.Ytbplebgnkhmemaa
set_option linter.unusedSimpArgs false
set_option linter.unusedVariables false
set_option maxRecDepth 100000
namespace Go.Proofs.Ytbplebgnkhmemaa
open Go.RowKit Go.Sort
def c_spec_NoteText : C := .seq (.reg [⟨some 1, none, .box 92 12 (.t 0)⟩, ⟨some 2, none, .mov (.c (.string ⟨⟨[]⟩⟩))⟩]) (.seq (.reg [⟨some 7, none, .fa 1 (.t 1)⟩, ⟨some 8, none, .ld true 11 (.t 7)⟩, ⟨some 3, none, .alloc 90 [.int .i64 0, .int .i64 0, .int .i64 0, .int .i64 0, .int .i64 0, .int .i64 0, .slice none 0 0, .int .i64 0, .int .i64 0, .int .i64 0, .int .i64 0]⟩, ⟨none, none, .st 11 [none, none, none, none, none, none, some (2, 132), none, none, none, none] (.t 3) (.t 8)⟩]) (.seq (.seq (.reg [⟨some 9, none, .ld true 11 (.t 3)⟩, ⟨some 10, none, .call 97 [.t 9]⟩, ⟨some 11, none, .un .not (.t 10)⟩, ⟨some 12, none, .mov (.t 11)⟩, ⟨some 13, some (12, false), .fa 0 (.t 1)⟩, ⟨some 14, some (12, false), .ld false 1 (.t 13)⟩, ⟨some 15, some (12, false), .call 31 [.t 14, .c (.int .i64 1), .c (.int .i64 1000000000)]⟩, ⟨some 16, some (12, false), .un .not (.t 15)⟩, ⟨some 17, none, .pick (.t 12) (.c (.bool true)) (.t 16)⟩]) (.cond (.t 17) (.seq (.reg [⟨some 2, none, .mov (.c (.string ⟨⟨[]⟩⟩))⟩]) .ret) .skip)) (.seq (.reg [⟨some 18, none, .fa 0 (.t 1)⟩, ⟨some 19, none, .ld false 1 (.t 18)⟩, ⟨some 20, none, .fa 0 (.t 3)⟩, ⟨some 21, none, .ld false 1 (.t 20)⟩, ⟨some 22, none, .bsl 3 1 2 [none, none] [(0, 1, .t 19), (1, 1, .t 21)]⟩, ⟨some 4, none, .mov (.t 22)⟩]) (.seq (.seq (.reg [⟨some 23, none, .fa 0 (.t 3)⟩, ⟨some 24, none, .ld false 1 (.t 23)⟩]) (.blk 0 (.seq (.reg [⟨some 26, none, .bin .eql 3 (.t 24) (.c (.int .i64 1))⟩, ⟨some 25, none, .mov (.t 26)⟩]) (.cond (.t 25) (.seq (.reg [⟨some 27, none, .mov (.t 4)⟩, ⟨some 28, none, .fa 1 (.t 3)⟩, ⟨some 29, none, .ld false 1 (.t 28)⟩, ⟨some 30, none, .fa 2 (.t 3)⟩, ⟨some 31, none, .fa 0 (.t 30)⟩, ⟨some 32, none, .ld false 1 (.t 31)⟩, ⟨some 33, none, .fa 2 (.t 3)⟩, ⟨some 34, none, .fa 1 (.t 33)⟩, ⟨some 35, none, .ld false 1 (.t 34)⟩, ⟨some 36, none, .fa 2 (.t 3)⟩, ⟨some 37, none, .fa 2 (.t 36)⟩, ⟨some 38, none, .ld false 1 (.t 37)⟩, ⟨some 39, none, .fa 2 (.t 3)⟩, ⟨some 40, none, .fa 3 (.t 39)⟩, ⟨some 41, none, .ld false 1 (.t 40)⟩, ⟨some 42, none, .fa 2 (.t 3)⟩, ⟨some 43, none, .fa 4 (.t 42)⟩, ⟨some 44, none, .ld false 1 (.t 43)⟩, ⟨some 45, none, .len false (.t 44)⟩, ⟨some 46, none, .bsl 3 1 6 [none, none, none, none, none, none] [(0, 1, .t 29), (1, 1, .t 32), (2, 1, .t 35), (3, 1, .t 38), (4, 1, .t 41), (5, 1, .t 45)]⟩, ⟨some 47, none, .app 3 1 8 (.t 27) (.t 46)⟩, ⟨some 4, none, .mov (.t 47)⟩]) (.seq (.reg [⟨some 5, none, .mov (.c (.int .i64 0))⟩]) (.blk 1 (.loop (.seq (.seq (.reg [⟨some 48, none, .mov (.t 5)⟩, ⟨some 49, none, .fa 2 (.t 3)⟩, ⟨some 50, none, .fa 4 (.t 49)⟩, ⟨some 51, none, .ld false 1 (.t 50)⟩, ⟨some 52, none, .len false (.t 51)⟩, ⟨some 53, none, .bin .lss 3 (.t 48) (.t 52)⟩]) (.cond (.t 53) .skip (.exit 1))) (.seq (.blk 2 (.dreg (T.pure 0 ⟨some 56, none, .mov (.t 4)⟩ (T.pure 1 ⟨some 57, none, .fa 2 (.t 3)⟩ (T.pure 2 ⟨some 58, none, .fa 4 (.t 57)⟩ (T.pure 3 ⟨some 59, none, .ld false 1 (.t 58)⟩ (T.pure 4 ⟨some 60, none, .mov (.t 5)⟩ (T.pure 5 ⟨some 61, none, .ia 2 (.t 59) (.t 60)⟩ (T.pure 6 ⟨some 62, none, .fa 0 (.t 61)⟩ (T.pure 7 ⟨some 63, none, .ld false 1 (.t 62)⟩ (T.pure 8 ⟨some 64, none, .fa 2 (.t 3)⟩ (T.pure 9 ⟨some 65, none, .fa 4 (.t 64)⟩ (T.pure 10 ⟨some 66, none, .ld false 1 (.t 65)⟩ (T.pure 11 ⟨some 67, none, .mov (.t 5)⟩ (T.pure 12 ⟨some 68, none, .ia 2 (.t 66) (.t 67)⟩ (T.pure 13 ⟨some 69, none, .fa 1 (.t 68)⟩ (T.pure 14 ⟨some 70, none, .ld false 1 (.t 69)⟩ (T.alt ⟨some 71, none, .bsl 3 1 2 [none, none] [(0, 1, .t 63), (1, 1, .t 70)]⟩ [0] (T.alt ⟨some 72, none, .app 3 1 8 (.t 56) (.t 71)⟩ [] (T.pure 17 ⟨some 4, none, .mov (.t 72)⟩ T.done) T.stop) T.stop)))))))))))))))))) (.reg [⟨some 54, none, .mov (.t 5)⟩, ⟨some 55, none, .bin .add 3 (.t 54) (.c (.int .i64 1))⟩, ⟨some 5, none, .mov (.t 55)⟩]))))))) (.seq (.reg [⟨some 74, none, .bin .eql 3 (.t 24) (.c (.int .i64 2))⟩, ⟨some 73, none, .mov (.t 74)⟩]) (.cond (.t 73) (.reg [⟨some 75, none, .mov (.t 4)⟩, ⟨some 76, none, .fa 9 (.t 3)⟩, ⟨some 77, none, .ld false 1 (.t 76)⟩, ⟨some 78, none, .fa 10 (.t 3)⟩, ⟨some 79, none, .ld false 1 (.t 78)⟩, ⟨some 80, none, .bsl 3 1 2 [none, none] [(0, 1, .t 77), (1, 1, .t 79)]⟩, ⟨some 81, none, .app 3 1 8 (.t 75) (.t 80)⟩, ⟨some 4, none, .mov (.t 81)⟩]) (.seq (.seq (.reg [⟨some 83, none, .bin .eql 3 (.t 24) (.c (.int .i64 3))⟩, ⟨some 82, none, .mov (.t 83)⟩]) (.cond (.t 82) .skip (.reg [⟨some 84, none, .bin .eql 3 (.t 24) (.c (.int .i64 4))⟩, ⟨some 82, none, .mov (.t 84)⟩]))) (.cond (.t 82) (.reg [⟨some 85, none, .mov (.t 4)⟩, ⟨some 86, none, .fa 1 (.t 3)⟩, ⟨some 87, none, .ld false 1 (.t 86)⟩, ⟨some 88, none, .fa 7 (.t 3)⟩, ⟨some 89, none, .ld false 1 (.t 88)⟩, ⟨some 90, none, .fa 8 (.t 3)⟩, ⟨some 91, none, .ld false 1 (.t 90)⟩, ⟨some 92, none, .bsl 3 1 3 [none, none, none] [(0, 1, .t 87), (1, 1, .t 89), (2, 1, .t 91)]⟩, ⟨some 93, none, .app 3 1 8 (.t 85) (.t 92)⟩, ⟨some 4, none, .mov (.t 93)⟩]) (.seq (.seq (.reg [⟨some 95, none, .bin .eql 3 (.t 24) (.c (.int .i64 6))⟩, ⟨some 94, none, .mov (.t 95)⟩]) (.cond (.t 94) .skip (.reg [⟨some 96, none, .bin .eql 3 (.t 24) (.c (.int .i64 7))⟩, ⟨some 94, none, .mov (.t 96)⟩]))) (.cond (.t 94) (.reg [⟨some 97, none, .mov (.t 4)⟩, ⟨some 98, none, .fa 1 (.t 3)⟩, ⟨some 99, none, .ld false 1 (.t 98)⟩, ⟨some 100, none, .bsl 3 1 1 [none] [(0, 1, .t 99)]⟩, ⟨some 101, none, .app 3 1 8 (.t 97) (.t 100)⟩, ⟨some 4, none, .mov (.t 101)⟩]) .skip)))))))))) (.seq (.reg [⟨some 102, none, .mov (.t 4)⟩, ⟨some 103, none, .call 58 [.t 102]⟩, ⟨some 6, none, .mov (.t 103)⟩]) (.seq (.seq (.reg [⟨some 104, none, .mov (.t 6)⟩, ⟨some 105, none, .len true (.t 104)⟩, ⟨some 106, none, .bin .gtr 3 (.t 105) (.c (.int .i64 400))⟩]) (.cond (.t 106) (.seq (.reg [⟨some 2, none, .mov (.c (.string ⟨⟨[]⟩⟩))⟩]) .ret) .skip)) (.seq (.reg [⟨some 107, none, .mov (.t 6)⟩, ⟨some 2, none, .mov (.t 107)⟩]) .ret)))))))
theorem code_spec_NoteText : fnC Try.prog Try.f51 = some (c_spec_NoteText, [.t 2], 108) := by kernel_rfl
set_option maxHeartbeats 4000000 in
theorem p_spec_NoteText (n : Nt) (hb : totNt n ≤ 2000000) : Pure Try.prog 51 [.agg (encNt n)] (.c (.val (.string (noteS n)))) := by
  refine pure_fn Try.func51 code_spec_NoteText (by simp) ?_
  unfold c_spec_NoteText
  obtain ⟨seq, kind, run, plan, task, tri, worker, draw⟩ := n
  have hb' : totDd ⟨kind, run, plan, task, tri, worker, draw⟩ ≤ 2000000 := hb
  have hp : plan.edges.length ≤ 2000000 := hb
  simp -implicitDefEqProofs only [go_sem, encNt, encDd, encPl]
  intro b1 b3
  refine run_call (p_spec_DeedOk ⟨kind, run, plan, task, tri, worker, draw⟩ hb') (by simp -implicitDefEqProofs only [go_sem, encDd, encPl]) fun η => ?_
  cases hd : deedB ⟨kind, run, plan, task, tri, worker, draw⟩
  · simp -implicitDefEqProofs only [go_sem]
    simp [noteS, hd]
  simp -implicitDefEqProofs only [go_sem]
  refine run_call (p_spec_l01In seq 1 1000000000) (by simp -implicitDefEqProofs only [go_sem]) fun η => ?_
  by_cases hs : 1 ≤ seq ∧ seq ≤ 1000000000
  · have e : noteS ⟨seq, kind, run, plan, task, tri, worker, draw⟩ = cutS (varsS (seq :: kind :: numsL ⟨kind, run, plan, task, tri, worker, draw⟩)) := by simp [noteS, hd, hs, noteL]
    rw [e]
    by_cases k1 : kind = 1
    · subst k1
      have e2 : seq :: 1 :: numsL ⟨1, run, plan, task, tri, worker, draw⟩ = [seq, 1, run, plan.prio, plan.most, plan.wait, plan.tasks, (plan.edges.length : Int)] ++ plan.edges.flatMap fun e => [e.src, e.dst] := rfl
      generalize seq :: 1 :: numsL ⟨1, run, plan, task, tri, worker, draw⟩ = L at *
      simp -implicitDefEqProofs only [go_sem, hs, encDd, encPl]
      intro η1 η2
      refine ⟨by unfold maxLen; omega, fun η3 => ?_⟩
      refine wp_loop_ (fun s => ∃ (k g ty : Nat) (η : Heads), k ≤ plan.edges.length ∧ (g = 4700 ∨ g = 7200) ∧ s.t 3 = .c (.bp 300 0 b3) ∧ s.o 300 = .box b3 ty ((encDd ⟨1, run, plan, task, tri, worker, draw⟩).map fun x => .a x.toRo) ∧ s.t 5 = .c (.v (.int .i64 k)) ∧ s.t 4 = .c (.h g 0 [] (η [])) ∧
        s.o g = .loose (encInts ([seq, 1, run, plan.prio, plan.most, plan.wait, plan.tasks, (plan.edges.length : Int)] ++ (plan.edges.take k).flatMap fun e => [e.src, e.dst])) η) (fun s => plan.edges.length - s.n 5) ?_ ?_
      · exact ⟨0, 4700, 90, η3, Nat.zero_le _, .inl rfl, by simp -implicitDefEqProofs only [go_sem] <;> rfl, by simp -implicitDefEqProofs only [go_sem] <;> rfl, by simp -implicitDefEqProofs only [go_sem] <;> rfl, by simp -implicitDefEqProofs only [go_sem] <;> rfl, by simp -implicitDefEqProofs only [go_sem] <;> rfl⟩
      · rintro s ⟨k, g, ty, η, hk, hg, h3, ho3, h5, h4, hob⟩
        by_cases hlt : k < plan.edges.length
        · have hlt' : (k : Int) < plan.edges.length := by omega
          obtain ⟨x, hx⟩ := get_some hlt
          have hw : IntKind.i64.wrap ((k : Int) + 1) = ((k + 1 : Nat) : Int) := wrap64 (by omega) (by omega)
          generalize hl : [seq, 1, run, plan.prio, plan.most, plan.wait, plan.tasks, (plan.edges.length : Int)] ++ (plan.edges.take k).flatMap (fun e => [e.src, e.dst]) = l at hob
          have hll : l.length = 8 + 2 * k := by rw [← hl, List.length_append, fl_len, List.length_take, Nat.min_eq_left hk]; rfl
          have h1' : l.length + 2 ≤ maxLen := by unfold maxLen; omega
          have h2' : (l.length + 2) * 8 ≤ 140737488355328 := by omega
          have hnext : l ++ [x.src, x.dst] = [seq, 1, run, plan.prio, plan.most, plan.wait, plan.tasks, (plan.edges.length : Int)] ++ (plan.edges.take (k + 1)).flatMap (fun e => [e.src, e.dst]) := by
            rw [← hl, List.take_add_one, hx]; simp
          rcases hg with rfl | rfl
          all_goals
            simp -implicitDefEqProofs only [go_sem, h3, ho3, h5, h4, hob, encDd, encPl, hlt, hlt', elem_encEds hx, encEd, h1', h2', hw, ints_snoc2]
            intro η6 η7
            refine ⟨⟨k + 1, 7200, ty, η7, ?_⟩, ?_⟩
            · and_intros <;> first | rfl | omega | exact .inr rfl | (rw [hnext]; rfl)
            · rw [st_n (k := .i64) (n := ((k + 1 : Nat) : Int)) (by simp -implicitDefEqProofs only [go_sem]), st_n h5]; omega
        · have hlt' : ¬ (k : Int) < plan.edges.length := by omega
          rw [List.take_of_length_le (by omega), ← e2] at hob
          have hL : L.length ≤ 20000000 := by rw [e2, List.length_append, fl_len]; simp only [List.length_cons, List.length_nil]; omega
          rcases hg with rfl | rfl
          all_goals
            simp -implicitDefEqProofs only [go_sem, h3, ho3, h5, h4, hob, encDd, encPl, hlt']
            refine run_call (p_spec_l02Vars L hL) (by simp -implicitDefEqProofs only [go_sem, hob]) fun η4 => ?_
            by_cases h4 : 400 < (varsS L).size
            · have h4' : (400 : Int) < (varsS L).size := by omega
              simp -implicitDefEqProofs only [go_sem, h4']
              simp [cutS, h4]
            · have h4' : ¬ (400 : Int) < (varsS L).size := by omega
              simp -implicitDefEqProofs only [go_sem, h4']
              simp [cutS, h4]
    · have g1 : (kind == 1) = false := by simpa using k1
      by_cases k2 : kind = 2
      · subst k2
        simp -implicitDefEqProofs only [go_sem, hs, encDd, encPl]
        intros
        refine ⟨by unfold maxLen; omega, fun η5 => ?_⟩
        have e1 : seq :: 2 :: numsL ⟨2, run, plan, task, tri, worker, draw⟩ = [seq, 2, worker, draw] := rfl
        rw [e1]
        refine run_call (p_spec_l02Vars [seq, 2, worker, draw] (by simp only [List.length_cons, List.length_nil]; omega)) (by simp -implicitDefEqProofs only [go_sem]; rfl) fun η4 => ?_
        by_cases h4 : 400 < (varsS [seq, 2, worker, draw]).size
        · have h4' : (400 : Int) < (varsS [seq, 2, worker, draw]).size := by omega
          simp -implicitDefEqProofs only [go_sem, h4']
          simp [cutS, h4]
        · have h4' : ¬ (400 : Int) < (varsS [seq, 2, worker, draw]).size := by omega
          simp -implicitDefEqProofs only [go_sem, h4']
          simp [cutS, h4]
      · have g2 : (kind == 2) = false := by simpa using k2
        by_cases k3 : kind = 3
        · subst k3
          simp -implicitDefEqProofs only [go_sem, hs, encDd, encPl]
          intros
          refine ⟨by unfold maxLen; omega, fun η5 => ?_⟩
          have e1 : seq :: 3 :: numsL ⟨3, run, plan, task, tri, worker, draw⟩ = [seq, 3, run, task, tri] := rfl
          rw [e1]
          refine run_call (p_spec_l02Vars [seq, 3, run, task, tri] (by simp only [List.length_cons, List.length_nil]; omega)) (by simp -implicitDefEqProofs only [go_sem]; rfl) fun η4 => ?_
          by_cases h4 : 400 < (varsS [seq, 3, run, task, tri]).size
          · have h4' : (400 : Int) < (varsS [seq, 3, run, task, tri]).size := by omega
            simp -implicitDefEqProofs only [go_sem, h4']
            simp [cutS, h4]
          · have h4' : ¬ (400 : Int) < (varsS [seq, 3, run, task, tri]).size := by omega
            simp -implicitDefEqProofs only [go_sem, h4']
            simp [cutS, h4]
        · have g3 : (kind == 3) = false := by simpa using k3
          by_cases k4 : kind = 4
          · subst k4
            simp -implicitDefEqProofs only [go_sem, hs, encDd, encPl]
            intros
            refine ⟨by unfold maxLen; omega, fun η5 => ?_⟩
            have e1 : seq :: 4 :: numsL ⟨4, run, plan, task, tri, worker, draw⟩ = [seq, 4, run, task, tri] := rfl
            rw [e1]
            refine run_call (p_spec_l02Vars [seq, 4, run, task, tri] (by simp only [List.length_cons, List.length_nil]; omega)) (by simp -implicitDefEqProofs only [go_sem]; rfl) fun η4 => ?_
            by_cases h4 : 400 < (varsS [seq, 4, run, task, tri]).size
            · have h4' : (400 : Int) < (varsS [seq, 4, run, task, tri]).size := by omega
              simp -implicitDefEqProofs only [go_sem, h4']
              simp [cutS, h4]
            · have h4' : ¬ (400 : Int) < (varsS [seq, 4, run, task, tri]).size := by omega
              simp -implicitDefEqProofs only [go_sem, h4']
              simp [cutS, h4]
          · have g4 : (kind == 4) = false := by simpa using k4
            by_cases k6 : kind = 6
            · subst k6
              simp -implicitDefEqProofs only [go_sem, hs, encDd, encPl]
              intros
              refine ⟨by unfold maxLen; omega, fun η5 => ?_⟩
              have e1 : seq :: 6 :: numsL ⟨6, run, plan, task, tri, worker, draw⟩ = [seq, 6, run] := rfl
              rw [e1]
              refine run_call (p_spec_l02Vars [seq, 6, run] (by simp only [List.length_cons, List.length_nil]; omega)) (by simp -implicitDefEqProofs only [go_sem]; rfl) fun η4 => ?_
              by_cases h4 : 400 < (varsS [seq, 6, run]).size
              · have h4' : (400 : Int) < (varsS [seq, 6, run]).size := by omega
                simp -implicitDefEqProofs only [go_sem, h4']
                simp [cutS, h4]
              · have h4' : ¬ (400 : Int) < (varsS [seq, 6, run]).size := by omega
                simp -implicitDefEqProofs only [go_sem, h4']
                simp [cutS, h4]
            · have g6 : (kind == 6) = false := by simpa using k6
              by_cases k7 : kind = 7
              · subst k7
                simp -implicitDefEqProofs only [go_sem, hs, encDd, encPl]
                intros
                refine ⟨by unfold maxLen; omega, fun η5 => ?_⟩
                have e1 : seq :: 7 :: numsL ⟨7, run, plan, task, tri, worker, draw⟩ = [seq, 7, run] := rfl
                rw [e1]
                refine run_call (p_spec_l02Vars [seq, 7, run] (by simp only [List.length_cons, List.length_nil]; omega)) (by simp -implicitDefEqProofs only [go_sem]; rfl) fun η4 => ?_
                by_cases h4 : 400 < (varsS [seq, 7, run]).size
                · have h4' : (400 : Int) < (varsS [seq, 7, run]).size := by omega
                  simp -implicitDefEqProofs only [go_sem, h4']
                  simp [cutS, h4]
                · have h4' : ¬ (400 : Int) < (varsS [seq, 7, run]).size := by omega
                  simp -implicitDefEqProofs only [go_sem, h4']
                  simp [cutS, h4]
              · have g7 : (kind == 7) = false := by simpa using k7
                have e1 : numsL ⟨kind, run, plan, task, tri, worker, draw⟩ = [] := by simp [numsL, k1, k2, k3, k4, k6, k7]
                rw [e1]
                simp -implicitDefEqProofs only [go_sem, hs, encDd, encPl, g1, g2, g3, g4, g6, g7]
                intros
                refine run_call (p_spec_l02Vars [seq, kind] (by simp only [List.length_cons, List.length_nil]; omega)) (by simp -implicitDefEqProofs only [go_sem]; rfl) fun η4 => ?_
                by_cases h4 : 400 < (varsS [seq, kind]).size
                · have h4' : (400 : Int) < (varsS [seq, kind]).size := by omega
                  simp -implicitDefEqProofs only [go_sem, h4']
                  simp [cutS, h4]
                · have h4' : ¬ (400 : Int) < (varsS [seq, kind]).size := by omega
                  simp -implicitDefEqProofs only [go_sem, h4']
                  simp [cutS, h4]
  · simp -implicitDefEqProofs only [go_sem, hs]
    simp [noteS, hs]
end Go.Proofs.Ytbplebgnkhmemaa
