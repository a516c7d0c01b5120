/- Texts for the law FnExactRestart. -/
import Derived.Test.YtnhdcbhcocgjhaaGreatQRestartD
import Derived.Test.YtnhdcbhcocgjhaaGreatRows
import Derived.ProofKit
import Derived.Deep.Slices
import Derived.ChangeSame
import Derived.Deep.RegionWith
import Derived.Test.YtnhdcbhcocgjhaaGreatProg
set_option linter.unusedSimpArgs false
set_option linter.unusedVariables false
set_option maxRecDepth 100000
namespace Go.Proofs.YtnhdcbhcocgjhaaGreat
open Go.RowKit Go.Sort
theorem setAt_app {α : Type} {A B C v : List α} {o j : Nat} (ho : o = A.length + j) (hj : j + v.length ≤ B.length) : setAt (A ++ (B ++ C)) o v = A ++ (setAt B j v ++ C) := by
  subst ho
  rw [setAt_eq _ _ _ (by simp only [List.length_append]; omega), setAt_eq _ _ _ hj]
  have h1 : (A ++ (B ++ C)).take (A.length + j) = A ++ B.take j := by
    rw [List.take_append, List.take_of_length_le (by omega), Nat.add_sub_cancel_left, List.take_append_of_le_length (by omega)]
  have h2 : (A ++ (B ++ C)).drop (A.length + j + v.length) = B.drop (j + v.length) ++ C := by
    rw [List.drop_append, List.drop_eq_nil_of_le (by omega), List.nil_append, show A.length + j + v.length - A.length = j + v.length by omega, List.drop_append_of_le_length (by omega)]
  rw [h1, h2]
  simp only [List.append_assoc]
section
variable {α : Type} {enc : α → List D} {size ty : Nat} {l : List α} {k : Nat} {x : α}
theorem split_flat (hx : l[k]? = some x) : l.flatMap enc = (l.take k).flatMap enc ++ (enc x ++ (l.drop (k + 1)).flatMap enc) := by
  obtain ⟨hk, he⟩ := List.getElem?_eq_some_iff.1 hx
  have e : l = l.take k ++ x :: l.drop (k + 1) := by rw [← he, ← List.drop_eq_getElem_cons hk, List.take_append_drop]
  have h2 := congrArg (List.flatMap enc) e
  rw [h2, List.flatMap_append, List.flatMap_cons]
theorem take_len (hs : ∀ x, (enc x).length = size) (hx : l[k]? = some x) : ((l.take k).flatMap enc).length = k * size := by
  have hk := (List.getElem?_eq_some_iff.1 hx).1
  rw [len_flat hs, List.length_take, Nat.min_eq_left (by omega)]
theorem put1_flat (hs : ∀ x, (enc x).length = size) (hx : l[k]? = some x) {y : α} {j : Nat} {v : List D} (hy : setAt (enc x) j v = enc y) (hj : j + v.length ≤ size) : D.put [] (k * size + j) v (.sl size ty (l.flatMap enc)) = .sl size ty ((l.set k y).flatMap enc) := by
  have hk := (List.getElem?_eq_some_iff.1 hx).1
  have h2 : (l.set k y)[k]? = some y := List.getElem?_set_self hk
  have e1 : (l.set k y).take k = l.take k := List.take_set_of_le (Nat.le_refl k)
  have e2 : (l.set k y).drop (k + 1) = l.drop (k + 1) := List.drop_set_of_lt (Nat.lt_succ_self k)
  simp only [D.put]
  rw [split_flat hx, setAt_app (by rw [take_len hs hx]) (by rw [hs]; exact hj), hy, split_flat h2, e1, e2]
theorem at1_flat (hs : ∀ x, (enc x).length = size) (hx : l[k]? = some x) {j n : Nat} (hj : j + n ≤ size) : ((l.flatMap enc).drop (k * size + j)).take n = ((enc x).drop j).take n := by
  rw [split_flat hx, ← List.drop_drop, List.drop_left' (take_len hs hx), List.drop_append_of_le_length (by rw [hs]; omega), List.take_append_of_le_length (by rw [List.length_drop, hs]; omega)]
theorem in1_flat (hs : ∀ x, (enc x).length = size) (hx : l[k]? = some x) {j n : Nat} (hj : j + n ≤ size) : k * size + j + n ≤ (l.flatMap enc).length := by
  have hk := (List.getElem?_eq_some_iff.1 hx).1
  rw [len_flat hs]
  have : (k + 1) * size ≤ l.length * size := Nat.mul_le_mul_right _ hk
  rw [Nat.succ_mul] at this
  omega
end
section
variable {l : List Tk} {k : Nat} {x : Tk}
theorem put_tk0 (hx : l[k]? = some x) (v : Int) : D.put [] (k * 4) [.val (.int .i64 v)] (encTks l) = encTks (l.set k ⟨v, x.need, x.tri, x.til⟩) := put1_flat (enc := encTk) (size := 4) (fun _ => rfl) hx (j := 0) rfl (by simp)
theorem put_tk0' (hx : l[k]? = some x) (v : Int) : D.put [] (k * 4 + 0) [.val (.int .i64 v)] (encTks l) = encTks (l.set k ⟨v, x.need, x.tri, x.til⟩) := put1_flat (enc := encTk) (size := 4) (fun _ => rfl) hx (j := 0) rfl (by simp)
theorem put_tk3 (hx : l[k]? = some x) (v : Int) : D.put [] (k * 4 + 3) [.val (.int .i64 v)] (encTks l) = encTks (l.set k ⟨x.state, x.need, x.tri, v⟩) := put1_flat (enc := encTk) (size := 4) (fun _ => rfl) hx (j := 3) rfl (by simp)
theorem at_tk (hx : l[k]? = some x) : ((l.flatMap encTk).drop (k * 4)).take 4 = encTk x := at1_flat (enc := encTk) (size := 4) (fun _ => rfl) hx (j := 0) (n := 4) (by decide)
theorem at_tk0 (hx : l[k]? = some x) : ((l.flatMap encTk).drop (k * 4)).take 1 = [.val (.int .i64 x.state)] := at1_flat (enc := encTk) (size := 4) (fun _ => rfl) hx (j := 0) (n := 1) (by decide)
theorem at_tk0' (hx : l[k]? = some x) : ((l.flatMap encTk).drop (k * 4 + 0)).take 1 = [.val (.int .i64 x.state)] := at1_flat (enc := encTk) (size := 4) (fun _ => rfl) hx (j := 0) (n := 1) (by decide)
theorem at_tk2 (hx : l[k]? = some x) : ((l.flatMap encTk).drop (k * 4 + 2)).take 1 = [.val (.int .i64 x.tri)] := at1_flat (enc := encTk) (size := 4) (fun _ => rfl) hx (j := 2) (n := 1) (by decide)
theorem at_tk3 (hx : l[k]? = some x) : ((l.flatMap encTk).drop (k * 4 + 3)).take 1 = [.val (.int .i64 x.til)] := at1_flat (enc := encTk) (size := 4) (fun _ => rfl) hx (j := 3) (n := 1) (by decide)
theorem in_tk (hx : l[k]? = some x) : k * 4 + 4 ≤ (l.flatMap encTk).length := in1_flat (enc := encTk) (size := 4) (fun _ => rfl) hx (j := 0) (n := 4) (by decide)
theorem in_tk0 (hx : l[k]? = some x) : k * 4 + 1 ≤ (l.flatMap encTk).length := in1_flat (enc := encTk) (size := 4) (fun _ => rfl) hx (j := 0) (n := 1) (by decide)
theorem in_tk0' (hx : l[k]? = some x) : k * 4 + 0 + 1 ≤ (l.flatMap encTk).length := in1_flat (enc := encTk) (size := 4) (fun _ => rfl) hx (j := 0) (n := 1) (by decide)
theorem in_tk2 (hx : l[k]? = some x) : k * 4 + 2 + 1 ≤ (l.flatMap encTk).length := in1_flat (enc := encTk) (size := 4) (fun _ => rfl) hx (j := 2) (n := 1) (by decide)
theorem in_tk3 (hx : l[k]? = some x) : k * 4 + 3 + 1 ≤ (l.flatMap encTk).length := in1_flat (enc := encTk) (size := 4) (fun _ => rfl) hx (j := 3) (n := 1) (by decide)
end
section
variable {l : List En} {k : Nat} {x : En}
theorem at_en (hx : l[k]? = some x) : ((l.flatMap encEn).drop (k * 4)).take 4 = encEn x := at1_flat (enc := encEn) (size := 4) (fun _ => rfl) hx (j := 0) (n := 4) (by decide)
theorem at_en1 (hx : l[k]? = some x) : ((l.flatMap encEn).drop (k * 4 + 1)).take 1 = [.val (.int .i64 x.seq)] := at1_flat (enc := encEn) (size := 4) (fun _ => rfl) hx (j := 1) (n := 1) (by decide)
theorem in_en (hx : l[k]? = some x) : k * 4 + 4 ≤ (l.flatMap encEn).length := in1_flat (enc := encEn) (size := 4) (fun _ => rfl) hx (j := 0) (n := 4) (by decide)
theorem in_en1 (hx : l[k]? = some x) : k * 4 + 1 + 1 ≤ (l.flatMap encEn).length := in1_flat (enc := encEn) (size := 4) (fun _ => rfl) hx (j := 1) (n := 1) (by decide)
end
/-- A run in a box of one's own. -/
abbrev RnBox (b ty : Nat) (r : Rn) (e1 e2 : Heads) : Ob := .box b ty [.a (.v (.int .i64 r.id)), .a (.v (.int .i64 r.plan.prio)), .a (.v (.int .i64 r.plan.most)), .a (.v (.int .i64 r.plan.wait)), .a (.v (.int .i64 r.plan.tasks)), .own (encEds r.plan.edges) e1, .a (.v (.int .i64 r.state)), .own (encTks r.tasks) e2]
/-- A box for a run. -/
abbrev ZRn (b ty : Nat) : Ob := .box b ty [.a (.v (.int .i64 0)), .a (.v (.int .i64 0)), .a (.v (.int .i64 0)), .a (.v (.int .i64 0)), .a (.v (.int .i64 0)), .a (.v (.slice none 0 0)), .a (.v (.int .i64 0)), .a (.v (.slice none 0 0))]
theorem fold_encTks' (l : List Tk) : D.sl 4 tTk (l.flatMap encTk) = encTks l := rfl
def c_spec_l09Copy : C := .seq (.reg [⟨some 1, none, .box 80 8 (.t 0)⟩, ⟨some 2, none, .alloc 80 [.int .i64 0, .int .i64 0, .int .i64 0, .int .i64 0, .int .i64 0, .slice none 0 0, .int .i64 0, .slice none 0 0]⟩]) (.seq (.reg [⟨some 3, none, .fa 1 (.t 1)⟩, ⟨some 4, none, .ld true 5 (.t 3)⟩, ⟨some 5, none, .call 163 [.t 4]⟩, ⟨some 6, none, .fa 1 (.t 1)⟩, ⟨none, none, .st 5 [none, none, none, none, some (2, 182)] (.t 6) (.t 5)⟩]) (.seq (.reg [⟨some 7, none, .bsl 98 4 0 [] []⟩, ⟨some 8, none, .fa 7 (.t 1)⟩, ⟨some 9, none, .ld false 1 (.t 8)⟩, ⟨some 10, none, .app 98 4 32 (.t 7) (.t 9)⟩, ⟨some 11, none, .fa 7 (.t 1)⟩, ⟨none, none, .st 1 [some (4, 98)] (.t 11) (.t 10)⟩]) (.seq (.reg [⟨some 12, none, .ld true 8 (.t 1)⟩, ⟨none, none, .st 8 [none, none, none, none, none, some (2, 182), none, some (4, 98)] (.t 2) (.t 12)⟩]) .ret)))
theorem code_spec_l09Copy : fnC Tryz.prog Tryz.f105 = some (c_spec_l09Copy, [.cell 2 true 8], 13) := by kernel_rfl
def c_impl_copyRun : C := .seq (.reg [⟨some 1, none, .box 80 8 (.t 0)⟩, ⟨some 2, none, .alloc 80 [.int .i64 0, .int .i64 0, .int .i64 0, .int .i64 0, .int .i64 0, .slice none 0 0, .int .i64 0, .slice none 0 0]⟩]) (.seq (.reg [⟨some 3, none, .fa 1 (.t 1)⟩, ⟨some 4, none, .ld true 5 (.t 3)⟩, ⟨some 5, none, .call 168 [.t 4]⟩, ⟨some 6, none, .fa 1 (.t 1)⟩, ⟨none, none, .st 5 [none, none, none, none, some (2, 182)] (.t 6) (.t 5)⟩]) (.seq (.reg [⟨some 7, none, .fa 7 (.t 1)⟩, ⟨some 8, none, .ld false 1 (.t 7)⟩, ⟨some 9, none, .app 98 4 32 (.c (.slice none 0 0)) (.t 8)⟩, ⟨some 10, none, .fa 7 (.t 1)⟩, ⟨none, none, .st 1 [some (4, 98)] (.t 10) (.t 9)⟩]) (.seq (.reg [⟨some 11, none, .ld true 8 (.t 1)⟩, ⟨none, none, .st 8 [none, none, none, none, none, some (2, 182), none, some (4, 98)] (.t 2) (.t 11)⟩]) .ret)))
theorem code_impl_copyRun : fnC Tryz.prog Tryz.f114 = some (c_impl_copyRun, [.cell 2 true 8], 12) := by kernel_rfl
theorem p_impl_copyRun (r : Rn) (hb : r.plan.edges.length ≤ 4000000) (ht : r.tasks.length ≤ 4000000) : Pure Tryz.prog 114 [.agg (encRn r)] (.agg (encRn r)) := by
  refine pure_fn Tryz.func114 code_impl_copyRun (by simp) ?_
  unfold c_impl_copyRun
  have h1 : r.tasks.length ≤ maxLen := by unfold maxLen; omega
  have h2 : r.tasks.length * 32 ≤ 140737488355328 := by omega
  simp -implicitDefEqProofs only [go_sem, encRn, encPl]
  intro b b2
  refine run_call (p_impl_copyPlan r.plan hb) (by simp -implicitDefEqProofs only [go_sem, encRn, encPl]) fun η => ?_
  simp -implicitDefEqProofs only [go_sem, encRn, encPl]
  simp -implicitDefEqProofs only [go_sem, encRn, encPl, h1, h2, fold_encTks']
theorem p_spec_l09Copy (r : Rn) (hb : r.plan.edges.length ≤ 4000000) (ht : r.tasks.length ≤ 4000000) : Pure Tryz.prog 105 [.agg (encRn r)] (.agg (encRn r)) := by
  refine pure_fn Tryz.func105 code_spec_l09Copy (by simp) ?_
  unfold c_spec_l09Copy
  have h1 : r.tasks.length ≤ maxLen := by unfold maxLen; omega
  have h2 : r.tasks.length * 32 ≤ 140737488355328 := by omega
  simp -implicitDefEqProofs only [go_sem, encRn, encPl]
  intro b b2
  refine run_call (p_spec_l06Copy r.plan hb) (by simp -implicitDefEqProofs only [go_sem, encRn, encPl]) fun η => ?_
  simp -implicitDefEqProofs only [go_sem, encRn, encPl]
  simp -implicitDefEqProofs only [go_sem, encRn, encPl, h1, h2, fold_encTks']
end Go.Proofs.YtnhdcbhcocgjhaaGreat
set_option linter.unusedSimpArgs false
set_option linter.unusedVariables false
set_option maxRecDepth 100000
namespace Go.Proofs.YtnhdcbhcocgjhaaGreat
open Go.RowKit Go.Sort
def c_spec_l09Runs : C := .seq (.reg [⟨some 2, none, .box 80 8 (.t 0)⟩, ⟨some 4, none, .mov (.c (.bool false))⟩]) (.seq (.reg [⟨some 5, none, .ld true 8 (.t 2)⟩, ⟨some 6, none, .call 132 [.t 5]⟩, ⟨some 7, none, .mov (.t 6)⟩, ⟨some 8, some (7, true), .mov (.t 1)⟩, ⟨some 9, some (7, true), .fa 7 (.t 2)⟩, ⟨some 10, some (7, true), .ld false 1 (.t 9)⟩, ⟨some 11, some (7, true), .len false (.t 10)⟩, ⟨some 12, some (7, true), .bin .sub 3 (.t 11) (.c (.int .i64 1))⟩, ⟨some 13, some (7, true), .call 72 [.t 8, .c (.int .i64 0), .t 12]⟩, ⟨some 14, none, .pick (.t 7) (.t 13) (.c (.bool false))⟩, ⟨some 15, none, .mov (.t 14)⟩, ⟨some 16, some (15, true), .fa 7 (.t 2)⟩, ⟨some 17, some (15, true), .ld false 1 (.t 16)⟩, ⟨some 18, some (15, true), .mov (.t 1)⟩, ⟨some 19, some (15, true), .ia 4 (.t 17) (.t 18)⟩, ⟨some 20, some (15, true), .fa 0 (.t 19)⟩, ⟨some 21, some (15, true), .ld false 1 (.t 20)⟩, ⟨some 22, some (15, true), .bin .eql 3 (.t 21) (.c (.int .i64 3))⟩, ⟨some 23, none, .pick (.t 15) (.t 22) (.c (.bool false))⟩, ⟨some 4, none, .mov (.t 23)⟩]) .ret)
theorem code_spec_l09Runs : fnC Tryz.prog Tryz.f108 = some (c_spec_l09Runs, [.t 4], 24) := by kernel_rfl
def c_spec_RunDone : C := .seq (.reg [⟨some 2, none, .box 80 8 (.t 0)⟩, ⟨some 4, none, .alloc 80 [.int .i64 0, .int .i64 0, .int .i64 0, .int .i64 0, .int .i64 0, .slice none 0 0, .int .i64 0, .slice none 0 0]⟩]) (.seq (.reg [⟨some 9, none, .ld true 8 (.t 2)⟩, ⟨some 10, none, .call 105 [.t 9]⟩, ⟨some 5, none, .alloc 80 [.int .i64 0, .int .i64 0, .int .i64 0, .int .i64 0, .int .i64 0, .slice none 0 0, .int .i64 0, .slice none 0 0]⟩, ⟨none, none, .st 8 [none, none, none, none, none, some (2, 182), none, some (4, 98)] (.t 5) (.t 10)⟩]) (.seq (.seq (.reg [⟨some 11, none, .ld true 8 (.t 2)⟩, ⟨some 12, none, .mov (.t 1)⟩, ⟨some 13, none, .call 108 [.t 11, .t 12]⟩, ⟨some 14, none, .un .not (.t 13)⟩]) (.cond (.t 14) (.seq (.reg [⟨some 15, none, .ld true 8 (.t 5)⟩, ⟨none, none, .st 8 [none, none, none, none, none, some (2, 182), none, some (4, 98)] (.t 4) (.t 15)⟩]) .ret) .skip)) (.seq (.reg [⟨some 16, none, .fa 7 (.t 5)⟩, ⟨some 17, none, .ld false 1 (.t 16)⟩, ⟨some 18, none, .mov (.t 1)⟩, ⟨some 19, none, .ia 4 (.t 17) (.t 18)⟩, ⟨some 20, none, .fa 0 (.t 19)⟩, ⟨none, none, .st 1 [none] (.t 20) (.c (.int .i64 4))⟩]) (.seq (.reg [⟨some 21, none, .fa 7 (.t 5)⟩, ⟨some 22, none, .ld false 1 (.t 21)⟩, ⟨some 23, none, .mov (.t 1)⟩, ⟨some 24, none, .ia 4 (.t 22) (.t 23)⟩, ⟨some 25, none, .fa 3 (.t 24)⟩, ⟨none, none, .st 1 [none] (.t 25) (.c (.int .i64 0))⟩]) (.seq (.reg [⟨some 26, none, .fa 1 (.t 2)⟩, ⟨some 27, none, .ld true 5 (.t 26)⟩, ⟨some 28, none, .mov (.t 1)⟩, ⟨some 29, none, .call 109 [.t 27, .t 28]⟩, ⟨some 6, none, .mov (.t 29)⟩]) (.seq (.seq (.reg [⟨some 7, none, .mov (.c (.int .i64 0))⟩]) (.blk 0 (.loop (.seq (.seq (.reg [⟨some 30, none, .mov (.t 7)⟩, ⟨some 31, none, .mov (.t 6)⟩, ⟨some 32, none, .len false (.t 31)⟩, ⟨some 33, none, .bin .lss 3 (.t 30) (.t 32)⟩]) (.cond (.t 33) .skip (.exit 0))) (.seq (.blk 1 (.seq (.dreg (T.pure 0 ⟨some 36, none, .fa 7 (.t 5)⟩ (T.pure 1 ⟨some 37, none, .ld false 1 (.t 36)⟩ (T.pure 2 ⟨some 38, none, .mov (.t 6)⟩ (T.pure 3 ⟨some 39, none, .mov (.t 7)⟩ (T.pure 4 ⟨some 40, none, .ia 1 (.t 38) (.t 39)⟩ (T.pure 5 ⟨some 41, none, .ld false 1 (.t 40)⟩ (T.pure 6 ⟨some 42, none, .ia 4 (.t 37) (.t 41)⟩ (T.pure 7 ⟨some 43, none, .ld true 4 (.t 42)⟩ (T.alt ⟨some 8, none, .alloc 98 [.int .i64 0, .int .i64 0, .int .i64 0, .int .i64 0]⟩ [7, 6, 5, 4, 3, 2, 1, 0] (T.alt ⟨none, none, .st 4 [none, none, none, none] (.t 8) (.t 43)⟩ [] T.done T.stop) T.stop)))))))))) (.seq (.reg [⟨some 44, none, .fa 1 (.t 8)⟩, ⟨some 45, none, .ld false 1 (.t 44)⟩, ⟨some 46, none, .bin .sub 3 (.t 45) (.c (.int .i64 1))⟩, ⟨some 47, none, .fa 1 (.t 8)⟩, ⟨none, none, .st 1 [none] (.t 47) (.t 46)⟩]) (.seq (.seq (.reg [⟨some 48, none, .fa 1 (.t 8)⟩, ⟨some 49, none, .ld false 1 (.t 48)⟩, ⟨some 50, none, .bin .eql 3 (.t 49) (.c (.int .i64 0))⟩]) (.cond (.t 50) (.reg [⟨some 51, none, .fa 0 (.t 8)⟩, ⟨none, none, .st 1 [none] (.t 51) (.c (.int .i64 2))⟩]) .skip)) (.dreg (T.pure 0 ⟨some 52, none, .fa 7 (.t 5)⟩ (T.pure 1 ⟨some 53, none, .ld false 1 (.t 52)⟩ (T.pure 2 ⟨some 54, none, .mov (.t 6)⟩ (T.pure 3 ⟨some 55, none, .mov (.t 7)⟩ (T.pure 4 ⟨some 56, none, .ia 1 (.t 54) (.t 55)⟩ (T.pure 5 ⟨some 57, none, .ld false 1 (.t 56)⟩ (T.pure 6 ⟨some 58, none, .ld true 4 (.t 8)⟩ (T.pure 7 ⟨some 59, none, .ia 4 (.t 53) (.t 57)⟩ (T.alt ⟨none, none, .st 4 [none, none, none, none] (.t 59) (.t 58)⟩ [] T.done T.stop)))))))))))))) (.reg [⟨some 34, none, .mov (.t 7)⟩, ⟨some 35, none, .bin .add 3 (.t 34) (.c (.int .i64 1))⟩, ⟨some 7, none, .mov (.t 35)⟩])))))) (.seq (.reg [⟨some 60, none, .ld true 8 (.t 5)⟩, ⟨some 61, none, .call 110 [.t 60]⟩, ⟨some 62, none, .fa 6 (.t 5)⟩, ⟨none, none, .st 1 [none] (.t 62) (.t 61)⟩]) (.seq (.reg [⟨some 63, none, .ld true 8 (.t 5)⟩, ⟨none, none, .st 8 [none, none, none, none, none, some (2, 182), none, some (4, 98)] (.t 4) (.t 63)⟩]) .ret))))))))
theorem code_spec_RunDone : fnC Tryz.prog Tryz.f47 = some (c_spec_RunDone, [.cell 4 true 8], 64) := by kernel_rfl
set_option maxHeartbeats 4000000 in
theorem p_spec_l09Runs (r : Rn) (t : Int) : Pure Tryz.prog 108 [.agg (encRn r), .c (.val (.int .i64 t))] (.c (.val (.bool (runsB r t)))) := by
  refine pure_fn Tryz.func108 code_spec_l09Runs (by simp) ?_
  unfold c_spec_l09Runs
  simp -implicitDefEqProofs only [go_sem, encRn, encPl]
  intro b
  refine run_call (p_spec_RunOk r) (by simp -implicitDefEqProofs only [go_sem, encRn, encPl]) fun η => ?_
  simp -implicitDefEqProofs only [go_sem, encRn, encPl]
  cases h : runOkB r
  · have hb : runsB r t = false := by simp [runsB, h]
    simp -implicitDefEqProofs only [go_sem, encRn, encPl, h, hb]
  have hP := runOk_iff.1 h
  obtain ⟨n, hn, hn1, h12, -⟩ := pf_0 hP.plan
  have hlen := hP.len
  have hw : IntKind.i64.wrap ((r.tasks.length : Int) - 1) = (r.tasks.length : Int) - 1 := wrap64 (by omega) (by omega)
  simp -implicitDefEqProofs only [go_sem, encRn, encPl, h, hw]
  refine run_call (p_spec_l01In t 0 (r.tasks.length - 1)) (by simp -implicitDefEqProofs only [go_sem, encRn, encPl]) fun η => ?_
  simp -implicitDefEqProofs only [go_sem, encRn, encPl]
  cases h1 : decide (0 ≤ t ∧ t ≤ (r.tasks.length : Int) - 1)
  · have hb : runsB r t = false := by simp [runsB, inB, h1]
    simp -implicitDefEqProofs only [go_sem, encRn, encPl, h1, hb]
  have h1' : 0 ≤ t ∧ t ≤ (r.tasks.length : Int) - 1 := by simpa using h1
  have h0t : 0 ≤ t := h1'.1
  have htl : t.toNat < r.tasks.length := by omega
  obtain ⟨x, hx⟩ := get_some htl
  have hb : runsB r t = (x.state == 3) := by simp [runsB, inB, h1', stT_get hx, h]
  simp -implicitDefEqProofs only [go_sem, encRn, encPl, h1, h0t, htl, elem_encTks hx, encTk, hb]
theorem stepD_eq {ts : List Tk} {v : Int} {y : Tk} (hy : ts[v.toNat]? = some y) : stepD ts v = ts.set v.toNat ⟨if IntKind.i64.wrap (y.need - 1) = 0 then 2 else y.state, IntKind.i64.wrap (y.need - 1), y.tri, y.til⟩ := by simp [stepD, hy]
theorem foldD_take {l : List Int} {k : Nat} {v : Int} (hv : l[k]? = some v) (ts : List Tk) : (l.take (k + 1)).foldl stepD ts = stepD ((l.take k).foldl stepD ts) v := by
  rw [List.take_add_one, hv]; simp
set_option maxHeartbeats 8000000 in
theorem p_spec_RunDone (r : Rn) (t : Int) (hsz : r.plan.edges.length ≤ 4000000) (ht : r.tasks.length ≤ 4000000) : Pure Tryz.prog 47 [.agg (encRn r), .c (.val (.int .i64 t))] (.agg (encRn (runDone r t))) := by
  refine pure_fn Tryz.func47 code_spec_RunDone (by simp) ?_
  unfold c_spec_RunDone
  simp -implicitDefEqProofs only [go_sem, encRn, encPl]
  intro b b4
  refine run_call (p_spec_l09Copy r hsz ht) (by simp -implicitDefEqProofs only [go_sem, encRn, encPl]) fun ηc => ?_
  simp -implicitDefEqProofs only [go_sem, encRn, encPl]
  intro b5
  refine run_call (p_spec_l09Runs r t) (by simp -implicitDefEqProofs only [go_sem, encRn, encPl]) fun η => ?_
  simp -implicitDefEqProofs only [go_sem, encRn, encPl]
  cases h : runsB r t
  · simp -implicitDefEqProofs only [go_sem, encRn, encPl, h, runDone_no h]
  obtain ⟨k, x, rfl, hx, hs, hP⟩ := runs_yes h
  obtain ⟨n, hn, hn1, h12, h30, hes, hnd, -⟩ := pf_0 hP.plan
  have hlen := hP.len
  have hkl := (List.getElem?_eq_some_iff.1 hx).1
  have h0t : (k : Int) ≥ 0 := by omega
  have hx2 : (r.tasks.set k ⟨4, x.need, x.tri, x.til⟩)[k]? = some ⟨4, x.need, x.tri, x.til⟩ := List.getElem?_set_self hkl
  have hkl2 : k < (r.tasks.set k ⟨4, x.need, x.tri, x.til⟩).length := by rw [List.length_set]; exact hkl
  have hn1' : Int.toNat (k : Int) = k := Int.toNat_natCast k
  simp -implicitDefEqProofs only [go_sem, encRn, encPl, h, hkl, h0t, put_tk0 hx, put_tk0' hx, in_tk0 hx, in_tk0' hx, hkl2, in_tk3 hx2, put_tk3 hx2, List.set_set]
  refine run_call (p_spec_l06Behind r.plan k n hn h12 h30) (by simp -implicitDefEqProofs only [go_sem, encRn, encPl]) fun ηb => ?_
  simp -implicitDefEqProofs only [go_sem, encRn, encPl]
  have hbl := behL_len hn h12 h30 k
  generalize hts : r.tasks.set k ⟨4, x.need, x.tri, 0⟩ = ts0 at *
  have htl : ts0.length = r.tasks.length := by rw [← hts, List.length_set]
  have hdn : doneT r.plan r.tasks k x = (behL r.plan k).foldl stepD ts0 := by rw [← hts]; rfl
  have hst0 : ∀ z ∈ ts0, 1 ≤ z.state ∧ z.state ≤ 6 := by rw [← hts]; exact set_st (q := fun s => 1 ≤ s ∧ s ≤ 6) (by simp) hP.st
  refine wp_loopW (fun i : Nat => St.of [(4, Bx 400 b4), (5, Bx 500 b5), (6, Hd 6 (ηb 0)), (7, Ni i)] [(400, ZRn b4 tRn), (500, RnBox b5 tRn ⟨r.id, r.plan, r.state, ((behL r.plan k).take i).foldl stepD ts0⟩ (ηc 5) (ηc 7)), (6, .loose (encInts (behL r.plan k)) (ηb 0))]) (fun i => i ≤ (behL r.plan k).length) (fun i => (behL r.plan k).length - i) 0 (by (try dsimp only); first | omega | (simp; done) | (and_intros <;> first | omega | simp)) (wk_of [some 400, some 500, some 2900] (by simp -implicitDefEqProofs only [go_sem, encRn, encPl, List.take_zero, List.foldl_nil] <;> and_intros <;> first | rfl | assumption)) ?_
  rintro j hj
  by_cases hlt : j < (behL r.plan k).length
  · have hlt' : (j : Int) < (behL r.plan k).length := by omega
    obtain ⟨v, hv⟩ := get_some hlt
    have hvb := behL_in hn (List.mem_of_getElem? hv)
    have hfl := foldD_len ((behL r.plan k).take j) ts0
    have hft := foldD_take hv ts0
    generalize ((behL r.plan k).take j).foldl stepD ts0 = ts at *
    have hvl : v.toNat < ts.length := by omega
    have hv0 := hvb.1
    obtain ⟨y, hy⟩ := get_some hvl
    have hw : IntKind.i64.wrap ((j : Int) + 1) = ((j + 1 : Nat) : Int) := wrap64 (by omega) (by omega)
    rw [stepD_eq hy] at hft
    simp -implicitDefEqProofs only [go_sem, encRn, encPl, hlt, hlt', at_encInts hv, in_encInts hlt, hvl, hv0, at_tk hy, in_tk hy, encTk]
    intro b8
    generalize IntKind.i64.wrap (y.need - 1) = nd at *
    cases hz : nd == 0
    · have hz' : ¬ nd = 0 := by simpa using hz
      rw [if_neg hz'] at hft
      simp -implicitDefEqProofs only [go_sem, encRn, encPl, hlt, hlt', at_encInts hv, in_encInts hlt, hvl, hv0, at_tk hy, in_tk hy, encTk, hz, put_tk4 y.state nd y.tri y.til hvl, hw]
      exact ⟨j + 1, by (try dsimp only); first | omega | assumption | (and_intros <;> first | omega | assumption), (wk_of [some 400, some 500, some 6] (by simp -implicitDefEqProofs only [go_sem, encRn, encPl, hft] <;> and_intros <;> first | rfl | assumption)), by (try dsimp only); omega⟩
    · have hz' : nd = 0 := by simpa using hz
      rw [if_pos hz'] at hft
      simp -implicitDefEqProofs only [go_sem, encRn, encPl, hlt, hlt', at_encInts hv, in_encInts hlt, hvl, hv0, at_tk hy, in_tk hy, encTk, hz, put_tk4 2 nd y.tri y.til hvl, hw]
      exact ⟨j + 1, by (try dsimp only); first | omega | assumption | (and_intros <;> first | omega | assumption), (wk_of [some 400, some 500, some 6] (by simp -implicitDefEqProofs only [go_sem, encRn, encPl, hft] <;> and_intros <;> first | rfl | assumption)), by (try dsimp only); omega⟩
  have hlt' : ¬ (j : Int) < (behL r.plan k).length := by omega
  rw [List.take_of_length_le (by omega)]
  have hds := done_state hP hx hs
  have hR : runDone r k = doneR r k x := runDone_yes hx h
  have hlD : (doneT r.plan r.tasks k x).length = r.tasks.length := doneT_len _ _ _ _
  have hstD : ∀ z ∈ doneT r.plan r.tasks k x, 1 ≤ z.state ∧ z.state ≤ 6 := doneT_st (q := fun s => 1 ≤ s ∧ s ≤ 6) (by decide) (by decide) hP.st
  rw [hR, ← hdn]
  have hrr : doneR r k x = ⟨r.id, r.plan, stOf (doneT r.plan r.tasks k x), doneT r.plan r.tasks k x⟩ := by rw [hds]; rfl
  rw [hrr]
  generalize doneT r.plan r.tasks k x = tD at *
  simp -implicitDefEqProofs only [go_sem, encRn, encPl, hlt']
  refine run_call (p_spec_l09State ⟨r.id, r.plan, r.state, tD⟩ hstD (by simp only; omega)) (by simp -implicitDefEqProofs only [go_sem, encRn, encPl]) fun η => ?_
  simp -implicitDefEqProofs only [go_sem, encRn, encPl]
end Go.Proofs.YtnhdcbhcocgjhaaGreat
set_option linter.unusedSimpArgs false
set_option linter.unusedVariables false
set_option maxRecDepth 100000
namespace Go.Proofs.YtnhdcbhcocgjhaaGreat
open Go.RowKit Go.Sort
def c_spec_l09Leave : C := .seq (.reg [⟨some 2, none, .box 80 8 (.t 0)⟩, ⟨some 4, none, .alloc 80 [.int .i64 0, .int .i64 0, .int .i64 0, .int .i64 0, .int .i64 0, .slice none 0 0, .int .i64 0, .slice none 0 0]⟩]) (.seq (.seq (.reg [⟨some 5, none, .mov (.c (.int .i64 0))⟩]) (.blk 0 (.loop (.seq (.seq (.reg [⟨some 7, none, .mov (.t 5)⟩, ⟨some 8, none, .fa 7 (.t 2)⟩, ⟨some 9, none, .ld false 1 (.t 8)⟩, ⟨some 10, none, .len false (.t 9)⟩, ⟨some 11, none, .bin .lss 3 (.t 7) (.t 10)⟩]) (.cond (.t 11) .skip (.exit 0))) (.seq (.blk 1 (.seq (.reg [⟨some 14, none, .fa 7 (.t 2)⟩, ⟨some 15, none, .ld false 1 (.t 14)⟩, ⟨some 16, none, .mov (.t 5)⟩, ⟨some 17, none, .ia 4 (.t 15) (.t 16)⟩, ⟨some 18, none, .ld true 4 (.t 17)⟩, ⟨some 6, none, .alloc 98 [.int .i64 0, .int .i64 0, .int .i64 0, .int .i64 0]⟩, ⟨none, none, .st 4 [none, none, none, none] (.t 6) (.t 18)⟩]) (.seq (.seq (.reg [⟨some 19, none, .fa 0 (.t 6)⟩, ⟨some 20, none, .ld false 1 (.t 19)⟩, ⟨some 21, none, .bin .neq 3 (.t 20) (.c (.int .i64 4))⟩, ⟨some 22, none, .mov (.t 21)⟩, ⟨some 23, some (22, true), .fa 0 (.t 6)⟩, ⟨some 24, some (22, true), .ld false 1 (.t 23)⟩, ⟨some 25, some (22, true), .bin .neq 3 (.t 24) (.c (.int .i64 5))⟩, ⟨some 26, none, .pick (.t 22) (.t 25) (.c (.bool false))⟩]) (.cond (.t 26) (.seq (.reg [⟨some 27, none, .fa 0 (.t 6)⟩, ⟨none, none, .st 1 [none] (.t 27) (.c (.int .i64 6))⟩]) (.reg [⟨some 28, none, .fa 3 (.t 6)⟩, ⟨none, none, .st 1 [none] (.t 28) (.c (.int .i64 0))⟩])) .skip)) (.reg [⟨some 29, none, .fa 7 (.t 2)⟩, ⟨some 30, none, .ld false 1 (.t 29)⟩, ⟨some 31, none, .mov (.t 5)⟩, ⟨some 32, none, .ld true 4 (.t 6)⟩, ⟨some 33, none, .ia 4 (.t 30) (.t 31)⟩, ⟨none, none, .st 4 [none, none, none, none] (.t 33) (.t 32)⟩])))) (.reg [⟨some 12, none, .mov (.t 5)⟩, ⟨some 13, none, .bin .add 3 (.t 12) (.c (.int .i64 1))⟩, ⟨some 5, none, .mov (.t 13)⟩])))))) (.seq (.reg [⟨some 34, none, .mov (.t 1)⟩, ⟨some 35, none, .fa 6 (.t 2)⟩, ⟨none, none, .st 1 [none] (.t 35) (.t 34)⟩]) (.seq (.reg [⟨some 36, none, .ld true 8 (.t 2)⟩, ⟨none, none, .st 8 [none, none, none, none, none, some (2, 182), none, some (4, 98)] (.t 4) (.t 36)⟩]) .ret)))
theorem code_spec_l09Leave : fnC Tryz.prog Tryz.f129 = some (c_spec_l09Leave, [.cell 4 true 8], 37) := by kernel_rfl
-- impl.leave: NOT UNDERSTOOD
-- impl.done: NOT UNDERSTOOD
-- impl.fails: NOT UNDERSTOOD
def c_spec_RunFails : C := .seq (.reg [⟨some 2, none, .box 80 8 (.t 0)⟩, ⟨some 4, none, .alloc 80 [.int .i64 0, .int .i64 0, .int .i64 0, .int .i64 0, .int .i64 0, .slice none 0 0, .int .i64 0, .slice none 0 0]⟩]) (.seq (.reg [⟨some 6, none, .ld true 8 (.t 2)⟩, ⟨some 7, none, .call 105 [.t 6]⟩, ⟨some 5, none, .alloc 80 [.int .i64 0, .int .i64 0, .int .i64 0, .int .i64 0, .int .i64 0, .slice none 0 0, .int .i64 0, .slice none 0 0]⟩, ⟨none, none, .st 8 [none, none, none, none, none, some (2, 182), none, some (4, 98)] (.t 5) (.t 7)⟩]) (.seq (.seq (.reg [⟨some 8, none, .ld true 8 (.t 2)⟩, ⟨some 9, none, .mov (.t 1)⟩, ⟨some 10, none, .call 108 [.t 8, .t 9]⟩, ⟨some 11, none, .un .not (.t 10)⟩]) (.cond (.t 11) (.seq (.reg [⟨some 12, none, .ld true 8 (.t 5)⟩, ⟨none, none, .st 8 [none, none, none, none, none, some (2, 182), none, some (4, 98)] (.t 4) (.t 12)⟩]) .ret) .skip)) (.seq (.reg [⟨some 13, none, .fa 7 (.t 5)⟩, ⟨some 14, none, .ld false 1 (.t 13)⟩, ⟨some 15, none, .mov (.t 1)⟩, ⟨some 16, none, .ia 4 (.t 14) (.t 15)⟩, ⟨some 17, none, .fa 3 (.t 16)⟩, ⟨none, none, .st 1 [none] (.t 17) (.c (.int .i64 0))⟩]) (.seq (.reg [⟨some 18, none, .fa 7 (.t 5)⟩, ⟨some 19, none, .ld false 1 (.t 18)⟩, ⟨some 20, none, .mov (.t 1)⟩, ⟨some 21, none, .ia 4 (.t 19) (.t 20)⟩, ⟨some 22, none, .fa 0 (.t 21)⟩, ⟨none, none, .st 1 [none] (.t 22) (.c (.int .i64 2))⟩]) (.seq (.seq (.dreg (T.pure 0 ⟨some 23, none, .fa 7 (.t 5)⟩ (T.pure 1 ⟨some 24, none, .ld false 1 (.t 23)⟩ (T.pure 2 ⟨some 25, none, .mov (.t 1)⟩ (T.pure 3 ⟨some 26, none, .ia 4 (.t 24) (.t 25)⟩ (T.pure 4 ⟨some 27, none, .fa 2 (.t 26)⟩ (T.pure 5 ⟨some 28, none, .ld false 1 (.t 27)⟩ (T.pure 6 ⟨some 29, none, .fa 1 (.t 2)⟩ (T.pure 7 ⟨some 30, none, .fa 1 (.t 29)⟩ (T.pure 8 ⟨some 31, none, .ld false 1 (.t 30)⟩ (T.pure 9 ⟨some 32, none, .bin .lss 3 (.t 28) (.t 31)⟩ T.done))))))))))) (.cond (.t 32) (.seq (.reg [⟨some 33, none, .ld true 8 (.t 5)⟩, ⟨none, none, .st 8 [none, none, none, none, none, some (2, 182), none, some (4, 98)] (.t 4) (.t 33)⟩]) .ret) .skip)) (.seq (.reg [⟨some 34, none, .fa 7 (.t 5)⟩, ⟨some 35, none, .ld false 1 (.t 34)⟩, ⟨some 36, none, .mov (.t 1)⟩, ⟨some 37, none, .ia 4 (.t 35) (.t 36)⟩, ⟨some 38, none, .fa 0 (.t 37)⟩, ⟨none, none, .st 1 [none] (.t 38) (.c (.int .i64 5))⟩]) (.seq (.reg [⟨some 39, none, .ld true 8 (.t 5)⟩, ⟨some 40, none, .call 129 [.t 39, .c (.int .i64 3)]⟩, ⟨none, none, .st 8 [none, none, none, none, none, some (2, 182), none, some (4, 98)] (.t 4) (.t 40)⟩]) .ret)))))))
theorem code_spec_RunFails : fnC Tryz.prog Tryz.f62 = some (c_spec_RunFails, [.cell 4 true 8], 41) := by kernel_rfl
def c_impl_leave : C := .seq (.reg [⟨some 6, none, .mov (.t 0)⟩, ⟨some 7, none, .fa 0 (.t 6)⟩, ⟨some 8, none, .fa 7 (.t 7)⟩, ⟨some 9, none, .ld false 1 (.t 8)⟩, ⟨some 10, none, .len false (.t 9)⟩, ⟨some 11, none, .mov (.c (.int .i64 0))⟩]) (.blk 0 (.loop (.seq (.reg [⟨some 12, none, .bin .lss 3 (.t 11) (.t 10)⟩]) (.seq (.cond (.t 12) .skip (.exit 0)) (.seq (.blk 1 (.seq (.reg [⟨some 13, none, .mov (.t 11)⟩, ⟨some 4, none, .mov (.t 13)⟩]) (.seq (.reg [⟨some 14, none, .mov (.t 0)⟩, ⟨some 15, none, .fa 0 (.t 14)⟩, ⟨some 16, none, .fa 7 (.t 15)⟩, ⟨some 17, none, .ld false 1 (.t 16)⟩, ⟨some 18, none, .mov (.t 4)⟩, ⟨some 19, none, .ia 4 (.t 17) (.t 18)⟩, ⟨some 5, none, .mov (.t 19)⟩]) (.seq (.reg [⟨some 20, none, .mov (.t 4)⟩, ⟨some 21, none, .mov (.t 1)⟩, ⟨some 22, none, .bin .neq 3 (.t 20) (.t 21)⟩, ⟨some 23, none, .mov (.t 22)⟩, ⟨some 24, some (23, true), .mov (.t 5)⟩, ⟨some 25, some (23, true), .fa 0 (.t 24)⟩, ⟨some 26, some (23, true), .fa 0 (.t 25)⟩, ⟨some 27, some (23, true), .ld false 1 (.t 26)⟩, ⟨some 28, some (23, true), .bin .neq 3 (.t 27) (.c (.int .i64 4))⟩, ⟨some 29, none, .pick (.t 23) (.t 28) (.c (.bool false))⟩]) (.cond (.t 29) (.seq (.reg [⟨some 30, none, .mov (.t 5)⟩, ⟨some 31, none, .fa 0 (.t 30)⟩, ⟨some 32, none, .fa 0 (.t 31)⟩, ⟨none, none, .st 1 [none] (.t 32) (.c (.int .i64 6))⟩]) (.reg [⟨some 33, none, .mov (.t 5)⟩, ⟨some 34, none, .fa 0 (.t 33)⟩, ⟨some 35, none, .fa 3 (.t 34)⟩, ⟨none, none, .st 1 [none] (.t 35) (.c (.int .i64 0))⟩])) .skip))))) (.reg [⟨some 36, none, .bin .add 3 (.t 11) (.c (.int .i64 1))⟩, ⟨some 11, none, .mov (.t 36)⟩]))))))
theorem code_impl_leave : fnC Tryz.prog Tryz.f130 = some (c_impl_leave, [], 37) := by kernel_rfl
def c_impl_fails : C := .seq (.reg [⟨some 5, none, .mov (.t 0)⟩, ⟨some 6, none, .fa 0 (.t 5)⟩, ⟨some 7, none, .fa 7 (.t 6)⟩, ⟨some 8, none, .ld false 1 (.t 7)⟩, ⟨some 9, none, .mov (.t 1)⟩, ⟨some 10, none, .ia 4 (.t 8) (.t 9)⟩, ⟨some 4, none, .mov (.t 10)⟩]) (.seq (.reg [⟨some 11, none, .mov (.t 4)⟩, ⟨some 12, none, .fa 0 (.t 11)⟩, ⟨some 13, none, .fa 3 (.t 12)⟩, ⟨none, none, .st 1 [none] (.t 13) (.c (.int .i64 0))⟩]) (.seq (.seq (.dreg (T.pure 0 ⟨some 14, none, .mov (.t 4)⟩ (T.pure 1 ⟨some 15, none, .fa 0 (.t 14)⟩ (T.pure 2 ⟨some 16, none, .fa 2 (.t 15)⟩ (T.pure 3 ⟨some 17, none, .ld false 1 (.t 16)⟩ (T.pure 4 ⟨some 18, none, .mov (.t 0)⟩ (T.pure 5 ⟨some 19, none, .fa 0 (.t 18)⟩ (T.pure 6 ⟨some 20, none, .fa 1 (.t 19)⟩ (T.pure 7 ⟨some 21, none, .fa 1 (.t 20)⟩ (T.pure 8 ⟨some 22, none, .ld false 1 (.t 21)⟩ (T.pure 9 ⟨some 23, none, .bin .lss 3 (.t 17) (.t 22)⟩ T.done))))))))))) (.cond (.t 23) (.seq (.reg [⟨some 24, none, .mov (.t 4)⟩, ⟨some 25, none, .fa 0 (.t 24)⟩, ⟨some 26, none, .fa 0 (.t 25)⟩, ⟨none, none, .st 1 [none] (.t 26) (.c (.int .i64 2))⟩]) .ret) .skip)) (.seq (.reg [⟨some 27, none, .mov (.t 4)⟩, ⟨some 28, none, .fa 0 (.t 27)⟩, ⟨some 29, none, .fa 0 (.t 28)⟩, ⟨none, none, .st 1 [none] (.t 29) (.c (.int .i64 5))⟩]) (.seq (.reg [⟨some 30, none, .mov (.t 0)⟩, ⟨some 31, none, .mov (.t 1)⟩, ⟨some 32, none, .call 130 [.t 30, .t 31]⟩]) (.reg [⟨some 33, none, .mov (.t 0)⟩, ⟨some 34, none, .fa 0 (.t 33)⟩, ⟨some 35, none, .fa 6 (.t 34)⟩, ⟨none, none, .st 1 [none] (.t 35) (.c (.int .i64 3))⟩])))))
theorem code_impl_fails : fnC Tryz.prog Tryz.f64 = some (c_impl_fails, [], 36) := by kernel_rfl
set_option maxHeartbeats 8000000 in
theorem p_spec_RunFails (r : Rn) (t : Int) (hsz : r.plan.edges.length ≤ 4000000) (ht : r.tasks.length ≤ 4000000) : Pure Tryz.prog 62 [.agg (encRn r), .c (.val (.int .i64 t))] (.agg (encRn (runFails r t))) := by
  refine pure_fn Tryz.func62 code_spec_RunFails (by simp) ?_
  unfold c_spec_RunFails
  simp -implicitDefEqProofs only [go_sem, encRn, encPl]
  intro b b4
  refine run_call (p_spec_l09Copy r hsz ht) (by simp -implicitDefEqProofs only [go_sem, encRn, encPl]) fun ηc => ?_
  simp -implicitDefEqProofs only [go_sem, encRn, encPl]
  intro b5
  refine run_call (p_spec_l09Runs r t) (by simp -implicitDefEqProofs only [go_sem, encRn, encPl]) fun η => ?_
  simp -implicitDefEqProofs only [go_sem, encRn, encPl]
  cases h : runsB r t
  · simp -implicitDefEqProofs only [go_sem, encRn, encPl, h, runFails_no h]
  obtain ⟨k, x, rfl, hx, hs, hP⟩ := runs_yes h
  obtain ⟨n, hn, hn1, h12, h30, hes, hnd, -⟩ := pf_0 hP.plan
  have hlen := hP.len
  have hkl := (List.getElem?_eq_some_iff.1 hx).1
  have h0t : (k : Int) ≥ 0 := by omega
  have hx2 : (r.tasks.set k ⟨x.state, x.need, x.tri, 0⟩)[k]? = some ⟨x.state, x.need, x.tri, 0⟩ := List.getElem?_set_self hkl
  have hx3 : (r.tasks.set k ⟨2, x.need, x.tri, 0⟩)[k]? = some ⟨2, x.need, x.tri, 0⟩ := List.getElem?_set_self hkl
  have hkl2 : k < (r.tasks.set k ⟨x.state, x.need, x.tri, 0⟩).length := by rw [List.length_set]; exact hkl
  have hkl3 : k < (r.tasks.set k ⟨2, x.need, x.tri, 0⟩).length := by rw [List.length_set]; exact hkl
  simp -implicitDefEqProofs only [go_sem, encRn, encPl, Nat.add_zero, h, hkl, h0t, put_tk3 hx, in_tk3 hx, hkl2, in_tk0 hx2, in_tk0' hx2, put_tk0 hx2, put_tk0' hx2, List.set_set, hkl3, at_tk2 hx3, in_tk2 hx3, in_tk0 hx3, in_tk0' hx3]
  by_cases hm : x.tri < r.plan.most
  · have hR : runFails r k = ⟨r.id, r.plan, r.state, r.tasks.set k ⟨2, x.need, x.tri, 0⟩⟩ := by rw [runFails_yes hx h, failsR, if_pos hm]
    simp -implicitDefEqProofs only [go_sem, encRn, encPl, Nat.add_zero, hm, hR]
  have hR : runFails r k = ⟨r.id, r.plan, 3, mapK leaveG (r.tasks.set k ⟨5, x.need, x.tri, 0⟩) r.tasks.length⟩ := by rw [runFails_yes hx h, failsR, if_neg hm]
  rw [hR]
  simp -implicitDefEqProofs only [go_sem, encRn, encPl, Nat.add_zero, hm, hkl3, h0t, put_tk0 hx3, put_tk0' hx3, in_tk0 hx3, in_tk0' hx3, List.set_set]
  have htl : (r.tasks.set k ⟨5, x.need, x.tri, 0⟩).length = r.tasks.length := by rw [List.length_set]
  generalize r.tasks.set k ⟨5, x.need, x.tri, 0⟩ = ts0 at *
  refine run_inl (inl_fn (β := 7000000) Tryz.func129 code_spec_l09Leave (by simp) ?_)
  unfold c_spec_l09Leave
  simp -implicitDefEqProofs only [go_sem, encRn, encPl]
  intro b72 b74
  refine wp_loopW (fun i : Nat => St.of [(1, Ni 3), (2, Bx 2 b72), (4, Bx 4 b74), (5, Ni i)] [(400, ZRn b4 tRn), (2, RnBox b72 tRn ⟨r.id, r.plan, r.state, mapK leaveG ts0 i⟩ (ηc 5) (ηc 7)), (4, ZRn b74 tRn)]) (fun i => i ≤ ts0.length) (fun i => ts0.length - i) 0 (by (try dsimp only); first | omega | (simp; done) | (and_intros <;> first | omega | simp)) (wk_of [some 400, some 700000200, some 700000400] (by simp -implicitDefEqProofs only [go_sem, encRn, encPl, mapK_0] <;> and_intros <;> first | rfl | assumption)) ?_
  rintro j hj
  have hml := mapK_len (f := leaveG) (ts := ts0) (k := j)
  by_cases hlt : j < ts0.length
  · have hlt' : (j : Int) < ts0.length := by omega
    have h0j : (j : Int) ≥ 0 := by omega
    obtain ⟨y, hy⟩ := get_some hlt
    have hyk := mapK_get (f := leaveG) hy
    have hset := mapK_set (f := leaveG) hy
    generalize mapK leaveG ts0 j = M at *
    have hlm : j < M.length := by omega
    have hw : IntKind.i64.wrap ((j : Int) + 1) = ((j + 1 : Nat) : Int) := wrap64 (by omega) (by omega)
    simp -implicitDefEqProofs only [go_sem, encRn, encPl, hml, hlt', h0j, hlt, at_tk hyk, in_tk hyk, encTk]
    intro b6
    cases hc4 : y.state != 4
    · have hst4 : y.state = 4 := by simpa using hc4
      have hg0 : leaveG j y = y := by simp [leaveG, hst4]
      have hg : leaveG j y = ⟨y.state, y.need, y.tri, y.til⟩ := hg0
      rw [hg] at hset
      simp -implicitDefEqProofs only [go_sem, encRn, encPl, Nat.add_zero, hml, hlt', h0j, hlt, hc4, put_tk4 y.state y.need y.tri y.til hlm, hset, in_tk hyk, hw]
      exact ⟨j + 1, by (try dsimp only); first | omega | assumption | (and_intros <;> first | omega | assumption), (wk_of [some 400, some 2, some 4] (by simp -implicitDefEqProofs only [go_sem, encRn, encPl] <;> and_intros <;> first | rfl | assumption)), by (try dsimp only); omega⟩
    cases hc5 : y.state != 5
    · have hst5 : y.state = 5 := by simpa using hc5
      have hg0 : leaveG j y = y := by simp [leaveG, hst5]
      have hg : leaveG j y = ⟨y.state, y.need, y.tri, y.til⟩ := hg0
      rw [hg] at hset
      simp -implicitDefEqProofs only [go_sem, encRn, encPl, Nat.add_zero, hml, hlt', h0j, hlt, hc4, hc5, put_tk4 y.state y.need y.tri y.til hlm, hset, in_tk hyk, hw]
      exact ⟨j + 1, by (try dsimp only); first | omega | assumption | (and_intros <;> first | omega | assumption), (wk_of [some 400, some 2, some 4] (by simp -implicitDefEqProofs only [go_sem, encRn, encPl] <;> and_intros <;> first | rfl | assumption)), by (try dsimp only); omega⟩
    · have hg : leaveG j y = ⟨6, y.need, y.tri, 0⟩ := by
        have h1 : ¬ y.state = 4 := by simpa using hc4
        have h2 : ¬ y.state = 5 := by simpa using hc5
        simp [leaveG, h1, h2]
      rw [hg] at hset
      simp -implicitDefEqProofs only [go_sem, encRn, encPl, Nat.add_zero, hml, hlt', h0j, hlt, hc4, hc5, put_tk4 6 y.need y.tri 0 hlm, hset, in_tk hyk, hw]
      exact ⟨j + 1, by (try dsimp only); first | omega | assumption | (and_intros <;> first | omega | assumption), (wk_of [some 400, some 2, some 4] (by simp -implicitDefEqProofs only [go_sem, encRn, encPl] <;> and_intros <;> first | rfl | assumption)), by (try dsimp only); omega⟩
  have hlt' : ¬ (j : Int) < ts0.length := by omega
  obtain rfl : j = ts0.length := by omega
  rw [← htl]
  generalize mapK leaveG ts0 ts0.length = M at *
  simp -implicitDefEqProofs only [go_sem, encRn, encPl, Nat.add_zero, hml, hlt']
end Go.Proofs.YtnhdcbhcocgjhaaGreat
set_option linter.unusedSimpArgs false
set_option linter.unusedVariables false
namespace Go.Proofs.YtnhdcbhcocgjhaaGreat
open Go.RowKit Go.Sort
theorem runs_le {y : Yd} (h : totYd y ≤ 2000000) : y.runs.length ≤ 2000000 := by
  simp only [totYd, totRns] at h; omega
theorem shelf_le {y : Yd} (h : totYd y ≤ 2000000) : y.shelf.length ≤ 2000000 := by
  simp only [totYd, totSh] at h; omega
theorem flat_le (l : List (List En)) : l.flatten.length ≤ totSh l := by
  induction l with
  | nil => simp
  | cons x l ih =>
    simp only [List.flatten_cons, List.length_append, totSh, List.length_cons, tsum, List.map_cons, List.sum_cons, totEnS] at ih ⊢
    omega
theorem flat_take {l : List (List En)} {k : Nat} {x : List En} (h : l[k]? = some x) : (l.take (k + 1)).flatten = (l.take k).flatten ++ x := by
  rw [List.take_add_one, h]; simp
theorem flat_take_le (l : List (List En)) (k : Nat) : (l.take k).flatten.length ≤ l.flatten.length := by
  have h : l.flatten = (l.take k).flatten ++ (l.drop k).flatten := by rw [← List.flatten_append, List.take_append_drop]
  rw [h, List.length_append]; omega
theorem shelf_flat {y : Yd} (h : totYd y ≤ 2000000) : y.shelf.flatten.length ≤ 2000000 := by
  have := flat_le y.shelf
  simp only [totYd] at h; omega
end Go.Proofs.YtnhdcbhcocgjhaaGreat
set_option linter.unusedSimpArgs false
set_option linter.unusedVariables false
set_option maxRecDepth 100000
namespace Go.Proofs.YtnhdcbhcocgjhaaGreat
open Go.RowKit Go.Sort
def c_impl_copyEntries : C := .seq (.reg [⟨some 2, none, .mov (.c (.slice none 0 0))⟩]) (.seq (.reg [⟨some 3, none, .mov (.t 0)⟩, ⟨some 4, none, .app 108 4 32 (.c (.slice none 0 0)) (.t 3)⟩, ⟨some 2, none, .mov (.t 4)⟩]) .ret)
theorem code_impl_copyEntries : fnC Tryz.prog Tryz.f113 = some (c_impl_copyEntries, [.t 2], 5) := by kernel_rfl
def c_impl_copyYard : C := .seq (.reg [⟨some 1, none, .box 30 4 (.t 0)⟩, ⟨some 2, none, .alloc 30 [.int .i64 0, .int .i64 0, .slice none 0 0, .slice none 0 0]⟩]) (.seq (.reg [⟨some 8, none, .fa 0 (.t 1)⟩, ⟨some 9, none, .ld false 1 (.t 8)⟩, ⟨some 10, none, .fa 1 (.t 1)⟩, ⟨some 11, none, .ld false 1 (.t 10)⟩, ⟨some 12, none, .bld [.int .i64 0, .int .i64 0, .slice none 0 0, .slice none 0 0] [(0, 1, .t 9), (1, 1, .t 11)]⟩, ⟨some 3, none, .alloc 30 [.int .i64 0, .int .i64 0, .slice none 0 0, .slice none 0 0]⟩, ⟨none, none, .st 4 [none, none, some (1, 103), some (8, 80)] (.t 3) (.t 12)⟩]) (.seq (.seq (.reg [⟨some 13, none, .fa 2 (.t 1)⟩, ⟨some 14, none, .ld false 1 (.t 13)⟩, ⟨some 15, none, .len false (.t 14)⟩, ⟨some 16, none, .mov (.c (.int .i64 0))⟩]) (.blk 0 (.loop (.seq (.reg [⟨some 17, none, .bin .lss 3 (.t 16) (.t 15)⟩]) (.seq (.cond (.t 17) .skip (.exit 0)) (.seq (.blk 1 (.seq (.reg [⟨some 18, none, .ia 1 (.t 14) (.t 16)⟩, ⟨some 19, none, .ld false 1 (.t 18)⟩, ⟨some 5, none, .mov (.t 19)⟩]) (.dreg (T.pure 0 ⟨some 20, none, .fa 2 (.t 3)⟩ (T.pure 1 ⟨some 21, none, .ld false 1 (.t 20)⟩ (T.pure 2 ⟨some 22, none, .mov (.t 5)⟩ (T.alt ⟨some 23, none, .call 113 [.t 22]⟩ [1, 0] (T.alt ⟨some 24, none, .bsl 103 1 1 [some (4, 108)] [(0, 1, .t 23)]⟩ [1, 0] (T.alt ⟨some 25, none, .app 103 1 24 (.t 21) (.t 24)⟩ [] (T.pure 6 ⟨some 26, none, .fa 2 (.t 3)⟩ (T.alt ⟨none, none, .st 1 [some (1, 103)] (.t 26) (.t 25)⟩ [] T.done T.stop)) T.stop) T.stop) T.stop))))))) (.reg [⟨some 27, none, .bin .add 3 (.t 16) (.c (.int .i64 1))⟩, ⟨some 16, none, .mov (.t 27)⟩]))))))) (.seq (.seq (.reg [⟨some 28, none, .fa 3 (.t 1)⟩, ⟨some 29, none, .ld false 1 (.t 28)⟩, ⟨some 30, none, .len false (.t 29)⟩, ⟨some 31, none, .mov (.c (.int .i64 0))⟩]) (.blk 2 (.loop (.seq (.reg [⟨some 32, none, .bin .lss 3 (.t 31) (.t 30)⟩]) (.seq (.cond (.t 32) .skip (.exit 2)) (.seq (.blk 3 (.seq (.reg [⟨some 33, none, .ia 8 (.t 29) (.t 31)⟩, ⟨some 34, none, .ld true 8 (.t 33)⟩, ⟨some 7, none, .alloc 80 [.int .i64 0, .int .i64 0, .int .i64 0, .int .i64 0, .int .i64 0, .slice none 0 0, .int .i64 0, .slice none 0 0]⟩, ⟨none, none, .st 8 [none, none, none, none, none, some (2, 182), none, some (4, 98)] (.t 7) (.t 34)⟩]) (.dreg (T.pure 0 ⟨some 35, none, .fa 3 (.t 3)⟩ (T.pure 1 ⟨some 36, none, .ld false 1 (.t 35)⟩ (T.pure 2 ⟨some 37, none, .ld true 8 (.t 7)⟩ (T.alt ⟨some 38, none, .call 114 [.t 37]⟩ [1, 0] (T.alt ⟨some 39, none, .bsl 80 8 1 [none, none, none, none, none, some (2, 182), none, some (4, 98)] [(0, 8, .t 38)]⟩ [1, 0] (T.alt ⟨some 40, none, .app 80 8 96 (.t 36) (.t 39)⟩ [] (T.pure 6 ⟨some 41, none, .fa 3 (.t 3)⟩ (T.alt ⟨none, none, .st 1 [some (8, 80)] (.t 41) (.t 40)⟩ [] T.done T.stop)) T.stop) T.stop) T.stop))))))) (.reg [⟨some 42, none, .bin .add 3 (.t 31) (.c (.int .i64 1))⟩, ⟨some 31, none, .mov (.t 42)⟩]))))))) (.seq (.reg [⟨some 43, none, .ld true 4 (.t 3)⟩, ⟨none, none, .st 4 [none, none, some (1, 103), some (8, 80)] (.t 2) (.t 43)⟩]) .ret))))
theorem code_impl_copyYard : fnC Tryz.prog Tryz.f50 = some (c_impl_copyYard, [.cell 2 true 4], 44) := by kernel_rfl
def c_spec_l10Copy : C := .seq (.reg [⟨some 1, none, .box 30 4 (.t 0)⟩, ⟨some 2, none, .alloc 30 [.int .i64 0, .int .i64 0, .slice none 0 0, .slice none 0 0]⟩]) (.seq (.reg [⟨some 6, none, .fa 0 (.t 1)⟩, ⟨some 7, none, .ld false 1 (.t 6)⟩, ⟨some 8, none, .fa 1 (.t 1)⟩, ⟨some 9, none, .ld false 1 (.t 8)⟩, ⟨some 10, none, .bld [.int .i64 0, .int .i64 0, .slice none 0 0, .slice none 0 0] [(0, 1, .t 7), (1, 1, .t 9)]⟩, ⟨some 3, none, .alloc 30 [.int .i64 0, .int .i64 0, .slice none 0 0, .slice none 0 0]⟩, ⟨none, none, .st 4 [none, none, some (1, 103), some (8, 80)] (.t 3) (.t 10)⟩]) (.seq (.seq (.reg [⟨some 4, none, .mov (.c (.int .i64 0))⟩]) (.blk 0 (.loop (.seq (.seq (.reg [⟨some 11, none, .mov (.t 4)⟩, ⟨some 12, none, .fa 2 (.t 1)⟩, ⟨some 13, none, .ld false 1 (.t 12)⟩, ⟨some 14, none, .len false (.t 13)⟩, ⟨some 15, none, .bin .lss 3 (.t 11) (.t 14)⟩]) (.cond (.t 15) .skip (.exit 0))) (.seq (.blk 1 (.dreg (T.pure 0 ⟨some 18, none, .fa 2 (.t 3)⟩ (T.pure 1 ⟨some 19, none, .ld false 1 (.t 18)⟩ (T.pure 3 ⟨some 21, none, .fa 2 (.t 1)⟩ (T.pure 4 ⟨some 22, none, .ld false 1 (.t 21)⟩ (T.pure 5 ⟨some 23, none, .mov (.t 4)⟩ (T.pure 6 ⟨some 24, none, .ia 1 (.t 22) (.t 23)⟩ (T.pure 7 ⟨some 25, none, .ld false 1 (.t 24)⟩ (T.alt ⟨some 20, none, .bsl 108 4 0 [] []⟩ [7, 6, 5, 4, 3, 1, 0] (T.alt ⟨some 26, none, .app 108 4 32 (.t 20) (.t 25)⟩ [1, 0] (T.alt ⟨some 27, none, .bsl 103 1 1 [some (4, 108)] [(0, 1, .t 26)]⟩ [1, 0] (T.alt ⟨some 28, none, .app 103 1 24 (.t 19) (.t 27)⟩ [] (T.pure 11 ⟨some 29, none, .fa 2 (.t 3)⟩ (T.alt ⟨none, none, .st 1 [some (1, 103)] (.t 29) (.t 28)⟩ [] T.done T.stop)) T.stop) T.stop) T.stop) T.stop)))))))))) (.reg [⟨some 16, none, .mov (.t 4)⟩, ⟨some 17, none, .bin .add 3 (.t 16) (.c (.int .i64 1))⟩, ⟨some 4, none, .mov (.t 17)⟩])))))) (.seq (.seq (.reg [⟨some 5, none, .mov (.c (.int .i64 0))⟩]) (.blk 2 (.loop (.seq (.seq (.reg [⟨some 30, none, .mov (.t 5)⟩, ⟨some 31, none, .fa 3 (.t 1)⟩, ⟨some 32, none, .ld false 1 (.t 31)⟩, ⟨some 33, none, .len false (.t 32)⟩, ⟨some 34, none, .bin .lss 3 (.t 30) (.t 33)⟩]) (.cond (.t 34) .skip (.exit 2))) (.seq (.blk 3 (.dreg (T.pure 0 ⟨some 37, none, .fa 3 (.t 3)⟩ (T.pure 1 ⟨some 38, none, .ld false 1 (.t 37)⟩ (T.pure 2 ⟨some 39, none, .fa 3 (.t 1)⟩ (T.pure 3 ⟨some 40, none, .ld false 1 (.t 39)⟩ (T.pure 4 ⟨some 41, none, .mov (.t 5)⟩ (T.pure 5 ⟨some 42, none, .ia 8 (.t 40) (.t 41)⟩ (T.pure 6 ⟨some 43, none, .ld true 8 (.t 42)⟩ (T.alt ⟨some 44, none, .call 105 [.t 43]⟩ [1, 0] (T.alt ⟨some 45, none, .bsl 80 8 1 [none, none, none, none, none, some (2, 182), none, some (4, 98)] [(0, 8, .t 44)]⟩ [1, 0] (T.alt ⟨some 46, none, .app 80 8 96 (.t 38) (.t 45)⟩ [] (T.pure 10 ⟨some 47, none, .fa 3 (.t 3)⟩ (T.alt ⟨none, none, .st 1 [some (8, 80)] (.t 47) (.t 46)⟩ [] T.done T.stop)) T.stop) T.stop) T.stop)))))))))) (.reg [⟨some 35, none, .mov (.t 5)⟩, ⟨some 36, none, .bin .add 3 (.t 35) (.c (.int .i64 1))⟩, ⟨some 5, none, .mov (.t 36)⟩])))))) (.seq (.reg [⟨some 48, none, .ld true 4 (.t 3)⟩, ⟨none, none, .st 4 [none, none, some (1, 103), some (8, 80)] (.t 2) (.t 48)⟩]) .ret))))
theorem code_spec_l10Copy : fnC Tryz.prog Tryz.f43 = some (c_spec_l10Copy, [.cell 2 true 4], 49) := by kernel_rfl
/-- A yard in a box of one's own. -/
abbrev YdBox (b ty : Nat) (now seq : Int) (sh : List (List En)) (e1 : Heads) (rn : List Rn) (e2 : Heads) : Ob := .box b ty [.a (.v (.int .i64 now)), .a (.v (.int .i64 seq)), .own (encSh sh) e1, .own (encRns rn) e2]
/-- A box for a yard. -/
abbrev ZYd (b ty : Nat) : Ob := .box b ty [.a (.v (.int .i64 0)), .a (.v (.int .i64 0)), .a (.v (.slice none 0 0)), .a (.v (.slice none 0 0))]
theorem fold_encEns' (l : List En) : D.sl 4 tEn (l.flatMap encEn) = encEns l := rfl
theorem sh_snoc (l : List (List En)) (x : List En) : D.sl 1 tEnS (l.flatMap (fun es => [encEns es]) ++ [encEns x]) = encSh (l ++ [x]) := by simp [encSh]
theorem rns_snoc (l : List Rn) (r : Rn) : D.sl 8 tRn (l.flatMap encRn ++ [.val (.int .i64 r.id), .val (.int .i64 r.plan.prio), .val (.int .i64 r.plan.most), .val (.int .i64 r.plan.wait), .val (.int .i64 r.plan.tasks), encEds r.plan.edges, .val (.int .i64 r.state), encTks r.tasks]) = encRns (l ++ [r]) := by simp [encRns, encRn, encPl]
theorem shelf1_le' {y : Yd} (ht : totYd y ≤ 2000000) {l : List En} (h : l ∈ y.shelf) : l.length ≤ 4000000 := by
  obtain ⟨k, hk, rfl⟩ := List.getElem_of_mem h
  have h1 := List.getElem?_eq_getElem hk
  have h2 := tsum_succ (tot := totEnS) h1
  have h3 := tsum_le totEnS y.shelf (k + 1)
  simp only [totYd, totSh, totEnS] at *
  omega
theorem run1_le {y : Yd} (ht : totYd y ≤ 2000000) {r : Rn} (h : r ∈ y.runs) : r.plan.edges.length ≤ 4000000 ∧ r.tasks.length ≤ 4000000 := by
  obtain ⟨k, hk, rfl⟩ := List.getElem_of_mem h
  have h1 := List.getElem?_eq_getElem hk
  have h2 := tsum_succ (tot := totRn) h1
  have h3 := tsum_le totRn y.runs (k + 1)
  simp only [totYd, totRns, totRn, totPl] at *
  omega
theorem p_impl_copyEntries (l : List En) (hl : l.length ≤ 4000000) : Pure Tryz.prog 113 [.c (encEns l)] (.c (encEns l)) := by
  refine pure_fn Tryz.func113 code_impl_copyEntries (by simp) ?_
  unfold c_impl_copyEntries
  have h1 : l.length ≤ maxLen := by unfold maxLen; omega
  have h2 : l.length * 32 ≤ 140737488355328 := by omega
  simp -implicitDefEqProofs only [go_sem, h1, h2, fold_encEns']
set_option maxHeartbeats 8000000 in
theorem p_impl_copyYard (y : Yd) (ht : totYd y ≤ 2000000) : Pure Tryz.prog 50 [.agg (encYd y)] (.agg (encYd y)) := by
  refine pure_fn Tryz.func50 code_impl_copyYard (by simp) ?_
  unfold c_impl_copyYard
  have hsl : y.shelf.length ≤ 2000000 := by simp only [totYd, totSh] at ht; omega
  have hrl := runs_le ht
  simp -implicitDefEqProofs only [go_sem, encYd]
  intro b1 b2 b3
  refine wp_loopW (fun i : Nat × Heads => St.of [(1, Bx 100 b1), (2, Bx 200 b2), (3, Bx 300 b3), (14, Ro (encSh y.shelf)), (15, Ni y.shelf.length), (16, Ni i.1)] [(100, Bi b1 _ (encYd y)), (200, ZYd b2 _), (300, .box b3 _ [.a (.v (.int .i64 y.now)), .a (.v (.int .i64 y.seq)), .own (encSh (y.shelf.take i.1)) i.2, .a (.v (.slice none 0 0))])]) (fun i => i.1 ≤ y.shelf.length) (fun i => y.shelf.length - i.1) (0, nilH) (by (try dsimp only); first | omega | (simp; done) | (and_intros <;> first | omega | simp)) (wk_of [some 100, some 200, some 300] (by simp -implicitDefEqProofs only [go_sem, encYd, List.take_zero] <;> and_intros <;> first | rfl | assumption)) ?_
  rintro ⟨k, η⟩ hk
  dsimp only at hk
  by_cases hlt : k < y.shelf.length
  · have hlt' : (k : Int) < y.shelf.length := by omega
    obtain ⟨l, hl⟩ := get_some hlt
    have hw : IntKind.i64.wrap ((k : Int) + 1) = ((k + 1 : Nat) : Int) := wrap64 (by omega) (by omega)
    have hm1 : k + 1 ≤ maxLen := by unfold maxLen; omega
    have hm2 : (k + 1) * 24 ≤ 140737488355328 := by omega
    have htk : (y.shelf.take k).length = k := by rw [List.length_take]; omega
    have hts : y.shelf.take (k + 1) = y.shelf.take k ++ [l] := by rw [List.take_add_one, hl]; rfl
    generalize y.shelf.take k = M at *
    simp -implicitDefEqProofs only [go_sem, encYd, hlt, hlt', elem_encSh hl]
    refine run_call (p_impl_copyEntries l (shelf1_le' ht (List.mem_of_getElem? hl))) (by simp -implicitDefEqProofs only [go_sem, encYd]) fun η => ?_
    simp -implicitDefEqProofs only [go_sem, encYd]
    simp -implicitDefEqProofs only [go_sem, htk, hm1, hm2, sh_snoc]
    intro η7 η8
    simp -implicitDefEqProofs only [go_sem, hw]
    exact ⟨(k + 1, η8), by (try dsimp only); first | omega | assumption | (and_intros <;> first | omega | assumption), (wk_of [some 100, some 200, some 300] (by simp -implicitDefEqProofs only [go_sem, encYd, hts] <;> and_intros <;> first | rfl | assumption)), by (try dsimp only); omega⟩
  have hlt' : ¬ (k : Int) < y.shelf.length := by omega
  rw [List.take_of_length_le (by omega)]
  simp -implicitDefEqProofs only [go_sem, encYd, hlt']
  refine wp_loopW (fun i : Nat × Heads => St.of [(1, Bx 100 b1), (2, Bx 200 b2), (3, Bx 300 b3), (29, Ro (encRns y.runs)), (30, Ni y.runs.length), (31, Ni i.1)] [(100, Bi b1 _ (encYd y)), (200, ZYd b2 _), (300, YdBox b3 _ y.now y.seq y.shelf η (y.runs.take i.1) i.2)]) (fun i => i.1 ≤ y.runs.length) (fun i => y.runs.length - i.1) (0, nilH) (by (try dsimp only); first | omega | (simp; done) | (and_intros <;> first | omega | simp)) (wk_of [some 100, some 200, some 300] (by simp -implicitDefEqProofs only [go_sem, encYd, List.take_zero] <;> and_intros <;> first | rfl | assumption)) ?_
  rintro ⟨j, η2⟩ hj
  dsimp only at hj
  by_cases hjl : j < y.runs.length
  · have hjl' : (j : Int) < y.runs.length := by omega
    obtain ⟨r, hr⟩ := get_some hjl
    have hw : IntKind.i64.wrap ((j : Int) + 1) = ((j + 1 : Nat) : Int) := wrap64 (by omega) (by omega)
    have hm1 : j + 1 ≤ maxLen := by unfold maxLen; omega
    have hm2 : (j + 1) * 96 ≤ 140737488355328 := by omega
    have hjk : (y.runs.take j).length = j := by rw [List.length_take]; omega
    have hjs : y.runs.take (j + 1) = y.runs.take j ++ [r] := by rw [List.take_add_one, hr]; rfl
    have hrb := run1_le ht (List.mem_of_getElem? hr)
    generalize y.runs.take j = M at *
    simp -implicitDefEqProofs only [go_sem, encYd, hjl, hjl', elem_encRns hr, encRn, encPl]
    intro b7
    refine run_call (p_impl_copyRun r hrb.1 hrb.2) (by simp -implicitDefEqProofs only [go_sem, encYd, encRn, encPl]) fun η => ?_
    simp -implicitDefEqProofs only [go_sem, encYd, encRn, encPl]
    simp -implicitDefEqProofs only [go_sem, hjk, hm1, hm2, rns_snoc]
    intro η7 η8
    simp -implicitDefEqProofs only [go_sem, hw]
    exact ⟨(j + 1, η8), by (try dsimp only); first | omega | assumption | (and_intros <;> first | omega | assumption), (wk_of [some 100, some 200, some 300] (by simp -implicitDefEqProofs only [go_sem, encYd, hjs] <;> and_intros <;> first | rfl | assumption)), by (try dsimp only); omega⟩
  have hjl' : ¬ (j : Int) < y.runs.length := by omega
  rw [List.take_of_length_le (by omega)]
  simp -implicitDefEqProofs only [go_sem, encYd, hjl']
set_option maxHeartbeats 8000000 in
theorem p_spec_l10Copy (y : Yd) (ht : totYd y ≤ 2000000) : Pure Tryz.prog 43 [.agg (encYd y)] (.agg (encYd y)) := by
  refine pure_fn Tryz.func43 code_spec_l10Copy (by simp) ?_
  unfold c_spec_l10Copy
  have hsl : y.shelf.length ≤ 2000000 := by simp only [totYd, totSh] at ht; omega
  have hrl := runs_le ht
  simp -implicitDefEqProofs only [go_sem, encYd]
  intro b1 b2 b3
  refine wp_loopW (fun i : Nat × Heads => St.of [(1, Bx 100 b1), (2, Bx 200 b2), (3, Bx 300 b3), (4, Ni i.1)] [(100, Bi b1 _ (encYd y)), (200, ZYd b2 _), (300, .box b3 _ [.a (.v (.int .i64 y.now)), .a (.v (.int .i64 y.seq)), .own (encSh (y.shelf.take i.1)) i.2, .a (.v (.slice none 0 0))])]) (fun i => i.1 ≤ y.shelf.length) (fun i => y.shelf.length - i.1) (0, nilH) (by (try dsimp only); first | omega | (simp; done) | (and_intros <;> first | omega | simp)) (wk_of [some 100, some 200, some 300] (by simp -implicitDefEqProofs only [go_sem, encYd, List.take_zero] <;> and_intros <;> first | rfl | assumption)) ?_
  rintro ⟨k, η⟩ hk
  dsimp only at hk
  by_cases hlt : k < y.shelf.length
  · have hlt' : (k : Int) < y.shelf.length := by omega
    have h0k : (k : Int) ≥ 0 := by omega
    obtain ⟨l, hl⟩ := get_some hlt
    have hll := shelf1_le' ht (List.mem_of_getElem? hl)
    have hw : IntKind.i64.wrap ((k : Int) + 1) = ((k + 1 : Nat) : Int) := wrap64 (by omega) (by omega)
    have hm1 : k + 1 ≤ maxLen := by unfold maxLen; omega
    have hm2 : (k + 1) * 24 ≤ 140737488355328 := by omega
    have hm3 : l.length ≤ maxLen := by unfold maxLen; omega
    have hm4 : l.length * 32 ≤ 140737488355328 := by omega
    have htk : (y.shelf.take k).length = k := by rw [List.length_take]; omega
    have hts : y.shelf.take (k + 1) = y.shelf.take k ++ [l] := by rw [List.take_add_one, hl]; rfl
    generalize y.shelf.take k = M at *
    simp -implicitDefEqProofs only [go_sem, encYd, hlt, hlt', h0k, elem_encSh hl, hm3, hm4, fold_encEns']
    intro η5 η6
    simp -implicitDefEqProofs only [go_sem, htk, hm1, hm2, hm3, hm4, fold_encEns', sh_snoc]
    intro η7 η8
    simp -implicitDefEqProofs only [go_sem, hw]
    exact ⟨(k + 1, η8), by (try dsimp only); first | omega | assumption | (and_intros <;> first | omega | assumption), (wk_of [some 100, some 200, some 300] (by simp -implicitDefEqProofs only [go_sem, encYd, hts] <;> and_intros <;> first | rfl | assumption)), by (try dsimp only); omega⟩
  have hlt' : ¬ (k : Int) < y.shelf.length := by omega
  rw [List.take_of_length_le (by omega)]
  simp -implicitDefEqProofs only [go_sem, encYd, hlt']
  refine wp_loopW (fun i : Nat × Heads => St.of [(1, Bx 100 b1), (2, Bx 200 b2), (3, Bx 300 b3), (5, Ni i.1)] [(100, Bi b1 _ (encYd y)), (200, ZYd b2 _), (300, YdBox b3 _ y.now y.seq y.shelf η (y.runs.take i.1) i.2)]) (fun i => i.1 ≤ y.runs.length) (fun i => y.runs.length - i.1) (0, nilH) (by (try dsimp only); first | omega | (simp; done) | (and_intros <;> first | omega | simp)) (wk_of [some 100, some 200, some 300] (by simp -implicitDefEqProofs only [go_sem, encYd, List.take_zero] <;> and_intros <;> first | rfl | assumption)) ?_
  rintro ⟨j, η2⟩ hj
  dsimp only at hj
  by_cases hjl : j < y.runs.length
  · have hjl' : (j : Int) < y.runs.length := by omega
    have h0j : (j : Int) ≥ 0 := by omega
    obtain ⟨r, hr⟩ := get_some hjl
    have hw : IntKind.i64.wrap ((j : Int) + 1) = ((j + 1 : Nat) : Int) := wrap64 (by omega) (by omega)
    have hm1 : j + 1 ≤ maxLen := by unfold maxLen; omega
    have hm2 : (j + 1) * 96 ≤ 140737488355328 := by omega
    have hjk : (y.runs.take j).length = j := by rw [List.length_take]; omega
    have hjs : y.runs.take (j + 1) = y.runs.take j ++ [r] := by rw [List.take_add_one, hr]; rfl
    have hrb := run1_le ht (List.mem_of_getElem? hr)
    generalize y.runs.take j = M at *
    simp -implicitDefEqProofs only [go_sem, encYd, hjl, hjl', h0j, elem_encRns hr, encRn, encPl]
    refine run_call (p_spec_l09Copy r hrb.1 hrb.2) (by simp -implicitDefEqProofs only [go_sem, encYd, encRn, encPl]) fun η => ?_
    simp -implicitDefEqProofs only [go_sem, encYd, encRn, encPl]
    simp -implicitDefEqProofs only [go_sem, hjk, hm1, hm2, rns_snoc]
    intro η7 η8
    simp -implicitDefEqProofs only [go_sem, hw]
    exact ⟨(j + 1, η8), by (try dsimp only); first | omega | assumption | (and_intros <;> first | omega | assumption), (wk_of [some 100, some 200, some 300] (by simp -implicitDefEqProofs only [go_sem, encYd, hjs] <;> and_intros <;> first | rfl | assumption)), by (try dsimp only); omega⟩
  have hjl' : ¬ (j : Int) < y.runs.length := by omega
  rw [List.take_of_length_le (by omega)]
  simp -implicitDefEqProofs only [go_sem, encYd, hjl']
end Go.Proofs.YtnhdcbhcocgjhaaGreat
namespace Go.Proofs.YtnhdcbhcocgjhaaGreat
open Go.RowKit

theorem iEd : (Tryz.prog.info? tEd).map (fun i => (i.zero, i.size, i.bytes)) = some (some (.agg #[.int .i64 0, .int .i64 0]), 2, 16) := by kernel_rfl
theorem slEd : SlT Tryz.prog tEdS tEd 2 16 [.int .i64 0, .int .i64 0] := ⟨by kernel_rfl, info_of iEd, rfl, by decide⟩
theorem szEd : (Tryz.prog.info? tEd).map (·.size) = some 2 := by kernel_rfl
theorem iEn : (Tryz.prog.info? tEn).map (fun i => (i.zero, i.size, i.bytes)) = some (some (.agg #[.int .i64 0, .int .i64 0, .int .i64 0, .int .i64 0]), 4, 32) := by kernel_rfl
theorem slEn : SlT Tryz.prog tEnS tEn 4 32 [.int .i64 0, .int .i64 0, .int .i64 0, .int .i64 0] := ⟨by kernel_rfl, info_of iEn, rfl, by decide⟩
theorem szEn : (Tryz.prog.info? tEn).map (·.size) = some 4 := by kernel_rfl
theorem iTk : (Tryz.prog.info? tTk).map (fun i => (i.zero, i.size, i.bytes)) = some (some (.agg #[.int .i64 0, .int .i64 0, .int .i64 0, .int .i64 0]), 4, 32) := by kernel_rfl
theorem slTk : SlT Tryz.prog tTkS tTk 4 32 [.int .i64 0, .int .i64 0, .int .i64 0, .int .i64 0] := ⟨by kernel_rfl, info_of iTk, rfl, by decide⟩
theorem szTk : (Tryz.prog.info? tTk).map (·.size) = some 4 := by kernel_rfl
theorem iEnS : (Tryz.prog.info? tEnS).map (fun i => (i.zero, i.size, i.bytes)) = some (some (.slice none 0 0), 1, 24) := by kernel_rfl
theorem slEnS : SlT Tryz.prog tSh tEnS 1 24 [.slice none 0 0] := ⟨by kernel_rfl, info_of iEnS, rfl, by decide⟩
theorem iRn : (Tryz.prog.info? tRn).map (fun i => (i.zero, i.size, i.bytes)) = some (some (.agg #[.int .i64 0, .int .i64 0, .int .i64 0, .int .i64 0, .int .i64 0, .slice none 0 0, .int .i64 0, .slice none 0 0]), 8, 96) := by kernel_rfl
theorem slRn : SlT Tryz.prog tRnS tRn 8 96 [.int .i64 0, .int .i64 0, .int .i64 0, .int .i64 0, .int .i64 0, .slice none 0 0, .int .i64 0, .slice none 0 0] := ⟨by kernel_rfl, info_of iRn, rfl, by decide⟩
theorem szRn : (Tryz.prog.info? tRn).map (·.size) = some 8 := by kernel_rfl
theorem encEd_one : ∀ (y : Ed), ∀ d ∈ encEd y, d.one := by intro y d hd; simp [encEd] at hd; rcases hd with rfl | rfl <;> trivial
theorem encEn_one : ∀ (y : En), ∀ d ∈ encEn y, d.one := by intro y d hd; simp [encEn] at hd; rcases hd with rfl | rfl | rfl | rfl <;> trivial
theorem encTk_one : ∀ (y : Tk), ∀ d ∈ encTk y, d.one := by intro y d hd; simp [encTk] at hd; rcases hd with rfl | rfl | rfl | rfl <;> trivial
theorem encRn_one : ∀ (y : Rn), ∀ d ∈ encRn y, d.one := by intro y d hd; simp [encRn, encPl, encEds, encTks] at hd; rcases hd with rfl | rfl | rfl | rfl | rfl | rfl | rfl | rfl <;> trivial
theorem zRn (w : World) : RepL w true (encRn ⟨0, ⟨0, 0, 0, 0, []⟩, 0, []⟩) [.int .i64 0, .int .i64 0, .int .i64 0, .int .i64 0, .int .i64 0, .slice none 0 0, .int .i64 0, .slice none 0 0] [] := rn_mk (r := ⟨0, ⟨0, 0, 0, 0, []⟩, 0, []⟩) (Rep.nil_ w 2 tEd) (Rep.nil_ w 4 tTk)
theorem zEn (w : World) : RepL w true (encEn ⟨0, 0, 0, 0⟩) [.int .i64 0, .int .i64 0, .int .i64 0, .int .i64 0] [] := en_mk w true ⟨0, 0, 0, 0⟩
theorem zTk (w : World) : RepL w true (encTk ⟨0, 0, 0, 0⟩) [.int .i64 0, .int .i64 0, .int .i64 0, .int .i64 0] [] := tk_mk w true ⟨0, 0, 0, 0⟩
theorem zEd (w : World) : RepL w true (encEd ⟨0, 0⟩) [.int .i64 0, .int .i64 0] [] := ed_mk w true ⟨0, 0⟩
theorem zEnS (w : World) : RepL w true [encEns []] [.slice none 0 0] [] := RepL.cons_ (Rep.nil_ w 4 tEn) RepL.nil_
end Go.Proofs.YtnhdcbhcocgjhaaGreat
namespace Go.Proofs.YtnhdcbhcocgjhaaGreat
open Go.RowKit Go.Sort Go.BigFrame

set_option maxHeartbeats 1000000 in
theorem sRunAt_c (y : Yd) (id : Int) (a : Value) (S : List Nat) (w : World) (own : Bool) (ha : AggRep w own (encYd y) a S) :
    Calls Tryz.prog 45 #[a, .int .i64 id] w fun e w' => e = .returned (.int .i64 (runAt y id)) ∧ Below w.heap.size w w' := by
  obtain ⟨_, rfl, ha⟩ := ha
  obtain ⟨sv, rv, S1, S2, rfl, ah0, ah1, rfl⟩ := yd_cells ha
  clear ha ah0
  obtain ⟨A, c, rfl, hc1, hc2, hca⟩ := Rep.open_ (size := 8) (enc := encRn) (fun _ => rfl) (by decide) ah1
  unfold maxLen at hc2
  have hl1 : y.runs.length ≤ 9223372036854775807 := by omega
  by_cases h8 : 8 < y.runs.length
  · clear hca
    have hr : runAt y id = -1 := by simp [runAt, h8]
    rw [hr]
    clear hr
    go_enter Tryz.func45, Tryz.ntmps45
    go_wp2
    go_loop [5] (fun i => i = .int .i64 0) (fun _ => 0)
    case atStart => rfl
    case round =>
      subst hrel
      go_wp2
      all_goals go_ret
      all_goals exact ⟨rfl, (Below.refl _ _).alloc (by simp) _⟩
  · have hr : runAt y id = runIx y.runs id := by simp [runAt, h8]
    rw [hr]
    clear hr
    go_enter Tryz.func45, Tryz.ntmps45
    go_wp2
    go_loop [5] (fun i => ∃ k : Nat, k ≤ y.runs.length ∧ i = .int .i64 k ∧ ∀ j, j < k → ∀ z, y.runs[j]? = some z → z.id ≠ id) (fun i => y.runs.length - (intOf i).toNat)
    case atStart => exact ⟨0, by omega, rfl, by simp⟩
    case round =>
      obtain ⟨k, hk, rfl, hno⟩ := hrel
      have HN := Lib.hid hno
      clear hno
      by_cases hlt : k < y.runs.length
      · obtain ⟨x, hx⟩ := get_some hlt
        obtain ⟨b1, o1, vk1, T1, rfl, -, hr1, -, -, hb1, hx1⟩ := hca k x hx
        clear hca
        obtain ⟨v0, v1, U0, U1, rfl, -, -, -⟩ := rn_cells hr1
        have HX := Lib.hid hx
        clear hx
        have p0 : w.cell? ⟨b1, o1 + k * 8, none⟩ = some (.int .i64 x.id) := hx1 0 _ rfl
        clear hx1 hr1
        by_cases he : x.id = id
        · have hb : (x.id == id) = true := by simpa using he
          have HE := Lib.hid he
          clear he
          go_wp2
          go_ret
          exact ⟨ret_int (runIx_found HX.out HE.out HN.out).symm, (Below.refl _ _).alloc (by simp) _⟩
        · have hb : (x.id == id) = false := by simpa using he
          have HE := Lib.hid he
          clear he
          go_wp2
          go_round
          case rel =>
            refine ⟨k + 1, by omega, by go_num, fun j hj z hz => ?_⟩
            by_cases hjk : j = k
            · subst hjk
              have := HX.out
              rw [hz] at this
              cases this
              exact HE.out
            · exact HN.out j (by omega) z hz
          case measure => simp [intOf]; omega
      · obtain rfl : k = y.runs.length := by omega
        clear hca
        go_wp2
        go_ret
        exact ⟨ret_int (runIx_none HN.out).symm, (Below.refl _ _).alloc (by simp) _⟩

theorem iRunAt1_c (x : Rn) (id : Int) (a : Value) (S : List Nat) (g : Nat) (w : World) (own : Bool) (ha : AggRep w own (encRn x) a S) (hg : w.cell? ⟨g, 0, none⟩ = some (.int .i64 id)) :
    Calls Tryz.prog 119 #[a, .pointer (some ⟨g, 0, none⟩)] w fun e w' => e = .returned (.bool (x.id == id)) ∧ Below w.heap.size w w' := by
  obtain ⟨_, rfl, ha⟩ := ha
  obtain ⟨v0, v1, U0, U1, rfl, -, -, -⟩ := rn_cells ha
  clear ha
  have hlt := World.block_lt_of_cell? w _ hg
  go_enter Tryz.func119, Tryz.ntmps119
  go_wp2
  go_ret
  exact ⟨rfl, (Below.refl _ _).alloc (by simp) _⟩

set_option maxHeartbeats 1000000 in
theorem iIndexRun_c (rs : List Rn) (id : Int) (a : Value) (S : List Nat) (g : Nat) (w : World) (own : Bool) (ha : Rep w own (encRns rs) a S) (hg : w.cell? ⟨g, 0, none⟩ = some (.int .i64 id)) :
    Calls Tryz.prog 118 #[a, .func (.func 119) #[] #[.pointer (some ⟨g, 0, none⟩)]] w fun e w' => e = .returned (.int .i64 (runIx rs id)) ∧ Below w.heap.size w w' := by
  obtain ⟨A, c, rfl, hc1, hc2, hca⟩ := Rep.open_ (size := 8) (enc := encRn) (fun _ => rfl) (by decide) ha
  unfold maxLen at hc2
  have hl1 : rs.length ≤ 9223372036854775807 := by omega
  have hglt := World.block_lt_of_cell? w _ hg
  clear ha
  go_enter Tryz.func118, Tryz.ntmps118
  go_wp2
  go_loopw [5, 8] (fun _ i wr => ∃ k : Nat, k ≤ rs.length ∧ i = .int .i64 k ∧ (∀ j, j < k → ∀ z, rs[j]? = some z → z.id ≠ id) ∧ Below w.heap.size w wr) (fun _ i _ => rs.length - (intOf i).toNat)
  case atStart => exact ⟨0, by omega, rfl, by simp, Below.refl _ _⟩
  case round =>
    obtain ⟨k, hk, rfl, hno, hbel⟩ := hrel
    have HN := Lib.hid hno
    clear hno
    have hgr : wr.cell? ⟨g, 0, none⟩ = some (.int .i64 id) := (hbel.cell (p := ⟨g, 0, none⟩) hglt).trans hg
    by_cases hlt : k < rs.length
    · obtain ⟨x, hx⟩ := get_some hlt
      obtain ⟨b1, o1, vk1, T1, rfl, -, hr1, -, -, hb1, hx1⟩ := hca k x hx
      clear hca
      obtain ⟨v0, v1, U0, U1, rfl, -, -, -⟩ := rn_cells hr1
      have HX := Lib.hid hx
      clear hx
      have p0 := (hbel.cell (p := ⟨b1, o1 + k * 8, none⟩) hb1).trans (hx1 0 _ rfl : w.cell? ⟨b1, o1 + k * 8, none⟩ = _)
      have p1 := (hbel.cell (p := ⟨b1, o1 + k * 8 + 1, none⟩) hb1).trans (hx1 1 _ rfl)
      have p2 := (hbel.cell (p := ⟨b1, o1 + k * 8 + 2, none⟩) hb1).trans (hx1 2 _ rfl)
      have p3 := (hbel.cell (p := ⟨b1, o1 + k * 8 + 3, none⟩) hb1).trans (hx1 3 _ rfl)
      have p4 := (hbel.cell (p := ⟨b1, o1 + k * 8 + 4, none⟩) hb1).trans (hx1 4 _ rfl)
      have p5 := (hbel.cell (p := ⟨b1, o1 + k * 8 + 5, none⟩) hb1).trans (hx1 5 _ rfl)
      have p6 := (hbel.cell (p := ⟨b1, o1 + k * 8 + 6, none⟩) hb1).trans (hx1 6 _ rfl)
      have p7 := (hbel.cell (p := ⟨b1, o1 + k * 8 + 7, none⟩) hb1).trans (hx1 7 _ rfl)
      clear hx1
      by_cases he : x.id = id
      · have hb : (x.id == id) = true := by simpa using he
        have HE := Lib.hid he
        clear he
        go_wp2_with (go_at_call 119; refine (iRunAt1_c x id _ _ _ _ own ⟨_, rfl, hr1.below hbel (Nat.le_refl _)⟩ hgr).mono ?_; rintro e w2 ⟨rfl, hb2⟩)
        go_ret
        exact ⟨ret_int (runIx_found HX.out HE.out HN.out).symm, bl_dn hbel hb2⟩
      · have hb : (x.id == id) = false := by simpa using he
        have HE := Lib.hid he
        clear he
        go_wp2_with (go_at_call 119; refine (iRunAt1_c x id _ _ _ _ own ⟨_, rfl, hr1.below hbel (Nat.le_refl _)⟩ hgr).mono ?_; rintro e w2 ⟨rfl, hb2⟩)
        go_roundw
        case rel =>
          refine ⟨k + 1, by omega, by go_num, fun j hj z hz => ?_, bl_dn hbel hb2⟩
          by_cases hjk : j = k
          · subst hjk
            have := HX.out
            rw [hz] at this
            cases this
            exact HE.out
          · exact HN.out j (by omega) z hz
        case measure => simp [intOf]; omega
    · obtain rfl : k = rs.length := by omega
      clear hca
      go_wp2
      go_ret
      exact ⟨ret_int (runIx_none HN.out).symm, hbel⟩

set_option maxHeartbeats 1000000 in
theorem iRunAt_c (y : Yd) (id : Int) (a : Value) (S : List Nat) (w : World) (own : Bool) (ha : AggRep w own (encYd y) a S) :
    Calls Tryz.prog 53 #[a, .int .i64 id] w fun e w' => e = .returned (.int .i64 (runAt y id)) ∧ Below w.heap.size w w' := by
  obtain ⟨_, rfl, ha⟩ := ha
  obtain ⟨sv, rv, S1, S2, rfl, ah0, ah1, rfl⟩ := yd_cells ha
  clear ha ah0
  obtain ⟨A, c, rfl, hc1, hc2, hca⟩ := Rep.open_ (size := 8) (enc := encRn) (fun _ => rfl) (by decide) ah1
  unfold maxLen at hc2
  have hl1 : y.runs.length ≤ 9223372036854775807 := by omega
  clear hca
  by_cases h8 : 8 < y.runs.length
  · have hr : runAt y id = -1 := by simp [runAt, h8]
    rw [hr]
    clear hr
    go_enter Tryz.func53, Tryz.ntmps53
    go_wp2
    go_ret
    exact ⟨rfl, ((Below.refl _ _).alloc (by simp) _).alloc (by simp) _⟩
  · have hr : runAt y id = runIx y.runs id := by simp [runAt, h8]
    rw [hr]
    clear hr
    go_enter Tryz.func53, Tryz.ntmps53
    go_wp2_with (go_at_call 118; refine (iIndexRun_c y.runs id _ _ _ _ own (ah1.below (((Below.refl _ _).alloc (by simp) _).alloc (by simp) _) (Nat.le_refl _)) (by simp [go_sem])).mono ?_; rintro e w2 ⟨rfl, hb2⟩)
    go_ret
    exact ⟨rfl, bl_dn (((Below.refl _ _).alloc (by simp) _).alloc (by simp) _) hb2⟩
end Go.Proofs.YtnhdcbhcocgjhaaGreat
namespace Go.Proofs.YtnhdcbhcocgjhaaGreat
open Go.RowKit Go.Sort Go.BigFrame

theorem szEdgeS_c (l : List Ed) (a : Value) (S : List Nat) (w : World) (own : Bool) (left : Int) (ha : Rep w own (encEds l) a S) (h0 : 0 ≤ left) (h1 : left ≤ 1048576) :
    Calls Tryz.prog 193 #[a, .int .i64 left] w fun e w' => e = .returned (.int .i64 (szf l.length left)) ∧ Below w.heap.size w w' := by
  obtain ⟨A, c, rfl, hc1, hc2, hca⟩ := Rep.open_ (size := 2) (enc := encEd) (fun _ => rfl) (by decide) ha
  clear ha hca
  unfold maxLen at hc2
  have hl1 : l.length ≤ 9223372036854775807 := by omega
  have hs := szf_spec l.length left
  go_enter Tryz.func193, Tryz.ntmps193
  go_wp2
  all_goals go_ret
  all_goals exact ⟨ret_int (by omega), Below.refl _ _⟩

set_option maxHeartbeats 1000000 in
theorem szPlan_c (x : Pl) (a : Value) (S : List Nat) (w : World) (own : Bool) (left : Int) (ha : AggRep w own (encPl x) a S) (h0 : 0 ≤ left) (h1 : left ≤ 1048576) :
    Calls Tryz.prog 161 #[a, .int .i64 left] w fun e w' => e = .returned (.int .i64 (szf (totPl x) left)) ∧ Below w.heap.size w w' := by
  obtain ⟨_, rfl, ha⟩ := ha
  obtain ⟨av0, rfl, ah0⟩ := pl_cells ha
  clear ha
  have hs0 := szf_spec (x.edges.length) (left)
  have hs := szf_spec (totPl x) left
  have ht : totPl x = x.edges.length := rfl
  rw [ht] at hs
  have HT := Lib.hid ht
  clear ht
  go_enter Tryz.func161, Tryz.ntmps161
  go_wp2_with (first
    | (go_at_call 193; refine (szEdgeS_c x.edges _ _ _ _ _ (ah0.below (by repeat (first | (with_reducible exact Below.refl _ _) | (with_reducible assumption) | ((with_reducible refine Below.alloc ?_ ?_ _); rotate_left; focus (simp; try omega)) | ((with_reducible refine Below.setCell ?_ ?_ _); rotate_left; focus (simp; try omega)) | (with_reducible refine bl_dn ?_ (by assumption)))) (Nat.le_refl _)) (by omega) (by omega)).mono ?_; rintro e w1 ⟨rfl, hb1⟩; obtain ⟨hc1, hf1⟩ := bcell hb1))
  all_goals go_ret
  all_goals exact ⟨ret_int (HT.out ▸ (by omega)), by repeat (first | (with_reducible exact Below.refl _ _) | (with_reducible assumption) | ((with_reducible refine Below.alloc ?_ ?_ _); rotate_left; focus (simp; try omega)) | ((with_reducible refine Below.setCell ?_ ?_ _); rotate_left; focus (simp; try omega)) | (with_reducible refine bl_dn ?_ (by assumption)))⟩

theorem szEntryS_c (l : List En) (a : Value) (S : List Nat) (w : World) (own : Bool) (left : Int) (ha : Rep w own (encEns l) a S) (h0 : 0 ≤ left) (h1 : left ≤ 1048576) :
    Calls Tryz.prog 103 #[a, .int .i64 left] w fun e w' => e = .returned (.int .i64 (szf l.length left)) ∧ Below w.heap.size w w' := by
  obtain ⟨A, c, rfl, hc1, hc2, hca⟩ := Rep.open_ (size := 4) (enc := encEn) (fun _ => rfl) (by decide) ha
  clear ha hca
  unfold maxLen at hc2
  have hl1 : l.length ≤ 9223372036854775807 := by omega
  have hs := szf_spec l.length left
  go_enter Tryz.func103, Tryz.ntmps103
  go_wp2
  all_goals go_ret
  all_goals exact ⟨ret_int (by omega), Below.refl _ _⟩

set_option maxHeartbeats 1000000 in
theorem szEntrySS_c (l : List (List En)) (a : Value) (S : List Nat) (w : World) (own : Bool) (left : Int) (ha : Rep w own (encSh l) a S) (h0 : 0 ≤ left) (h1 : left ≤ 1048576) :
    Calls Tryz.prog 41 #[a, .int .i64 left] w fun e w' => e = .returned (.int .i64 (szf (totSh l) left)) ∧ Below w.heap.size w w' := by
  obtain ⟨A, c, rfl, hc1, hc2, hca⟩ := Rep.open_ (size := 1) (enc := (fun es => [encEns es])) (fun _ => rfl) (by decide) ha
  clear ha
  unfold maxLen at hc2
  have hl1 : l.length ≤ 9223372036854775807 := by omega
  have hs := szf_spec (totSh l) left
  have ht : totSh l = l.length + tsum totEnS l := rfl
  rw [ht] at hs
  have HT := Lib.hid ht
  clear ht
  by_cases hneg : left - (l.length : Int) < 0
  · clear hca
    go_enter Tryz.func41, Tryz.ntmps41
    go_wp2
    go_ret
    exact ⟨ret_int (by rw [HT.out]; omega), Below.refl _ _⟩
  · go_enter Tryz.func41, Tryz.ntmps41
    go_wp2
    go_loopw [1, 5] (fun q i wr => ∃ (k : Nat) (v : Int), k ≤ l.length ∧ i = .int .i64 k ∧ q = .int .i64 v ∧ 0 ≤ v ∧ v = left - l.length - tsum totEnS (l.take k) ∧ Below w.heap.size w wr) (fun _ i _ => l.length - (intOf i).toNat)
    case atStart => exact ⟨0, left - l.length, by omega, rfl, rfl, by omega, by simp [tsum], Below.refl _ _⟩
    case round =>
      obtain ⟨k, v, hk, rfl, rfl, hv0, hv, hbel⟩ := hrel
      by_cases hlt : k < l.length
      · obtain ⟨x, hx⟩ := get_some hlt
        obtain ⟨b1, o1, vk1, T1, rfl, -, hr1, -, -, hb1, hx1⟩ := hca k x hx
        clear hca
        obtain ⟨au, _, aS0, aS1, rfl, rfl, ah0, rfl, rfl⟩ := hr1
        have htk := tsum_succ (tot := totEnS) hx
        have htl := tsum_le totEnS l (k + 1)
        have hsx := szf_spec (totEnS x) v
        have hv1 : v ≤ 1048576 := by omega
        have HV := Lib.hid hv
        have HK := Lib.hid htk
        clear hx hv htk
        have p0 := (hbel.cell (p := ⟨b1, o1 + k, none⟩) hb1).trans (by simpa using hx1 0 _ rfl : w.cell? ⟨b1, o1 + k, none⟩ = _)
        clear hx1
        go_wp2_with (go_at_call 103; refine (szEntryS_c x _ _ _ _ _ (ah0.below hbel (Nat.le_refl _)) (by omega) (by omega)).mono ?_; rintro e w2 ⟨rfl, hb2⟩)
        · go_ret
          have hv := HV.out
          have htk := HK.out
          exact ⟨ret_int (by rw [HT.out]; (try simp only [totEnS] at *); omega), bl_dn hbel hb2⟩
        · go_roundw
          case rel =>
            have hv := HV.out
            have htk := HK.out
            refine ⟨k + 1, _, by omega, by go_num, rfl, by omega, ?_, bl_dn hbel hb2⟩
            try simp only [totEnS] at *
            omega
          case measure => simp [intOf]; omega
      · obtain rfl : k = l.length := by omega
        clear hca
        rw [List.take_length] at hv
        have HV := Lib.hid hv
        clear hv
        go_wp2
        go_ret
        have hv := HV.out
        exact ⟨ret_int (by rw [HT.out]; omega), hbel⟩

theorem szTaskS_c (l : List Tk) (a : Value) (S : List Nat) (w : World) (own : Bool) (left : Int) (ha : Rep w own (encTks l) a S) (h0 : 0 ≤ left) (h1 : left ≤ 1048576) :
    Calls Tryz.prog 162 #[a, .int .i64 left] w fun e w' => e = .returned (.int .i64 (szf l.length left)) ∧ Below w.heap.size w w' := by
  obtain ⟨A, c, rfl, hc1, hc2, hca⟩ := Rep.open_ (size := 4) (enc := encTk) (fun _ => rfl) (by decide) ha
  clear ha hca
  unfold maxLen at hc2
  have hl1 : l.length ≤ 9223372036854775807 := by omega
  have hs := szf_spec l.length left
  go_enter Tryz.func162, Tryz.ntmps162
  go_wp2
  all_goals go_ret
  all_goals exact ⟨ret_int (by omega), Below.refl _ _⟩

set_option maxHeartbeats 1000000 in
theorem szRun_c (x : Rn) (a : Value) (S : List Nat) (w : World) (own : Bool) (left : Int) (ha : AggRep w own (encRn x) a S) (h0 : 0 ≤ left) (h1 : left ≤ 1048576) :
    Calls Tryz.prog 104 #[a, .int .i64 left] w fun e w' => e = .returned (.int .i64 (szf (totRn x) left)) ∧ Below w.heap.size w w' := by
  obtain ⟨_, rfl, ha⟩ := ha
  obtain ⟨av0, av1, aS0, aS1, rfl, ah0, ah1, rfl⟩ := rn_cells ha
  clear ha
  have hs0 := szf_spec (totPl x.plan) (left)
  have hs1 := szf_spec (x.tasks.length) (szf (totPl x.plan) (left))
  have hs := szf_spec (totRn x) left
  have ht : totRn x = totPl x.plan + x.tasks.length := rfl
  rw [ht] at hs
  have HT := Lib.hid ht
  clear ht
  go_enter Tryz.func104, Tryz.ntmps104
  go_wp2_with (first
    | (go_at_call 161; refine (szPlan_c x.plan _ _ _ _ _ ⟨_, rfl, pl_mk (ah0.below (by repeat (first | (with_reducible exact Below.refl _ _) | (with_reducible assumption) | ((with_reducible refine Below.alloc ?_ ?_ _); rotate_left; focus (simp; try omega)) | ((with_reducible refine Below.setCell ?_ ?_ _); rotate_left; focus (simp; try omega)) | (with_reducible refine bl_dn ?_ (by assumption)))) (Nat.le_refl _))⟩ (by omega) (by omega)).mono ?_; rintro e w1 ⟨rfl, hb1⟩; obtain ⟨hc1, hf1⟩ := bcell hb1)
    | (go_at_call 162; refine (szTaskS_c x.tasks _ _ _ _ _ (ah1.below (by repeat (first | (with_reducible exact Below.refl _ _) | (with_reducible assumption) | ((with_reducible refine Below.alloc ?_ ?_ _); rotate_left; focus (simp; try omega)) | ((with_reducible refine Below.setCell ?_ ?_ _); rotate_left; focus (simp; try omega)) | (with_reducible refine bl_dn ?_ (by assumption)))) (Nat.le_refl _)) (by omega) (by omega)).mono ?_; rintro e w2 ⟨rfl, hb2⟩; obtain ⟨hc2, hf2⟩ := bcell hb2))
  all_goals go_ret
  all_goals exact ⟨ret_int (HT.out ▸ (by omega)), by repeat (first | (with_reducible exact Below.refl _ _) | (with_reducible assumption) | ((with_reducible refine Below.alloc ?_ ?_ _); rotate_left; focus (simp; try omega)) | ((with_reducible refine Below.setCell ?_ ?_ _); rotate_left; focus (simp; try omega)) | (with_reducible refine bl_dn ?_ (by assumption)))⟩

set_option maxHeartbeats 1000000 in
theorem szRunS_c (l : List (Rn)) (a : Value) (S : List Nat) (w : World) (own : Bool) (left : Int) (ha : Rep w own (encRns l) a S) (h0 : 0 ≤ left) (h1 : left ≤ 1048576) :
    Calls Tryz.prog 42 #[a, .int .i64 left] w fun e w' => e = .returned (.int .i64 (szf (totRns l) left)) ∧ Below w.heap.size w w' := by
  obtain ⟨A, c, rfl, hc1, hc2, hca⟩ := Rep.open_ (size := 8) (enc := encRn) (fun _ => rfl) (by decide) ha
  clear ha
  unfold maxLen at hc2
  have hl1 : l.length ≤ 9223372036854775807 := by omega
  have hs := szf_spec (totRns l) left
  have ht : totRns l = l.length + tsum totRn l := rfl
  rw [ht] at hs
  have HT := Lib.hid ht
  clear ht
  by_cases hneg : left - (l.length : Int) < 0
  · clear hca
    go_enter Tryz.func42, Tryz.ntmps42
    go_wp2
    go_ret
    exact ⟨ret_int (by rw [HT.out]; omega), Below.refl _ _⟩
  · go_enter Tryz.func42, Tryz.ntmps42
    go_wp2
    go_loopw [1, 5] (fun q i wr => ∃ (k : Nat) (v : Int), k ≤ l.length ∧ i = .int .i64 k ∧ q = .int .i64 v ∧ 0 ≤ v ∧ v = left - l.length - tsum totRn (l.take k) ∧ Below w.heap.size w wr) (fun _ i _ => l.length - (intOf i).toNat)
    case atStart => exact ⟨0, left - l.length, by omega, rfl, rfl, by omega, by simp [tsum], Below.refl _ _⟩
    case round =>
      obtain ⟨k, v, hk, rfl, rfl, hv0, hv, hbel⟩ := hrel
      by_cases hlt : k < l.length
      · obtain ⟨x, hx⟩ := get_some hlt
        obtain ⟨b1, o1, vk1, T1, rfl, -, hr1, -, -, hb1, hx1⟩ := hca k x hx
        clear hca
        obtain ⟨av0, av1, aS0, aS1, rfl, ah0, ah1, rfl⟩ := rn_cells hr1
        have htk := tsum_succ (tot := totRn) hx
        have htl := tsum_le totRn l (k + 1)
        have hsx := szf_spec (totRn x) v
        have hv1 : v ≤ 1048576 := by omega
        have HV := Lib.hid hv
        have HK := Lib.hid htk
        clear hx hv htk
        have p0 := (hbel.cell (p := ⟨b1, o1 + k * 8, none⟩) hb1).trans (hx1 0 _ rfl : w.cell? ⟨b1, o1 + k * 8, none⟩ = _)
        have p1 := (hbel.cell (p := ⟨b1, o1 + k * 8 + 1, none⟩) hb1).trans (hx1 1 _ rfl : w.cell? ⟨b1, o1 + k * 8 + 1, none⟩ = _)
        have p2 := (hbel.cell (p := ⟨b1, o1 + k * 8 + 2, none⟩) hb1).trans (hx1 2 _ rfl : w.cell? ⟨b1, o1 + k * 8 + 2, none⟩ = _)
        have p3 := (hbel.cell (p := ⟨b1, o1 + k * 8 + 3, none⟩) hb1).trans (hx1 3 _ rfl : w.cell? ⟨b1, o1 + k * 8 + 3, none⟩ = _)
        have p4 := (hbel.cell (p := ⟨b1, o1 + k * 8 + 4, none⟩) hb1).trans (hx1 4 _ rfl : w.cell? ⟨b1, o1 + k * 8 + 4, none⟩ = _)
        have p5 := (hbel.cell (p := ⟨b1, o1 + k * 8 + 5, none⟩) hb1).trans (hx1 5 _ rfl : w.cell? ⟨b1, o1 + k * 8 + 5, none⟩ = _)
        have p6 := (hbel.cell (p := ⟨b1, o1 + k * 8 + 6, none⟩) hb1).trans (hx1 6 _ rfl : w.cell? ⟨b1, o1 + k * 8 + 6, none⟩ = _)
        have p7 := (hbel.cell (p := ⟨b1, o1 + k * 8 + 7, none⟩) hb1).trans (hx1 7 _ rfl : w.cell? ⟨b1, o1 + k * 8 + 7, none⟩ = _)
        clear hx1
        go_wp2_with (go_at_call 104; refine (szRun_c x _ _ _ _ _ ⟨_, rfl, hr1.below hbel (Nat.le_refl _)⟩ (by omega) (by omega)).mono ?_; rintro e w2 ⟨rfl, hb2⟩)
        · go_ret
          have hv := HV.out
          have htk := HK.out
          exact ⟨ret_int (by rw [HT.out]; (try simp only [totEnS] at *); omega), bl_dn hbel hb2⟩
        · go_roundw
          case rel =>
            have hv := HV.out
            have htk := HK.out
            refine ⟨k + 1, _, by omega, by go_num, rfl, by omega, ?_, bl_dn hbel hb2⟩
            try simp only [totEnS] at *
            omega
          case measure => simp [intOf]; omega
      · obtain rfl : k = l.length := by omega
        clear hca
        rw [List.take_length] at hv
        have HV := Lib.hid hv
        clear hv
        go_wp2
        go_ret
        have hv := HV.out
        exact ⟨ret_int (by rw [HT.out]; omega), hbel⟩

set_option maxHeartbeats 1000000 in
theorem szYard_c (x : Yd) (a : Value) (S : List Nat) (w : World) (own : Bool) (left : Int) (ha : AggRep w own (encYd x) a S) (h0 : 0 ≤ left) (h1 : left ≤ 1048576) :
    Calls Tryz.prog 11 #[a, .int .i64 left] w fun e w' => e = .returned (.int .i64 (szf (totYd x) left)) ∧ Below w.heap.size w w' := by
  obtain ⟨_, rfl, ha⟩ := ha
  obtain ⟨av0, av1, aS0, aS1, rfl, ah0, ah1, rfl⟩ := yd_cells ha
  clear ha
  have hs0 := szf_spec (totSh x.shelf) (left)
  have hs1 := szf_spec (totRns x.runs) (szf (totSh x.shelf) (left))
  have hs := szf_spec (totYd x) left
  have ht : totYd x = totSh x.shelf + totRns x.runs := rfl
  rw [ht] at hs
  have HT := Lib.hid ht
  clear ht
  go_enter Tryz.func11, Tryz.ntmps11
  go_wp2_with (first
    | (go_at_call 41; refine (szEntrySS_c x.shelf _ _ _ _ _ (ah0.below (by repeat (first | (with_reducible exact Below.refl _ _) | (with_reducible assumption) | ((with_reducible refine Below.alloc ?_ ?_ _); rotate_left; focus (simp; try omega)) | ((with_reducible refine Below.setCell ?_ ?_ _); rotate_left; focus (simp; try omega)) | (with_reducible refine bl_dn ?_ (by assumption)))) (Nat.le_refl _)) (by omega) (by omega)).mono ?_; rintro e w1 ⟨rfl, hb1⟩; obtain ⟨hc1, hf1⟩ := bcell hb1)
    | (go_at_call 42; refine (szRunS_c x.runs _ _ _ _ _ (ah1.below (by repeat (first | (with_reducible exact Below.refl _ _) | (with_reducible assumption) | ((with_reducible refine Below.alloc ?_ ?_ _); rotate_left; focus (simp; try omega)) | ((with_reducible refine Below.setCell ?_ ?_ _); rotate_left; focus (simp; try omega)) | (with_reducible refine bl_dn ?_ (by assumption)))) (Nat.le_refl _)) (by omega) (by omega)).mono ?_; rintro e w2 ⟨rfl, hb2⟩; obtain ⟨hc2, hf2⟩ := bcell hb2))
  all_goals go_ret
  all_goals exact ⟨ret_int (HT.out ▸ (by omega)), by repeat (first | (with_reducible exact Below.refl _ _) | (with_reducible assumption) | ((with_reducible refine Below.alloc ?_ ?_ _); rotate_left; focus (simp; try omega)) | ((with_reducible refine Below.setCell ?_ ?_ _); rotate_left; focus (simp; try omega)) | (with_reducible refine bl_dn ?_ (by assumption)))⟩




end Go.Proofs.YtnhdcbhcocgjhaaGreat
namespace Go.Proofs.YtnhdcbhcocgjhaaGreat
open Go.RowKit Go.Sort Go.BigFrame

set_option maxHeartbeats 2000000 in
theorem toEdge_c (x : Ed) (a : Value) (S : List Nat) (w : World) (own : Bool) (ha : AggRep w own (encEd x) a S) :
    Calls Tryz.prog 212 #[a] w (RetAgg w (encEd x)) := by
  obtain ⟨_, rfl, ha⟩ := ha
  obtain ⟨rfl, rfl⟩ := ed_cells ha
  clear ha
  go_enter Tryz.func212, Tryz.ntmps212
  go_wp2
  exact bodyPost_ret (v := .agg #[.int .i64 x.src, .int .i64 x.dst]) (by simp [results, Tryz.results212, go_sem]) rfl ⟨_, [], rfl, ⟨_, rfl, ed_mk _ _ _⟩, Fresh.nil _, by repeat (first | (with_reducible exact Below.refl _ _) | (with_reducible assumption) | ((with_reducible refine Below.alloc ?_ ?_ _); rotate_left; focus (simp; try omega)) | ((with_reducible refine Below.setCell ?_ ?_ _); rotate_left; focus (simp; try omega)) | (with_reducible refine bl_dn ?_ (by assumption)))⟩

set_option maxHeartbeats 2000000 in
theorem toEdgeS_c (l : List (Ed)) (a : Value) (S : List Nat) (w : World) (own : Bool) (ha : Rep w own (encEds l) a S) (hsz : l.length ≤ 2000000) :
    Calls Tryz.prog 196 #[a] w (RetRep w (encEds l)) := by
  obtain ⟨A, c, rfl, hc1, hc2, hca⟩ := Rep.open_ (size := 2) (enc := encEd) (fun _ => rfl) (by decide) ha
  clear ha
  have hszl := hsz
  go_enter Tryz.func196, Tryz.ntmps196
  go_wp2_with (at_make; refine wpList_make_rep (enc := encEd) rfl _ _ rfl slEd (⟨0,0⟩ : Ed) zEd .i64 .i64 _ _ l.length rfl rfl rfl rfl (by omega) (by unfold maxLen; omega) ?_; intro w1 A1 hr1 hb1)
  go_loopw [4] (fun i wr => ∃ k : Nat, k ≤ l.length ∧ i = .int .i64 k ∧ Fill encEd 2 tEd w (half l (⟨0,0⟩ : Ed) k) (.slice A1 l.length l.length) wr) (fun i _ => l.length - (intOf i).toNat)
  case atStart => exact ⟨0, by omega, rfl, [w.heap.size], by rw [half_zero]; exact hr1, Fresh.one _ _ (Nat.le_refl _), hb1⟩
  case round =>
    obtain ⟨k, hk, rfl, S1, hrep, hF, hbel⟩ := hrel
    clear hr1 hb1
    by_cases hlt : k < l.length
    · obtain ⟨x, hx⟩ := get_some hlt
      obtain ⟨b1, o1, vk1, T1, rfl, -, hr1, -, -, hb1, hx1⟩ := hca k x hx
      clear hca
      have HX := Lib.hid hx
      clear hx
      obtain ⟨rfl, rfl⟩ := ed_cells hr1
      obtain ⟨g, rfl, -, hg1, hg, -⟩ := Rep.head (enc := encEd) (size := 2) (xs := half l (⟨0,0⟩ : Ed) k) (fun _ => rfl) (by decide) hrep (by rw [half_len _ _ _ hk]; omega)
      · skip
        have p0 := (hbel.cell (p := ⟨b1, o1 + k * 2, none⟩) hb1).trans (hx1 0 _ rfl : w.cell? ⟨b1, o1 + k * 2, none⟩ = _)
        have p1 := (hbel.cell (p := ⟨b1, o1 + k * 2 + 1, none⟩) hb1).trans (hx1 1 _ rfl : w.cell? ⟨b1, o1 + k * 2 + 1, none⟩ = _)
        clear hx1
        go_wp2_with (first
        | (go_at_call 212; refine (toEdge_c x _ _ _ _ ⟨_, rfl, hr1.below hbel (Nat.le_refl _)⟩).mono ?_; rintro e w2 ⟨_, Sx, rfl, ⟨vsx, rfl, hrx⟩, hFx, hb2⟩)
        | ((with_reducible refine at_store 182 21 20 ?_); refine wpList_store_rep (enc := encEd) (size := 2) (xs := half l (⟨0,0⟩ : Ed) k) rfl _ _ _ rfl (fun _ => rfl) (by decide) szEd encEd_one (hrep.below hb2 (Nat.le_refl _)) (k := k) (by rw [half_len _ _ _ hk]; omega) rfl rfl _ rfl x (by simpa using hrx) w.heap.size (Fresh.join hF hFx hbel.size (fun s hs => Rep.lt _ hrep s hs)) ?_; intro S' hr' hF' ho' _ _))
        go_roundw
        case rel =>
          rw [half_set HX.out] at hr'
          refine ⟨k + 1, by omega, by go_num, S', hr', hF', ?_⟩
          exact (bl_dn hbel hb2).trans (ho'.below (by simpa using hF.2 g hg1) (Nat.le_trans hbel.size hb2.size))
        case measure => simp [intOf]; omega
    · obtain rfl : k = l.length := by omega
      clear hca
      go_wp2
      go_ret
      exact ⟨_, S1, rfl, by rw [half_all] at hrep; exact hrep, hF, hbel⟩

set_option maxHeartbeats 2000000 in
theorem toPlan_c (x : Pl) (a : Value) (S : List Nat) (w : World) (own : Bool) (ha : AggRep w own (encPl x) a S) (hsz : totPl x ≤ 2000000) :
    Calls Tryz.prog 166 #[a] w (RetAgg w (encPl x)) := by
  obtain ⟨_, rfl, ha⟩ := ha
  obtain ⟨av0, rfl, ah0⟩ := pl_cells ha
  clear ha
  have hsz1 : x.edges.length ≤ 2000000 := by simp only [totPl] at hsz; omega
  go_enter Tryz.func166, Tryz.ntmps166
  go_wp2_with (first
    | (go_at_call 196; refine (toEdgeS_c x.edges _ _ _ _ (ah0.below (by repeat (first | (with_reducible exact Below.refl _ _) | (with_reducible assumption) | ((with_reducible refine Below.alloc ?_ ?_ _); rotate_left; focus (simp; try omega)) | ((with_reducible refine Below.setCell ?_ ?_ _); rotate_left; focus (simp; try omega)) | (with_reducible refine bl_dn ?_ (by assumption)))) (Nat.le_refl _)) hsz1).mono ?_; rintro e w1 ⟨r1v0, S1, rfl, r1h0, hF1, hb1⟩; obtain ⟨r1v0A, r1v0n, r1v0c, rfl⟩ := Rep.form r1h0; obtain ⟨hc1, hf1⟩ := bcell hb1; (have hz1 := hb1.size); simp at hz1; (have hx1 := (by omega : w.heap.size < w1.heap.size)); (have hy1 := (by omega : w.heap.size + 1 < w1.heap.size)); (have hw1 := (by omega : w.heap.size + 1 + 1 < w1.heap.size))))
  refine bodyPost_ret (v := .agg #[.int .i64 x.prio, .int .i64 x.most, .int .i64 x.wait, .int .i64 x.tasks, .slice r1v0A r1v0n r1v0c]) (by simp [results, Tryz.results166, go_sem, hc1]) rfl ?_
  simp at hF1
  refine ⟨_, S1, rfl, ⟨_, rfl, pl_mk ?_⟩, ?_, ?_⟩
  · repeat (first | (with_reducible exact r1h0) | ((with_reducible refine keep_set ?_ ?_); rotate_left; focus (intro b hb; have := hF1.2 b hb; simp; try omega)) | (with_reducible refine Rep.below ?_ (by assumption) (Nat.le_refl _)))
  · exact hF1.mono (by omega)
  · repeat (first | (with_reducible exact Below.refl _ _) | (with_reducible assumption) | ((with_reducible refine Below.alloc ?_ ?_ _); rotate_left; focus (simp; try omega)) | ((with_reducible refine Below.setCell ?_ ?_ _); rotate_left; focus (simp; try omega)) | (with_reducible refine bl_dn ?_ (by assumption)))

set_option maxHeartbeats 2000000 in
theorem toEntry_c (x : En) (a : Value) (S : List Nat) (w : World) (own : Bool) (ha : AggRep w own (encEn x) a S) :
    Calls Tryz.prog 165 #[a] w (RetAgg w (encEn x)) := by
  obtain ⟨_, rfl, ha⟩ := ha
  obtain ⟨rfl, rfl⟩ := en_cells ha
  clear ha
  go_enter Tryz.func165, Tryz.ntmps165
  go_wp2
  exact bodyPost_ret (v := .agg #[.int .i64 x.prio, .int .i64 x.seq, .int .i64 x.run, .int .i64 x.task]) (by simp [results, Tryz.results165, go_sem]) rfl ⟨_, [], rfl, ⟨_, rfl, en_mk _ _ _⟩, Fresh.nil _, by repeat (first | (with_reducible exact Below.refl _ _) | (with_reducible assumption) | ((with_reducible refine Below.alloc ?_ ?_ _); rotate_left; focus (simp; try omega)) | ((with_reducible refine Below.setCell ?_ ?_ _); rotate_left; focus (simp; try omega)) | (with_reducible refine bl_dn ?_ (by assumption)))⟩

set_option maxHeartbeats 2000000 in
theorem toEntryS_c (l : List (En)) (a : Value) (S : List Nat) (w : World) (own : Bool) (ha : Rep w own (encEns l) a S) (hsz : l.length ≤ 2000000) :
    Calls Tryz.prog 111 #[a] w (RetRep w (encEns l)) := by
  obtain ⟨A, c, rfl, hc1, hc2, hca⟩ := Rep.open_ (size := 4) (enc := encEn) (fun _ => rfl) (by decide) ha
  clear ha
  have hszl := hsz
  go_enter Tryz.func111, Tryz.ntmps111
  go_wp2_with (at_make; refine wpList_make_rep (enc := encEn) rfl _ _ rfl slEn (⟨0,0,0,0⟩ : En) zEn .i64 .i64 _ _ l.length rfl rfl rfl rfl (by omega) (by unfold maxLen; omega) ?_; intro w1 A1 hr1 hb1)
  go_loopw [4] (fun i wr => ∃ k : Nat, k ≤ l.length ∧ i = .int .i64 k ∧ Fill encEn 4 tEn w (half l (⟨0,0,0,0⟩ : En) k) (.slice A1 l.length l.length) wr) (fun i _ => l.length - (intOf i).toNat)
  case atStart => exact ⟨0, by omega, rfl, [w.heap.size], by rw [half_zero]; exact hr1, Fresh.one _ _ (Nat.le_refl _), hb1⟩
  case round =>
    obtain ⟨k, hk, rfl, S1, hrep, hF, hbel⟩ := hrel
    clear hr1 hb1
    by_cases hlt : k < l.length
    · obtain ⟨x, hx⟩ := get_some hlt
      obtain ⟨b1, o1, vk1, T1, rfl, -, hr1, -, -, hb1, hx1⟩ := hca k x hx
      clear hca
      have HX := Lib.hid hx
      clear hx
      obtain ⟨rfl, rfl⟩ := en_cells hr1
      obtain ⟨g, rfl, -, hg1, hg, -⟩ := Rep.head (enc := encEn) (size := 4) (xs := half l (⟨0,0,0,0⟩ : En) k) (fun _ => rfl) (by decide) hrep (by rw [half_len _ _ _ hk]; omega)
      · skip
        have p0 := (hbel.cell (p := ⟨b1, o1 + k * 4, none⟩) hb1).trans (hx1 0 _ rfl : w.cell? ⟨b1, o1 + k * 4, none⟩ = _)
        have p1 := (hbel.cell (p := ⟨b1, o1 + k * 4 + 1, none⟩) hb1).trans (hx1 1 _ rfl : w.cell? ⟨b1, o1 + k * 4 + 1, none⟩ = _)
        have p2 := (hbel.cell (p := ⟨b1, o1 + k * 4 + 2, none⟩) hb1).trans (hx1 2 _ rfl : w.cell? ⟨b1, o1 + k * 4 + 2, none⟩ = _)
        have p3 := (hbel.cell (p := ⟨b1, o1 + k * 4 + 3, none⟩) hb1).trans (hx1 3 _ rfl : w.cell? ⟨b1, o1 + k * 4 + 3, none⟩ = _)
        clear hx1
        go_wp2_with (first
        | (go_at_call 165; refine (toEntry_c x _ _ _ _ ⟨_, rfl, hr1.below hbel (Nat.le_refl _)⟩).mono ?_; rintro e w2 ⟨_, Sx, rfl, ⟨vsx, rfl, hrx⟩, hFx, hb2⟩)
        | ((with_reducible refine at_store 108 21 20 ?_); refine wpList_store_rep (enc := encEn) (size := 4) (xs := half l (⟨0,0,0,0⟩ : En) k) rfl _ _ _ rfl (fun _ => rfl) (by decide) szEn encEn_one (hrep.below hb2 (Nat.le_refl _)) (k := k) (by rw [half_len _ _ _ hk]; omega) rfl rfl _ rfl x (by simpa using hrx) w.heap.size (Fresh.join hF hFx hbel.size (fun s hs => Rep.lt _ hrep s hs)) ?_; intro S' hr' hF' ho' _ _))
        go_roundw
        case rel =>
          rw [half_set HX.out] at hr'
          refine ⟨k + 1, by omega, by go_num, S', hr', hF', ?_⟩
          exact (bl_dn hbel hb2).trans (ho'.below (by simpa using hF.2 g hg1) (Nat.le_trans hbel.size hb2.size))
        case measure => simp [intOf]; omega
    · obtain rfl : k = l.length := by omega
      clear hca
      go_wp2
      go_ret
      exact ⟨_, S1, rfl, by rw [half_all] at hrep; exact hrep, hF, hbel⟩

set_option maxHeartbeats 2000000 in
theorem toEntrySS_c (l : List (List En)) (a : Value) (S : List Nat) (w : World) (own : Bool) (ha : Rep w own (encSh l) a S) (hsz : totSh l ≤ 2000000) :
    Calls Tryz.prog 48 #[a] w (RetRep w (encSh l)) := by
  obtain ⟨A, c, rfl, hc1, hc2, hca⟩ := Rep.open_ (size := 1) (enc := (fun es => [encEns es])) (fun _ => rfl) (by decide) ha
  clear ha
  have hszl : l.length ≤ 2000000 := by simp only [totSh] at hsz; omega
  go_enter Tryz.func48, Tryz.ntmps48
  go_wp2_with (at_make; refine wpList_make_rep (enc := (fun es => [encEns es])) rfl _ _ rfl slEnS ([] : List En) zEnS .i64 .i64 _ _ l.length rfl rfl rfl rfl (by omega) (by unfold maxLen; omega) ?_; intro w1 A1 hr1 hb1)
  go_loopw [4] (fun i wr => ∃ k : Nat, k ≤ l.length ∧ i = .int .i64 k ∧ Fill (fun es => [encEns es]) 1 tEnS w (half l ([] : List En) k) (.slice A1 l.length l.length) wr) (fun i _ => l.length - (intOf i).toNat)
  case atStart => exact ⟨0, by omega, rfl, [w.heap.size], by rw [half_zero]; exact hr1, Fresh.one _ _ (Nat.le_refl _), hb1⟩
  case round =>
    obtain ⟨k, hk, rfl, S1, hrep, hF, hbel⟩ := hrel
    clear hr1 hb1
    by_cases hlt : k < l.length
    · obtain ⟨x, hx⟩ := get_some hlt
      obtain ⟨b1, o1, vk1, T1, rfl, -, hr1, -, -, hb1, hx1⟩ := hca k x hx
      clear hca
      have HX := Lib.hid hx
      clear hx
      obtain ⟨au, _, aS0, aS1, rfl, rfl, ah0, rfl, rfl⟩ := hr1
      obtain ⟨g, rfl, -, hg1, hg, -⟩ := Rep.head (enc := (fun es => [encEns es])) (size := 1) (xs := half l ([] : List En) k) (fun _ => rfl) (by decide) hrep (by rw [half_len _ _ _ hk]; omega)
      · skip
        have hszx : totEnS x ≤ 2000000 := by have := tsum_get (tot := totEnS) HX.out; simp only [totSh] at hsz; omega
        have p0 := (hbel.cell (p := ⟨b1, o1 + k, none⟩) hb1).trans (by simpa using hx1 0 _ rfl : w.cell? ⟨b1, o1 + k, none⟩ = _)
        clear hx1
        go_wp2_with (first
        | (go_at_call 111; refine (toEntryS_c x _ _ _ _ (ah0.below hbel (Nat.le_refl _)) (by simpa [totEnS] using hszx)).mono ?_; rintro e w2 ⟨_, Sx, rfl, hrx, hFx, hb2⟩; obtain ⟨rA, rn, rc, rfl⟩ := Rep.form hrx; obtain ⟨hcx, hfx⟩ := own_cell (enc := (fun es => [encEns es])) (xs := half l ([] : List En) k) (fun _ => rfl) (hrep.below hb2 (Nat.le_refl _)) (by rw [half_len _ _ _ hk]; omega); obtain ⟨ux, hcx⟩ := hcx))
        go_roundw
        case rel =>
          obtain ⟨S', hr', hF', ho', _, _⟩ := Rep.setElem (enc := (fun es => [encEns es])) (size := 1) (fun _ => rfl) (by decide) (hrep.below hb2 (Nat.le_refl _)) (by rw [half_len _ _ _ hk]; omega) (RepL.cons_ hrx RepL.nil_) (Fresh.join hF (by simpa using hFx) hbel.size (fun s hs => Rep.lt _ hrep s hs))
          rw [Nat.mul_one, half_set HX.out] at hr'
          rw [Nat.mul_one] at ho'
          refine ⟨k + 1, by omega, by go_num, S', hr', hF', ?_⟩
          exact (bl_dn hbel hb2).trans (ho'.below (by simpa using hF.2 g hg1) (Nat.le_trans hbel.size hb2.size))
        case measure => simp [intOf]; omega
    · obtain rfl : k = l.length := by omega
      clear hca
      go_wp2
      go_ret
      exact ⟨_, S1, rfl, by rw [half_all] at hrep; exact hrep, hF, hbel⟩

set_option maxHeartbeats 2000000 in
theorem toTask_c (x : Tk) (a : Value) (S : List Nat) (w : World) (own : Bool) (ha : AggRep w own (encTk x) a S) :
    Calls Tryz.prog 197 #[a] w (RetAgg w (encTk x)) := by
  obtain ⟨_, rfl, ha⟩ := ha
  obtain ⟨rfl, rfl⟩ := tk_cells ha
  clear ha
  go_enter Tryz.func197, Tryz.ntmps197
  go_wp2
  exact bodyPost_ret (v := .agg #[.int .i64 x.state, .int .i64 x.need, .int .i64 x.tri, .int .i64 x.til]) (by simp [results, Tryz.results197, go_sem]) rfl ⟨_, [], rfl, ⟨_, rfl, tk_mk _ _ _⟩, Fresh.nil _, by repeat (first | (with_reducible exact Below.refl _ _) | (with_reducible assumption) | ((with_reducible refine Below.alloc ?_ ?_ _); rotate_left; focus (simp; try omega)) | ((with_reducible refine Below.setCell ?_ ?_ _); rotate_left; focus (simp; try omega)) | (with_reducible refine bl_dn ?_ (by assumption)))⟩

set_option maxHeartbeats 2000000 in
theorem toTaskS_c (l : List (Tk)) (a : Value) (S : List Nat) (w : World) (own : Bool) (ha : Rep w own (encTks l) a S) (hsz : l.length ≤ 2000000) :
    Calls Tryz.prog 167 #[a] w (RetRep w (encTks l)) := by
  obtain ⟨A, c, rfl, hc1, hc2, hca⟩ := Rep.open_ (size := 4) (enc := encTk) (fun _ => rfl) (by decide) ha
  clear ha
  have hszl := hsz
  go_enter Tryz.func167, Tryz.ntmps167
  go_wp2_with (at_make; refine wpList_make_rep (enc := encTk) rfl _ _ rfl slTk (⟨0,0,0,0⟩ : Tk) zTk .i64 .i64 _ _ l.length rfl rfl rfl rfl (by omega) (by unfold maxLen; omega) ?_; intro w1 A1 hr1 hb1)
  go_loopw [4] (fun i wr => ∃ k : Nat, k ≤ l.length ∧ i = .int .i64 k ∧ Fill encTk 4 tTk w (half l (⟨0,0,0,0⟩ : Tk) k) (.slice A1 l.length l.length) wr) (fun i _ => l.length - (intOf i).toNat)
  case atStart => exact ⟨0, by omega, rfl, [w.heap.size], by rw [half_zero]; exact hr1, Fresh.one _ _ (Nat.le_refl _), hb1⟩
  case round =>
    obtain ⟨k, hk, rfl, S1, hrep, hF, hbel⟩ := hrel
    clear hr1 hb1
    by_cases hlt : k < l.length
    · obtain ⟨x, hx⟩ := get_some hlt
      obtain ⟨b1, o1, vk1, T1, rfl, -, hr1, -, -, hb1, hx1⟩ := hca k x hx
      clear hca
      have HX := Lib.hid hx
      clear hx
      obtain ⟨rfl, rfl⟩ := tk_cells hr1
      obtain ⟨g, rfl, -, hg1, hg, -⟩ := Rep.head (enc := encTk) (size := 4) (xs := half l (⟨0,0,0,0⟩ : Tk) k) (fun _ => rfl) (by decide) hrep (by rw [half_len _ _ _ hk]; omega)
      · skip
        have p0 := (hbel.cell (p := ⟨b1, o1 + k * 4, none⟩) hb1).trans (hx1 0 _ rfl : w.cell? ⟨b1, o1 + k * 4, none⟩ = _)
        have p1 := (hbel.cell (p := ⟨b1, o1 + k * 4 + 1, none⟩) hb1).trans (hx1 1 _ rfl : w.cell? ⟨b1, o1 + k * 4 + 1, none⟩ = _)
        have p2 := (hbel.cell (p := ⟨b1, o1 + k * 4 + 2, none⟩) hb1).trans (hx1 2 _ rfl : w.cell? ⟨b1, o1 + k * 4 + 2, none⟩ = _)
        have p3 := (hbel.cell (p := ⟨b1, o1 + k * 4 + 3, none⟩) hb1).trans (hx1 3 _ rfl : w.cell? ⟨b1, o1 + k * 4 + 3, none⟩ = _)
        clear hx1
        go_wp2_with (first
        | (go_at_call 197; refine (toTask_c x _ _ _ _ ⟨_, rfl, hr1.below hbel (Nat.le_refl _)⟩).mono ?_; rintro e w2 ⟨_, Sx, rfl, ⟨vsx, rfl, hrx⟩, hFx, hb2⟩)
        | ((with_reducible refine at_store 98 21 20 ?_); refine wpList_store_rep (enc := encTk) (size := 4) (xs := half l (⟨0,0,0,0⟩ : Tk) k) rfl _ _ _ rfl (fun _ => rfl) (by decide) szTk encTk_one (hrep.below hb2 (Nat.le_refl _)) (k := k) (by rw [half_len _ _ _ hk]; omega) rfl rfl _ rfl x (by simpa using hrx) w.heap.size (Fresh.join hF hFx hbel.size (fun s hs => Rep.lt _ hrep s hs)) ?_; intro S' hr' hF' ho' _ _))
        go_roundw
        case rel =>
          rw [half_set HX.out] at hr'
          refine ⟨k + 1, by omega, by go_num, S', hr', hF', ?_⟩
          exact (bl_dn hbel hb2).trans (ho'.below (by simpa using hF.2 g hg1) (Nat.le_trans hbel.size hb2.size))
        case measure => simp [intOf]; omega
    · obtain rfl : k = l.length := by omega
      clear hca
      go_wp2
      go_ret
      exact ⟨_, S1, rfl, by rw [half_all] at hrep; exact hrep, hF, hbel⟩

set_option maxHeartbeats 2000000 in
theorem toRun_c (x : Rn) (a : Value) (S : List Nat) (w : World) (own : Bool) (ha : AggRep w own (encRn x) a S) (hsz : totRn x ≤ 2000000) :
    Calls Tryz.prog 112 #[a] w (RetAgg w (encRn x)) := by
  obtain ⟨_, rfl, ha⟩ := ha
  obtain ⟨av0, av1, aS0, aS1, rfl, ah0, ah1, rfl⟩ := rn_cells ha
  clear ha
  have hsz1 : totPl x.plan ≤ 2000000 := by simp only [totRn] at hsz; omega
  have hsz2 : x.tasks.length ≤ 2000000 := by simp only [totRn] at hsz; omega
  go_enter Tryz.func112, Tryz.ntmps112
  go_wp2_with (first
    | (go_at_call 166; refine (toPlan_c x.plan _ _ _ _ ⟨_, rfl, pl_mk (ah0.below (by repeat (first | (with_reducible exact Below.refl _ _) | (with_reducible assumption) | ((with_reducible refine Below.alloc ?_ ?_ _); rotate_left; focus (simp; try omega)) | ((with_reducible refine Below.setCell ?_ ?_ _); rotate_left; focus (simp; try omega)) | (with_reducible refine bl_dn ?_ (by assumption)))) (Nat.le_refl _))⟩ hsz1).mono ?_; rintro e w1 ⟨_, S1, rfl, ⟨_, rfl, hr1⟩, hF1, hb1⟩; obtain ⟨r1v0, rfl, r1h0⟩ := pl_cells hr1; obtain ⟨r1v0A, r1v0n, r1v0c, rfl⟩ := Rep.form r1h0; obtain ⟨hc1, hf1⟩ := bcell hb1; (have hz1 := hb1.size); simp at hz1; (have hx1 := (by omega : w.heap.size < w1.heap.size)); (have hy1 := (by omega : w.heap.size + 1 < w1.heap.size)); (have hw1 := (by omega : w.heap.size + 1 + 1 < w1.heap.size)))
    | (go_at_call 167; refine (toTaskS_c x.tasks _ _ _ _ (ah1.below (by repeat (first | (with_reducible exact Below.refl _ _) | (with_reducible assumption) | ((with_reducible refine Below.alloc ?_ ?_ _); rotate_left; focus (simp; try omega)) | ((with_reducible refine Below.setCell ?_ ?_ _); rotate_left; focus (simp; try omega)) | (with_reducible refine bl_dn ?_ (by assumption)))) (Nat.le_refl _)) hsz2).mono ?_; rintro e w2 ⟨r2v0, S2, rfl, r2h0, hF2, hb2⟩; obtain ⟨r2v0A, r2v0n, r2v0c, rfl⟩ := Rep.form r2h0; obtain ⟨hc2, hf2⟩ := bcell hb2; (have hz2 := hb2.size); simp at hz2; (have hx2 := (by omega : w.heap.size < w2.heap.size)); (have hy2 := (by omega : w.heap.size + 1 < w2.heap.size)); (have hw2 := (by omega : w.heap.size + 1 + 1 < w2.heap.size))))
  refine bodyPost_ret (v := .agg #[.int .i64 x.id, .int .i64 x.plan.prio, .int .i64 x.plan.most, .int .i64 x.plan.wait, .int .i64 x.plan.tasks, .slice r1v0A r1v0n r1v0c, .int .i64 x.state, .slice r2v0A r2v0n r2v0c]) (by simp [results, Tryz.results112, go_sem, hc1, hc2, hy1]) rfl ?_
  simp at hF1
  simp at hF2
  refine ⟨_, S1 ++ S2, rfl, ⟨_, rfl, rn_mk ?_ ?_⟩, ?_, ?_⟩
  · repeat (first | (with_reducible exact r1h0) | ((with_reducible refine keep_set ?_ ?_); rotate_left; focus (intro b hb; have := hF1.2 b hb; simp; try omega)) | (with_reducible refine Rep.below ?_ (by assumption) (Nat.le_refl _)))
  · repeat (first | (with_reducible exact r2h0) | ((with_reducible refine keep_set ?_ ?_); rotate_left; focus (intro b hb; have := hF2.2 b hb; simp; try omega)) | (with_reducible refine Rep.below ?_ (by assumption) (Nat.le_refl _)))
  · exact Fresh.join (hF1.mono (by omega)) hF2 (by omega) (fun s hs => Rep.lt _ r1h0 s hs)
  · repeat (first | (with_reducible exact Below.refl _ _) | (with_reducible assumption) | ((with_reducible refine Below.alloc ?_ ?_ _); rotate_left; focus (simp; try omega)) | ((with_reducible refine Below.setCell ?_ ?_ _); rotate_left; focus (simp; try omega)) | (with_reducible refine bl_dn ?_ (by assumption)))

set_option maxHeartbeats 2000000 in
theorem toRunS_c (l : List (Rn)) (a : Value) (S : List Nat) (w : World) (own : Bool) (ha : Rep w own (encRns l) a S) (hsz : totRns l ≤ 2000000) :
    Calls Tryz.prog 49 #[a] w (RetRep w (encRns l)) := by
  obtain ⟨A, c, rfl, hc1, hc2, hca⟩ := Rep.open_ (size := 8) (enc := encRn) (fun _ => rfl) (by decide) ha
  clear ha
  have hszl : l.length ≤ 2000000 := by simp only [totRns] at hsz; omega
  go_enter Tryz.func49, Tryz.ntmps49
  go_wp2_with (at_make; refine wpList_make_rep (enc := encRn) rfl _ _ rfl slRn (⟨0,⟨0,0,0,0,[]⟩,0,[]⟩ : Rn) zRn .i64 .i64 _ _ l.length rfl rfl rfl rfl (by omega) (by unfold maxLen; omega) ?_; intro w1 A1 hr1 hb1)
  go_loopw [4] (fun i wr => ∃ k : Nat, k ≤ l.length ∧ i = .int .i64 k ∧ Fill encRn 8 tRn w (half l (⟨0,⟨0,0,0,0,[]⟩,0,[]⟩ : Rn) k) (.slice A1 l.length l.length) wr) (fun i _ => l.length - (intOf i).toNat)
  case atStart => exact ⟨0, by omega, rfl, [w.heap.size], by rw [half_zero]; exact hr1, Fresh.one _ _ (Nat.le_refl _), hb1⟩
  case round =>
    obtain ⟨k, hk, rfl, S1, hrep, hF, hbel⟩ := hrel
    clear hr1 hb1
    by_cases hlt : k < l.length
    · obtain ⟨x, hx⟩ := get_some hlt
      obtain ⟨b1, o1, vk1, T1, rfl, -, hr1, -, -, hb1, hx1⟩ := hca k x hx
      clear hca
      have HX := Lib.hid hx
      clear hx
      obtain ⟨av0, av1, aS0, aS1, rfl, ah0, ah1, rfl⟩ := rn_cells hr1
      obtain ⟨g, rfl, -, hg1, hg, -⟩ := Rep.head (enc := encRn) (size := 8) (xs := half l (⟨0,⟨0,0,0,0,[]⟩,0,[]⟩ : Rn) k) (fun _ => rfl) (by decide) hrep (by rw [half_len _ _ _ hk]; omega)
      · skip
        have hszx : totRn x ≤ 2000000 := by have := tsum_get (tot := totRn) HX.out; simp only [totRns] at hsz; omega
        have p0 := (hbel.cell (p := ⟨b1, o1 + k * 8, none⟩) hb1).trans (hx1 0 _ rfl : w.cell? ⟨b1, o1 + k * 8, none⟩ = _)
        have p1 := (hbel.cell (p := ⟨b1, o1 + k * 8 + 1, none⟩) hb1).trans (hx1 1 _ rfl : w.cell? ⟨b1, o1 + k * 8 + 1, none⟩ = _)
        have p2 := (hbel.cell (p := ⟨b1, o1 + k * 8 + 2, none⟩) hb1).trans (hx1 2 _ rfl : w.cell? ⟨b1, o1 + k * 8 + 2, none⟩ = _)
        have p3 := (hbel.cell (p := ⟨b1, o1 + k * 8 + 3, none⟩) hb1).trans (hx1 3 _ rfl : w.cell? ⟨b1, o1 + k * 8 + 3, none⟩ = _)
        have p4 := (hbel.cell (p := ⟨b1, o1 + k * 8 + 4, none⟩) hb1).trans (hx1 4 _ rfl : w.cell? ⟨b1, o1 + k * 8 + 4, none⟩ = _)
        have p5 := (hbel.cell (p := ⟨b1, o1 + k * 8 + 5, none⟩) hb1).trans (hx1 5 _ rfl : w.cell? ⟨b1, o1 + k * 8 + 5, none⟩ = _)
        have p6 := (hbel.cell (p := ⟨b1, o1 + k * 8 + 6, none⟩) hb1).trans (hx1 6 _ rfl : w.cell? ⟨b1, o1 + k * 8 + 6, none⟩ = _)
        have p7 := (hbel.cell (p := ⟨b1, o1 + k * 8 + 7, none⟩) hb1).trans (hx1 7 _ rfl : w.cell? ⟨b1, o1 + k * 8 + 7, none⟩ = _)
        clear hx1
        go_wp2_with (first
        | (go_at_call 112; refine (toRun_c x _ _ _ _ ⟨_, rfl, hr1.below hbel (Nat.le_refl _)⟩ hszx).mono ?_; rintro e w2 ⟨_, Sx, rfl, ⟨vsx, rfl, hrx⟩, hFx, hb2⟩)
        | ((with_reducible refine at_store 80 21 20 ?_); refine wpList_store_rep (enc := encRn) (size := 8) (xs := half l (⟨0,⟨0,0,0,0,[]⟩,0,[]⟩ : Rn) k) rfl _ _ _ rfl (fun _ => rfl) (by decide) szRn encRn_one (hrep.below hb2 (Nat.le_refl _)) (k := k) (by rw [half_len _ _ _ hk]; omega) rfl rfl _ rfl x (by simpa using hrx) w.heap.size (Fresh.join hF hFx hbel.size (fun s hs => Rep.lt _ hrep s hs)) ?_; intro S' hr' hF' ho' _ _))
        go_roundw
        case rel =>
          rw [half_set HX.out] at hr'
          refine ⟨k + 1, by omega, by go_num, S', hr', hF', ?_⟩
          exact (bl_dn hbel hb2).trans (ho'.below (by simpa using hF.2 g hg1) (Nat.le_trans hbel.size hb2.size))
        case measure => simp [intOf]; omega
    · obtain rfl : k = l.length := by omega
      clear hca
      go_wp2
      go_ret
      exact ⟨_, S1, rfl, by rw [half_all] at hrep; exact hrep, hF, hbel⟩

set_option maxHeartbeats 2000000 in
theorem toYard_c (x : Yd) (a : Value) (S : List Nat) (w : World) (own : Bool) (ha : AggRep w own (encYd x) a S) (hsz : totYd x ≤ 2000000) :
    Calls Tryz.prog 13 #[a] w (RetAgg w (encYd x)) := by
  obtain ⟨_, rfl, ha⟩ := ha
  obtain ⟨av0, av1, aS0, aS1, rfl, ah0, ah1, rfl⟩ := yd_cells ha
  clear ha
  have hsz1 : totSh x.shelf ≤ 2000000 := by simp only [totYd] at hsz; omega
  have hsz2 : totRns x.runs ≤ 2000000 := by simp only [totYd] at hsz; omega
  go_enter Tryz.func13, Tryz.ntmps13
  go_wp2_with (first
    | (go_at_call 48; refine (toEntrySS_c x.shelf _ _ _ _ (ah0.below (by repeat (first | (with_reducible exact Below.refl _ _) | (with_reducible assumption) | ((with_reducible refine Below.alloc ?_ ?_ _); rotate_left; focus (simp; try omega)) | ((with_reducible refine Below.setCell ?_ ?_ _); rotate_left; focus (simp; try omega)) | (with_reducible refine bl_dn ?_ (by assumption)))) (Nat.le_refl _)) hsz1).mono ?_; rintro e w1 ⟨r1v0, S1, rfl, r1h0, hF1, hb1⟩; obtain ⟨r1v0A, r1v0n, r1v0c, rfl⟩ := Rep.form r1h0; obtain ⟨hc1, hf1⟩ := bcell hb1; (have hz1 := hb1.size); simp at hz1; (have hx1 := (by omega : w.heap.size < w1.heap.size)); (have hy1 := (by omega : w.heap.size + 1 < w1.heap.size)); (have hw1 := (by omega : w.heap.size + 1 + 1 < w1.heap.size)))
    | (go_at_call 49; refine (toRunS_c x.runs _ _ _ _ (ah1.below (by repeat (first | (with_reducible exact Below.refl _ _) | (with_reducible assumption) | ((with_reducible refine Below.alloc ?_ ?_ _); rotate_left; focus (simp; try omega)) | ((with_reducible refine Below.setCell ?_ ?_ _); rotate_left; focus (simp; try omega)) | (with_reducible refine bl_dn ?_ (by assumption)))) (Nat.le_refl _)) hsz2).mono ?_; rintro e w2 ⟨r2v0, S2, rfl, r2h0, hF2, hb2⟩; obtain ⟨r2v0A, r2v0n, r2v0c, rfl⟩ := Rep.form r2h0; obtain ⟨hc2, hf2⟩ := bcell hb2; (have hz2 := hb2.size); simp at hz2; (have hx2 := (by omega : w.heap.size < w2.heap.size)); (have hy2 := (by omega : w.heap.size + 1 < w2.heap.size)); (have hw2 := (by omega : w.heap.size + 1 + 1 < w2.heap.size))))
  refine bodyPost_ret (v := .agg #[.int .i64 x.now, .int .i64 x.seq, .slice r1v0A r1v0n r1v0c, .slice r2v0A r2v0n r2v0c]) (by simp [results, Tryz.results13, go_sem, hc1, hc2, hy1]) rfl ?_
  simp at hF1
  simp at hF2
  refine ⟨_, S1 ++ S2, rfl, ⟨_, rfl, yd_mk ?_ ?_⟩, ?_, ?_⟩
  · repeat (first | (with_reducible exact r1h0) | ((with_reducible refine keep_set ?_ ?_); rotate_left; focus (intro b hb; have := hF1.2 b hb; simp; try omega)) | (with_reducible refine Rep.below ?_ (by assumption) (Nat.le_refl _)))
  · repeat (first | (with_reducible exact r2h0) | ((with_reducible refine keep_set ?_ ?_); rotate_left; focus (intro b hb; have := hF2.2 b hb; simp; try omega)) | (with_reducible refine Rep.below ?_ (by assumption) (Nat.le_refl _)))
  · exact Fresh.join (hF1.mono (by omega)) hF2 (by omega) (fun s hs => Rep.lt _ r1h0 s hs)
  · repeat (first | (with_reducible exact Below.refl _ _) | (with_reducible assumption) | ((with_reducible refine Below.alloc ?_ ?_ _); rotate_left; focus (simp; try omega)) | ((with_reducible refine Below.setCell ?_ ?_ _); rotate_left; focus (simp; try omega)) | (with_reducible refine bl_dn ?_ (by assumption)))




end Go.Proofs.YtnhdcbhcocgjhaaGreat
namespace Go.Proofs.YtnhdcbhcocgjhaaGreat
open Go.RowKit Go.Sort Go.BigFrame

set_option maxHeartbeats 1000000 in
theorem eqEdge_c (x y : Ed) (a b : Value) (S S' : List Nat) (w : World) (own own' : Bool) (ha : AggRep w own (encEd x) a S) (hb : AggRep w own' (encEd y) b S') :
    Calls Tryz.prog 225 #[a, b] w fun e w' => e = .returned (.bool (decide (x = y))) ∧ Below w.heap.size w w' := by
  obtain ⟨_, rfl, ha⟩ := ha
  obtain ⟨_, rfl, hb⟩ := hb
  obtain ⟨rfl, rfl⟩ := ed_cells ha
  obtain ⟨rfl, rfl⟩ := ed_cells hb
  clear ha hb
  obtain ⟨xsrc, xdst⟩ := x
  obtain ⟨ysrc, ydst⟩ := y
  go_enter Tryz.func225, Tryz.ntmps225
  go_wp2
  all_goals go_ret
  all_goals refine ⟨?_, (by repeat (first | exact Below.refl _ _ | assumption | refine Below.alloc ?_ (by simp; try omega) _ | refine bl_dn ?_ (by assumption)))⟩
  all_goals simp_all

set_option maxHeartbeats 1000000 in
theorem eqEdgeS_c (l m : List (Ed)) (a b : Value) (S S' : List Nat) (w : World) (own own' : Bool) (ha : Rep w own (encEds l) a S) (hb : Rep w own' (encEds m) b S') :
    Calls Tryz.prog 204 #[a, b] w fun e w' => e = .returned (.bool (decide (l = m))) ∧ Below w.heap.size w w' := by
  obtain ⟨A, c, rfl, hc1, hc2, hca⟩ := Rep.open_ (size := 2) (enc := encEd) (fun _ => rfl) (by decide) ha
  obtain ⟨B, d, rfl, hd1, hd2, hdb⟩ := Rep.open_ (size := 2) (enc := encEd) (fun _ => rfl) (by decide) hb
  unfold maxLen at hc2 hd2
  have hl1 : l.length ≤ 9223372036854775807 := by omega
  have hl2 : m.length ≤ 9223372036854775807 := by omega
  clear ha hb
  by_cases hlen : l.length = m.length
  · have HL := Lib.hid hlen
    have hne : ((l.length : Int) != (m.length : Int)) = false := by rw [hlen]; simp
    clear hlen
    go_enter Tryz.func204, Tryz.ntmps204
    go_wp2
    go_loopw [5] (fun i wr => ∃ k : Nat, k ≤ l.length ∧ i = .int .i64 k ∧ l.take k = m.take k ∧ Below w.heap.size w wr) (fun i _ => l.length - (intOf i).toNat)
    case atStart => exact ⟨0, by omega, rfl, rfl, Below.refl _ _⟩
    case round =>
      obtain ⟨k, hk, rfl, heq, hbel⟩ := hrel
      have HQ := Lib.hid heq
      clear heq
      by_cases hlt : k < l.length
      · have hlt' : k < m.length := by have := HL.out; omega
        obtain ⟨x, hx⟩ := get_some hlt
        obtain ⟨y, hy⟩ := get_some hlt'
        obtain ⟨b1, o1, vk1, T1, rfl, -, hr1, -, -, hb1, hx1⟩ := hca k x hx
        obtain ⟨b2, o2, vk2, T2, rfl, -, hr2, -, -, hb2, hx2⟩ := hdb k y hy
        clear hca hdb
        obtain ⟨rfl, rfl⟩ := ed_cells hr1
        obtain ⟨rfl, rfl⟩ := ed_cells hr2
        have HX := Lib.hid hx
        have HY := Lib.hid hy
        clear hx hy
        have p0 := cell_regrown ((hbel.cell (p := ⟨b1, o1 + k * 2, none⟩) hb1).trans (hx1 0 _ rfl : w.cell? ⟨b1, o1 + k * 2, none⟩ = _))
        have p1 := cell_regrown ((hbel.cell (p := ⟨b1, o1 + k * 2 + 1, none⟩) hb1).trans (hx1 1 _ rfl : w.cell? ⟨b1, o1 + k * 2 + 1, none⟩ = _))
        have q0 := cell_regrown ((hbel.cell (p := ⟨b2, o2 + k * 2, none⟩) hb2).trans (hx2 0 _ rfl : w.cell? ⟨b2, o2 + k * 2, none⟩ = _))
        have q1 := cell_regrown ((hbel.cell (p := ⟨b2, o2 + k * 2 + 1, none⟩) hb2).trans (hx2 1 _ rfl : w.cell? ⟨b2, o2 + k * 2 + 1, none⟩ = _))
        have hcall := fun (W : World) (hW : Below w.heap.size w W) => eqEdge_c x y _ _ _ _ W own own' ⟨_, rfl, hr1.below hW (Nat.le_refl _)⟩ ⟨_, rfl, hr2.below hW (Nat.le_refl _)⟩
        clear hx1 hx2
        by_cases hxy : x = y
        · have HXY := Lib.hid hxy
          clear hxy
          go_wp2
          refine wp_region_quiet_below (by kernel_rfl) (by kernel_rfl) ?_
          repeat (go_big_quiet_step (exact Calls.regrown_of (cb (hcall _ (hbel.trans ((below_regrown wr _ _).mono hbel.size))) (decide_eq_true HXY.out))))
          refine wpQuiet_nil ?_
          intro _ hw'
          obtain ⟨⟨dq, osq⟩, hw''⟩ := hw'
          subst hw''
          have hbel2 := hbel.trans ((below_regrown wr dq osq).mono hbel.size)
          go_wp2
          go_roundw
          case rel => exact ⟨k + 1, by omega, by go_num, eqS_step HX.out (HXY.out ▸ HY.out) HQ.out, hbel2⟩
          case measure => simp [intOf]; omega
        · go_wp2
          refine wp_region_quiet_below (by kernel_rfl) (by kernel_rfl) ?_
          repeat (go_big_quiet_step (exact Calls.regrown_of (cb (hcall _ (hbel.trans ((below_regrown wr _ _).mono hbel.size))) (decide_eq_false hxy))))
          refine wpQuiet_nil ?_
          intro _ hw'
          obtain ⟨⟨dq, osq⟩, hw''⟩ := hw'
          subst hw''
          have hbel2 := hbel.trans ((below_regrown wr dq osq).mono hbel.size)
          go_wp2
          go_ret
          exact ⟨ret_bool (decide_eq_false (eqS_ne HX.out HY.out hxy)).symm, hbel2⟩
      · clear hca hdb
        go_wp2
        go_ret
        exact ⟨ret_bool (decide_eq_true (eqS_done (k := k) (by omega) (by have := HL.out; omega) HQ.out)).symm, hbel⟩
  · have hne : ((l.length : Int) != (m.length : Int)) = true := bne_iff_ne.2 (by omega)
    clear hca hdb
    go_enter Tryz.func204, Tryz.ntmps204
    go_wp2
    go_ret
    exact ⟨ret_bool (decide_eq_false (fun e => hlen (by rw [e]))).symm, Below.refl _ _⟩

set_option maxHeartbeats 1000000 in
theorem eqPlan_c (x y : Pl) (a b : Value) (S S' : List Nat) (w : World) (own own' : Bool) (ha : AggRep w own (encPl x) a S) (hb : AggRep w own' (encPl y) b S') :
    Calls Tryz.prog 174 #[a, b] w fun e w' => e = .returned (.bool (decide (x = y))) ∧ Below w.heap.size w w' := by
  obtain ⟨_, rfl, ha⟩ := ha
  obtain ⟨_, rfl, hb⟩ := hb
  obtain ⟨av0, rfl, ah0⟩ := pl_cells ha
  obtain ⟨bv0, rfl, bh0⟩ := pl_cells hb
  clear ha hb
  obtain ⟨xprio, xmost, xwait, xtasks, xedges⟩ := x
  obtain ⟨yprio, ymost, ywait, ytasks, yedges⟩ := y
  go_enter Tryz.func174, Tryz.ntmps174
  go_wp2_with (first
    | (go_at_call 204; refine (eqEdgeS_c xedges yedges _ _ _ _ _ _ _ (ah0.below (by repeat (first | exact Below.refl _ _ | assumption | refine Below.alloc ?_ (by simp; try omega) _ | refine bl_dn ?_ (by assumption))) (Nat.le_refl _)) (bh0.below (by repeat (first | exact Below.refl _ _ | assumption | refine Below.alloc ?_ (by simp; try omega) _ | refine bl_dn ?_ (by assumption))) (Nat.le_refl _))).mono ?_; rintro e w1 ⟨rfl, hb1⟩; obtain ⟨hc1, hf1⟩ := bcell hb1))
  all_goals go_ret
  all_goals refine ⟨?_, (by repeat (first | exact Below.refl _ _ | assumption | refine Below.alloc ?_ (by simp; try omega) _ | refine bl_dn ?_ (by assumption)))⟩
  all_goals simp_all

set_option maxHeartbeats 1000000 in
theorem eqEntry_c (x y : En) (a b : Value) (S S' : List Nat) (w : World) (own own' : Bool) (ha : AggRep w own (encEn x) a S) (hb : AggRep w own' (encEn y) b S') :
    Calls Tryz.prog 173 #[a, b] w fun e w' => e = .returned (.bool (decide (x = y))) ∧ Below w.heap.size w w' := by
  obtain ⟨_, rfl, ha⟩ := ha
  obtain ⟨_, rfl, hb⟩ := hb
  obtain ⟨rfl, rfl⟩ := en_cells ha
  obtain ⟨rfl, rfl⟩ := en_cells hb
  clear ha hb
  obtain ⟨xprio, xseq, xrun, xtask⟩ := x
  obtain ⟨yprio, yseq, yrun, ytask⟩ := y
  go_enter Tryz.func173, Tryz.ntmps173
  go_wp2
  all_goals go_ret
  all_goals refine ⟨?_, (by repeat (first | exact Below.refl _ _ | assumption | refine Below.alloc ?_ (by simp; try omega) _ | refine bl_dn ?_ (by assumption)))⟩
  all_goals simp_all

set_option maxHeartbeats 1000000 in
theorem eqEntryS_c (l m : List (En)) (a b : Value) (S S' : List Nat) (w : World) (own own' : Bool) (ha : Rep w own (encEns l) a S) (hb : Rep w own' (encEns m) b S') :
    Calls Tryz.prog 121 #[a, b] w fun e w' => e = .returned (.bool (decide (l = m))) ∧ Below w.heap.size w w' := by
  obtain ⟨A, c, rfl, hc1, hc2, hca⟩ := Rep.open_ (size := 4) (enc := encEn) (fun _ => rfl) (by decide) ha
  obtain ⟨B, d, rfl, hd1, hd2, hdb⟩ := Rep.open_ (size := 4) (enc := encEn) (fun _ => rfl) (by decide) hb
  unfold maxLen at hc2 hd2
  have hl1 : l.length ≤ 9223372036854775807 := by omega
  have hl2 : m.length ≤ 9223372036854775807 := by omega
  clear ha hb
  by_cases hlen : l.length = m.length
  · have HL := Lib.hid hlen
    have hne : ((l.length : Int) != (m.length : Int)) = false := by rw [hlen]; simp
    clear hlen
    go_enter Tryz.func121, Tryz.ntmps121
    go_wp2
    go_loopw [5] (fun i wr => ∃ k : Nat, k ≤ l.length ∧ i = .int .i64 k ∧ l.take k = m.take k ∧ Below w.heap.size w wr) (fun i _ => l.length - (intOf i).toNat)
    case atStart => exact ⟨0, by omega, rfl, rfl, Below.refl _ _⟩
    case round =>
      obtain ⟨k, hk, rfl, heq, hbel⟩ := hrel
      have HQ := Lib.hid heq
      clear heq
      by_cases hlt : k < l.length
      · have hlt' : k < m.length := by have := HL.out; omega
        obtain ⟨x, hx⟩ := get_some hlt
        obtain ⟨y, hy⟩ := get_some hlt'
        obtain ⟨b1, o1, vk1, T1, rfl, -, hr1, -, -, hb1, hx1⟩ := hca k x hx
        obtain ⟨b2, o2, vk2, T2, rfl, -, hr2, -, -, hb2, hx2⟩ := hdb k y hy
        clear hca hdb
        obtain ⟨rfl, rfl⟩ := en_cells hr1
        obtain ⟨rfl, rfl⟩ := en_cells hr2
        have HX := Lib.hid hx
        have HY := Lib.hid hy
        clear hx hy
        have p0 := cell_regrown ((hbel.cell (p := ⟨b1, o1 + k * 4, none⟩) hb1).trans (hx1 0 _ rfl : w.cell? ⟨b1, o1 + k * 4, none⟩ = _))
        have p1 := cell_regrown ((hbel.cell (p := ⟨b1, o1 + k * 4 + 1, none⟩) hb1).trans (hx1 1 _ rfl : w.cell? ⟨b1, o1 + k * 4 + 1, none⟩ = _))
        have p2 := cell_regrown ((hbel.cell (p := ⟨b1, o1 + k * 4 + 2, none⟩) hb1).trans (hx1 2 _ rfl : w.cell? ⟨b1, o1 + k * 4 + 2, none⟩ = _))
        have p3 := cell_regrown ((hbel.cell (p := ⟨b1, o1 + k * 4 + 3, none⟩) hb1).trans (hx1 3 _ rfl : w.cell? ⟨b1, o1 + k * 4 + 3, none⟩ = _))
        have q0 := cell_regrown ((hbel.cell (p := ⟨b2, o2 + k * 4, none⟩) hb2).trans (hx2 0 _ rfl : w.cell? ⟨b2, o2 + k * 4, none⟩ = _))
        have q1 := cell_regrown ((hbel.cell (p := ⟨b2, o2 + k * 4 + 1, none⟩) hb2).trans (hx2 1 _ rfl : w.cell? ⟨b2, o2 + k * 4 + 1, none⟩ = _))
        have q2 := cell_regrown ((hbel.cell (p := ⟨b2, o2 + k * 4 + 2, none⟩) hb2).trans (hx2 2 _ rfl : w.cell? ⟨b2, o2 + k * 4 + 2, none⟩ = _))
        have q3 := cell_regrown ((hbel.cell (p := ⟨b2, o2 + k * 4 + 3, none⟩) hb2).trans (hx2 3 _ rfl : w.cell? ⟨b2, o2 + k * 4 + 3, none⟩ = _))
        have hcall := fun (W : World) (hW : Below w.heap.size w W) => eqEntry_c x y _ _ _ _ W own own' ⟨_, rfl, hr1.below hW (Nat.le_refl _)⟩ ⟨_, rfl, hr2.below hW (Nat.le_refl _)⟩
        clear hx1 hx2
        by_cases hxy : x = y
        · have HXY := Lib.hid hxy
          clear hxy
          go_wp2
          refine wp_region_quiet_below (by kernel_rfl) (by kernel_rfl) ?_
          repeat (go_big_quiet_step (exact Calls.regrown_of (cb (hcall _ (hbel.trans ((below_regrown wr _ _).mono hbel.size))) (decide_eq_true HXY.out))))
          refine wpQuiet_nil ?_
          intro _ hw'
          obtain ⟨⟨dq, osq⟩, hw''⟩ := hw'
          subst hw''
          have hbel2 := hbel.trans ((below_regrown wr dq osq).mono hbel.size)
          go_wp2
          go_roundw
          case rel => exact ⟨k + 1, by omega, by go_num, eqS_step HX.out (HXY.out ▸ HY.out) HQ.out, hbel2⟩
          case measure => simp [intOf]; omega
        · go_wp2
          refine wp_region_quiet_below (by kernel_rfl) (by kernel_rfl) ?_
          repeat (go_big_quiet_step (exact Calls.regrown_of (cb (hcall _ (hbel.trans ((below_regrown wr _ _).mono hbel.size))) (decide_eq_false hxy))))
          refine wpQuiet_nil ?_
          intro _ hw'
          obtain ⟨⟨dq, osq⟩, hw''⟩ := hw'
          subst hw''
          have hbel2 := hbel.trans ((below_regrown wr dq osq).mono hbel.size)
          go_wp2
          go_ret
          exact ⟨ret_bool (decide_eq_false (eqS_ne HX.out HY.out hxy)).symm, hbel2⟩
      · clear hca hdb
        go_wp2
        go_ret
        exact ⟨ret_bool (decide_eq_true (eqS_done (k := k) (by omega) (by have := HL.out; omega) HQ.out)).symm, hbel⟩
  · have hne : ((l.length : Int) != (m.length : Int)) = true := bne_iff_ne.2 (by omega)
    clear hca hdb
    go_enter Tryz.func121, Tryz.ntmps121
    go_wp2
    go_ret
    exact ⟨ret_bool (decide_eq_false (fun e => hlen (by rw [e]))).symm, Below.refl _ _⟩

set_option maxHeartbeats 1000000 in
theorem eqEntrySS_c (l m : List (List En)) (a b : Value) (S S' : List Nat) (w : World) (own own' : Bool) (ha : Rep w own (encSh l) a S) (hb : Rep w own' (encSh m) b S') :
    Calls Tryz.prog 56 #[a, b] w fun e w' => e = .returned (.bool (decide (l = m))) ∧ Below w.heap.size w w' := by
  obtain ⟨A, c, rfl, hc1, hc2, hca⟩ := Rep.open_ (size := 1) (enc := fun es => [encEns es]) (fun _ => rfl) (by decide) ha
  obtain ⟨B, d, rfl, hd1, hd2, hdb⟩ := Rep.open_ (size := 1) (enc := fun es => [encEns es]) (fun _ => rfl) (by decide) hb
  unfold maxLen at hc2 hd2
  have hl1 : l.length ≤ 9223372036854775807 := by omega
  have hl2 : m.length ≤ 9223372036854775807 := by omega
  clear ha hb
  by_cases hlen : l.length = m.length
  · have HL := Lib.hid hlen
    have hne : ((l.length : Int) != (m.length : Int)) = false := by rw [hlen]; simp
    clear hlen
    go_enter Tryz.func56, Tryz.ntmps56
    go_wp2
    go_loopw [5] (fun i wr => ∃ k : Nat, k ≤ l.length ∧ i = .int .i64 k ∧ l.take k = m.take k ∧ Below w.heap.size w wr) (fun i _ => l.length - (intOf i).toNat)
    case atStart => exact ⟨0, by omega, rfl, rfl, Below.refl _ _⟩
    case round =>
      obtain ⟨k, hk, rfl, heq, hbel⟩ := hrel
      have HQ := Lib.hid heq
      clear heq
      by_cases hlt : k < l.length
      · have hlt' : k < m.length := by have := HL.out; omega
        obtain ⟨x, hx⟩ := get_some hlt
        obtain ⟨y, hy⟩ := get_some hlt'
        obtain ⟨b1, o1, vk1, T1, rfl, -, hr1, -, -, hb1, hx1⟩ := hca k x hx
        obtain ⟨b2, o2, vk2, T2, rfl, -, hr2, -, -, hb2, hx2⟩ := hdb k y hy
        clear hca hdb
        obtain ⟨au, _, aS0, aS1, rfl, rfl, ah0, rfl, rfl⟩ := hr1
        obtain ⟨bu, _, bS0, bS1, rfl, rfl, bh0, rfl, rfl⟩ := hr2
        have HX := Lib.hid hx
        have HY := Lib.hid hy
        clear hx hy
        have p0 := cell_regrown ((hbel.cell (p := ⟨b1, o1 + k, none⟩) hb1).trans (by simpa using hx1 0 _ rfl : w.cell? ⟨b1, o1 + k, none⟩ = _))
        have q0 := cell_regrown ((hbel.cell (p := ⟨b2, o2 + k, none⟩) hb2).trans (by simpa using hx2 0 _ rfl : w.cell? ⟨b2, o2 + k, none⟩ = _))
        have hcall := fun (W : World) (hW : Below w.heap.size w W) => eqEntryS_c x y _ _ _ _ W own own' (ah0.below hW (Nat.le_refl _)) (bh0.below hW (Nat.le_refl _))
        clear hx1 hx2
        by_cases hxy : x = y
        · have HXY := Lib.hid hxy
          clear hxy
          go_wp2
          refine wp_region_quiet_below (by kernel_rfl) (by kernel_rfl) ?_
          repeat (go_big_quiet_step (exact Calls.regrown_of (cb (hcall _ (hbel.trans ((below_regrown wr _ _).mono hbel.size))) (decide_eq_true HXY.out))))
          refine wpQuiet_nil ?_
          intro _ hw'
          obtain ⟨⟨dq, osq⟩, hw''⟩ := hw'
          subst hw''
          have hbel2 := hbel.trans ((below_regrown wr dq osq).mono hbel.size)
          go_wp2
          go_roundw
          case rel => exact ⟨k + 1, by omega, by go_num, eqS_step HX.out (HXY.out ▸ HY.out) HQ.out, hbel2⟩
          case measure => simp [intOf]; omega
        · go_wp2
          refine wp_region_quiet_below (by kernel_rfl) (by kernel_rfl) ?_
          repeat (go_big_quiet_step (exact Calls.regrown_of (cb (hcall _ (hbel.trans ((below_regrown wr _ _).mono hbel.size))) (decide_eq_false hxy))))
          refine wpQuiet_nil ?_
          intro _ hw'
          obtain ⟨⟨dq, osq⟩, hw''⟩ := hw'
          subst hw''
          have hbel2 := hbel.trans ((below_regrown wr dq osq).mono hbel.size)
          go_wp2
          go_ret
          exact ⟨ret_bool (decide_eq_false (eqS_ne HX.out HY.out hxy)).symm, hbel2⟩
      · clear hca hdb
        go_wp2
        go_ret
        exact ⟨ret_bool (decide_eq_true (eqS_done (k := k) (by omega) (by have := HL.out; omega) HQ.out)).symm, hbel⟩
  · have hne : ((l.length : Int) != (m.length : Int)) = true := bne_iff_ne.2 (by omega)
    clear hca hdb
    go_enter Tryz.func56, Tryz.ntmps56
    go_wp2
    go_ret
    exact ⟨ret_bool (decide_eq_false (fun e => hlen (by rw [e]))).symm, Below.refl _ _⟩

set_option maxHeartbeats 1000000 in
theorem eqTask_c (x y : Tk) (a b : Value) (S S' : List Nat) (w : World) (own own' : Bool) (ha : AggRep w own (encTk x) a S) (hb : AggRep w own' (encTk y) b S') :
    Calls Tryz.prog 205 #[a, b] w fun e w' => e = .returned (.bool (decide (x = y))) ∧ Below w.heap.size w w' := by
  obtain ⟨_, rfl, ha⟩ := ha
  obtain ⟨_, rfl, hb⟩ := hb
  obtain ⟨rfl, rfl⟩ := tk_cells ha
  obtain ⟨rfl, rfl⟩ := tk_cells hb
  clear ha hb
  obtain ⟨xstate, xneed, xtri, xtil⟩ := x
  obtain ⟨ystate, yneed, ytri, ytil⟩ := y
  go_enter Tryz.func205, Tryz.ntmps205
  go_wp2
  all_goals go_ret
  all_goals refine ⟨?_, (by repeat (first | exact Below.refl _ _ | assumption | refine Below.alloc ?_ (by simp; try omega) _ | refine bl_dn ?_ (by assumption)))⟩
  all_goals simp_all

set_option maxHeartbeats 1000000 in
theorem eqTaskS_c (l m : List (Tk)) (a b : Value) (S S' : List Nat) (w : World) (own own' : Bool) (ha : Rep w own (encTks l) a S) (hb : Rep w own' (encTks m) b S') :
    Calls Tryz.prog 175 #[a, b] w fun e w' => e = .returned (.bool (decide (l = m))) ∧ Below w.heap.size w w' := by
  obtain ⟨A, c, rfl, hc1, hc2, hca⟩ := Rep.open_ (size := 4) (enc := encTk) (fun _ => rfl) (by decide) ha
  obtain ⟨B, d, rfl, hd1, hd2, hdb⟩ := Rep.open_ (size := 4) (enc := encTk) (fun _ => rfl) (by decide) hb
  unfold maxLen at hc2 hd2
  have hl1 : l.length ≤ 9223372036854775807 := by omega
  have hl2 : m.length ≤ 9223372036854775807 := by omega
  clear ha hb
  by_cases hlen : l.length = m.length
  · have HL := Lib.hid hlen
    have hne : ((l.length : Int) != (m.length : Int)) = false := by rw [hlen]; simp
    clear hlen
    go_enter Tryz.func175, Tryz.ntmps175
    go_wp2
    go_loopw [5] (fun i wr => ∃ k : Nat, k ≤ l.length ∧ i = .int .i64 k ∧ l.take k = m.take k ∧ Below w.heap.size w wr) (fun i _ => l.length - (intOf i).toNat)
    case atStart => exact ⟨0, by omega, rfl, rfl, Below.refl _ _⟩
    case round =>
      obtain ⟨k, hk, rfl, heq, hbel⟩ := hrel
      have HQ := Lib.hid heq
      clear heq
      by_cases hlt : k < l.length
      · have hlt' : k < m.length := by have := HL.out; omega
        obtain ⟨x, hx⟩ := get_some hlt
        obtain ⟨y, hy⟩ := get_some hlt'
        obtain ⟨b1, o1, vk1, T1, rfl, -, hr1, -, -, hb1, hx1⟩ := hca k x hx
        obtain ⟨b2, o2, vk2, T2, rfl, -, hr2, -, -, hb2, hx2⟩ := hdb k y hy
        clear hca hdb
        obtain ⟨rfl, rfl⟩ := tk_cells hr1
        obtain ⟨rfl, rfl⟩ := tk_cells hr2
        have HX := Lib.hid hx
        have HY := Lib.hid hy
        clear hx hy
        have p0 := cell_regrown ((hbel.cell (p := ⟨b1, o1 + k * 4, none⟩) hb1).trans (hx1 0 _ rfl : w.cell? ⟨b1, o1 + k * 4, none⟩ = _))
        have p1 := cell_regrown ((hbel.cell (p := ⟨b1, o1 + k * 4 + 1, none⟩) hb1).trans (hx1 1 _ rfl : w.cell? ⟨b1, o1 + k * 4 + 1, none⟩ = _))
        have p2 := cell_regrown ((hbel.cell (p := ⟨b1, o1 + k * 4 + 2, none⟩) hb1).trans (hx1 2 _ rfl : w.cell? ⟨b1, o1 + k * 4 + 2, none⟩ = _))
        have p3 := cell_regrown ((hbel.cell (p := ⟨b1, o1 + k * 4 + 3, none⟩) hb1).trans (hx1 3 _ rfl : w.cell? ⟨b1, o1 + k * 4 + 3, none⟩ = _))
        have q0 := cell_regrown ((hbel.cell (p := ⟨b2, o2 + k * 4, none⟩) hb2).trans (hx2 0 _ rfl : w.cell? ⟨b2, o2 + k * 4, none⟩ = _))
        have q1 := cell_regrown ((hbel.cell (p := ⟨b2, o2 + k * 4 + 1, none⟩) hb2).trans (hx2 1 _ rfl : w.cell? ⟨b2, o2 + k * 4 + 1, none⟩ = _))
        have q2 := cell_regrown ((hbel.cell (p := ⟨b2, o2 + k * 4 + 2, none⟩) hb2).trans (hx2 2 _ rfl : w.cell? ⟨b2, o2 + k * 4 + 2, none⟩ = _))
        have q3 := cell_regrown ((hbel.cell (p := ⟨b2, o2 + k * 4 + 3, none⟩) hb2).trans (hx2 3 _ rfl : w.cell? ⟨b2, o2 + k * 4 + 3, none⟩ = _))
        have hcall := fun (W : World) (hW : Below w.heap.size w W) => eqTask_c x y _ _ _ _ W own own' ⟨_, rfl, hr1.below hW (Nat.le_refl _)⟩ ⟨_, rfl, hr2.below hW (Nat.le_refl _)⟩
        clear hx1 hx2
        by_cases hxy : x = y
        · have HXY := Lib.hid hxy
          clear hxy
          go_wp2
          refine wp_region_quiet_below (by kernel_rfl) (by kernel_rfl) ?_
          repeat (go_big_quiet_step (exact Calls.regrown_of (cb (hcall _ (hbel.trans ((below_regrown wr _ _).mono hbel.size))) (decide_eq_true HXY.out))))
          refine wpQuiet_nil ?_
          intro _ hw'
          obtain ⟨⟨dq, osq⟩, hw''⟩ := hw'
          subst hw''
          have hbel2 := hbel.trans ((below_regrown wr dq osq).mono hbel.size)
          go_wp2
          go_roundw
          case rel => exact ⟨k + 1, by omega, by go_num, eqS_step HX.out (HXY.out ▸ HY.out) HQ.out, hbel2⟩
          case measure => simp [intOf]; omega
        · go_wp2
          refine wp_region_quiet_below (by kernel_rfl) (by kernel_rfl) ?_
          repeat (go_big_quiet_step (exact Calls.regrown_of (cb (hcall _ (hbel.trans ((below_regrown wr _ _).mono hbel.size))) (decide_eq_false hxy))))
          refine wpQuiet_nil ?_
          intro _ hw'
          obtain ⟨⟨dq, osq⟩, hw''⟩ := hw'
          subst hw''
          have hbel2 := hbel.trans ((below_regrown wr dq osq).mono hbel.size)
          go_wp2
          go_ret
          exact ⟨ret_bool (decide_eq_false (eqS_ne HX.out HY.out hxy)).symm, hbel2⟩
      · clear hca hdb
        go_wp2
        go_ret
        exact ⟨ret_bool (decide_eq_true (eqS_done (k := k) (by omega) (by have := HL.out; omega) HQ.out)).symm, hbel⟩
  · have hne : ((l.length : Int) != (m.length : Int)) = true := bne_iff_ne.2 (by omega)
    clear hca hdb
    go_enter Tryz.func175, Tryz.ntmps175
    go_wp2
    go_ret
    exact ⟨ret_bool (decide_eq_false (fun e => hlen (by rw [e]))).symm, Below.refl _ _⟩

set_option maxHeartbeats 1000000 in
theorem eqRun_c (x y : Rn) (a b : Value) (S S' : List Nat) (w : World) (own own' : Bool) (ha : AggRep w own (encRn x) a S) (hb : AggRep w own' (encRn y) b S') :
    Calls Tryz.prog 122 #[a, b] w fun e w' => e = .returned (.bool (decide (x = y))) ∧ Below w.heap.size w w' := by
  obtain ⟨_, rfl, ha⟩ := ha
  obtain ⟨_, rfl, hb⟩ := hb
  obtain ⟨av0, av1, aS0, aS1, rfl, ah0, ah1, rfl⟩ := rn_cells ha
  obtain ⟨bv0, bv1, bS0, bS1, rfl, bh0, bh1, rfl⟩ := rn_cells hb
  clear ha hb
  obtain ⟨xid, xplan, xstate, xtasks⟩ := x
  obtain ⟨yid, yplan, ystate, ytasks⟩ := y
  go_enter Tryz.func122, Tryz.ntmps122
  go_wp2_with (first
    | (go_at_call 174; refine (eqPlan_c xplan yplan _ _ _ _ _ _ _ ⟨_, rfl, pl_mk (ah0.below (by repeat (first | exact Below.refl _ _ | assumption | refine Below.alloc ?_ (by simp; try omega) _ | refine bl_dn ?_ (by assumption))) (Nat.le_refl _))⟩ ⟨_, rfl, pl_mk (bh0.below (by repeat (first | exact Below.refl _ _ | assumption | refine Below.alloc ?_ (by simp; try omega) _ | refine bl_dn ?_ (by assumption))) (Nat.le_refl _))⟩).mono ?_; rintro e w1 ⟨rfl, hb1⟩; obtain ⟨hc1, hf1⟩ := bcell hb1)
    | (go_at_call 175; refine (eqTaskS_c xtasks ytasks _ _ _ _ _ _ _ (ah1.below (by repeat (first | exact Below.refl _ _ | assumption | refine Below.alloc ?_ (by simp; try omega) _ | refine bl_dn ?_ (by assumption))) (Nat.le_refl _)) (bh1.below (by repeat (first | exact Below.refl _ _ | assumption | refine Below.alloc ?_ (by simp; try omega) _ | refine bl_dn ?_ (by assumption))) (Nat.le_refl _))).mono ?_; rintro e w1 ⟨rfl, hb1⟩; obtain ⟨hc1, hf1⟩ := bcell hb1))
  all_goals go_ret
  all_goals refine ⟨?_, (by repeat (first | exact Below.refl _ _ | assumption | refine Below.alloc ?_ (by simp; try omega) _ | refine bl_dn ?_ (by assumption)))⟩
  all_goals simp_all

set_option maxHeartbeats 1000000 in
theorem eqRunS_c (l m : List (Rn)) (a b : Value) (S S' : List Nat) (w : World) (own own' : Bool) (ha : Rep w own (encRns l) a S) (hb : Rep w own' (encRns m) b S') :
    Calls Tryz.prog 57 #[a, b] w fun e w' => e = .returned (.bool (decide (l = m))) ∧ Below w.heap.size w w' := by
  obtain ⟨A, c, rfl, hc1, hc2, hca⟩ := Rep.open_ (size := 8) (enc := encRn) (fun _ => rfl) (by decide) ha
  obtain ⟨B, d, rfl, hd1, hd2, hdb⟩ := Rep.open_ (size := 8) (enc := encRn) (fun _ => rfl) (by decide) hb
  unfold maxLen at hc2 hd2
  have hl1 : l.length ≤ 9223372036854775807 := by omega
  have hl2 : m.length ≤ 9223372036854775807 := by omega
  clear ha hb
  by_cases hlen : l.length = m.length
  · have HL := Lib.hid hlen
    have hne : ((l.length : Int) != (m.length : Int)) = false := by rw [hlen]; simp
    clear hlen
    go_enter Tryz.func57, Tryz.ntmps57
    go_wp2
    go_loopw [5] (fun i wr => ∃ k : Nat, k ≤ l.length ∧ i = .int .i64 k ∧ l.take k = m.take k ∧ Below w.heap.size w wr) (fun i _ => l.length - (intOf i).toNat)
    case atStart => exact ⟨0, by omega, rfl, rfl, Below.refl _ _⟩
    case round =>
      obtain ⟨k, hk, rfl, heq, hbel⟩ := hrel
      have HQ := Lib.hid heq
      clear heq
      by_cases hlt : k < l.length
      · have hlt' : k < m.length := by have := HL.out; omega
        obtain ⟨x, hx⟩ := get_some hlt
        obtain ⟨y, hy⟩ := get_some hlt'
        obtain ⟨b1, o1, vk1, T1, rfl, -, hr1, -, -, hb1, hx1⟩ := hca k x hx
        obtain ⟨b2, o2, vk2, T2, rfl, -, hr2, -, -, hb2, hx2⟩ := hdb k y hy
        clear hca hdb
        obtain ⟨av0, av1, aS0, aS1, rfl, ah0, ah1, rfl⟩ := rn_cells hr1
        obtain ⟨bv0, bv1, bS0, bS1, rfl, bh0, bh1, rfl⟩ := rn_cells hr2
        have HX := Lib.hid hx
        have HY := Lib.hid hy
        clear hx hy
        have p0 := cell_regrown ((hbel.cell (p := ⟨b1, o1 + k * 8, none⟩) hb1).trans (hx1 0 _ rfl : w.cell? ⟨b1, o1 + k * 8, none⟩ = _))
        have p1 := cell_regrown ((hbel.cell (p := ⟨b1, o1 + k * 8 + 1, none⟩) hb1).trans (hx1 1 _ rfl : w.cell? ⟨b1, o1 + k * 8 + 1, none⟩ = _))
        have p2 := cell_regrown ((hbel.cell (p := ⟨b1, o1 + k * 8 + 2, none⟩) hb1).trans (hx1 2 _ rfl : w.cell? ⟨b1, o1 + k * 8 + 2, none⟩ = _))
        have p3 := cell_regrown ((hbel.cell (p := ⟨b1, o1 + k * 8 + 3, none⟩) hb1).trans (hx1 3 _ rfl : w.cell? ⟨b1, o1 + k * 8 + 3, none⟩ = _))
        have p4 := cell_regrown ((hbel.cell (p := ⟨b1, o1 + k * 8 + 4, none⟩) hb1).trans (hx1 4 _ rfl : w.cell? ⟨b1, o1 + k * 8 + 4, none⟩ = _))
        have p5 := cell_regrown ((hbel.cell (p := ⟨b1, o1 + k * 8 + 5, none⟩) hb1).trans (hx1 5 _ rfl : w.cell? ⟨b1, o1 + k * 8 + 5, none⟩ = _))
        have p6 := cell_regrown ((hbel.cell (p := ⟨b1, o1 + k * 8 + 6, none⟩) hb1).trans (hx1 6 _ rfl : w.cell? ⟨b1, o1 + k * 8 + 6, none⟩ = _))
        have p7 := cell_regrown ((hbel.cell (p := ⟨b1, o1 + k * 8 + 7, none⟩) hb1).trans (hx1 7 _ rfl : w.cell? ⟨b1, o1 + k * 8 + 7, none⟩ = _))
        have q0 := cell_regrown ((hbel.cell (p := ⟨b2, o2 + k * 8, none⟩) hb2).trans (hx2 0 _ rfl : w.cell? ⟨b2, o2 + k * 8, none⟩ = _))
        have q1 := cell_regrown ((hbel.cell (p := ⟨b2, o2 + k * 8 + 1, none⟩) hb2).trans (hx2 1 _ rfl : w.cell? ⟨b2, o2 + k * 8 + 1, none⟩ = _))
        have q2 := cell_regrown ((hbel.cell (p := ⟨b2, o2 + k * 8 + 2, none⟩) hb2).trans (hx2 2 _ rfl : w.cell? ⟨b2, o2 + k * 8 + 2, none⟩ = _))
        have q3 := cell_regrown ((hbel.cell (p := ⟨b2, o2 + k * 8 + 3, none⟩) hb2).trans (hx2 3 _ rfl : w.cell? ⟨b2, o2 + k * 8 + 3, none⟩ = _))
        have q4 := cell_regrown ((hbel.cell (p := ⟨b2, o2 + k * 8 + 4, none⟩) hb2).trans (hx2 4 _ rfl : w.cell? ⟨b2, o2 + k * 8 + 4, none⟩ = _))
        have q5 := cell_regrown ((hbel.cell (p := ⟨b2, o2 + k * 8 + 5, none⟩) hb2).trans (hx2 5 _ rfl : w.cell? ⟨b2, o2 + k * 8 + 5, none⟩ = _))
        have q6 := cell_regrown ((hbel.cell (p := ⟨b2, o2 + k * 8 + 6, none⟩) hb2).trans (hx2 6 _ rfl : w.cell? ⟨b2, o2 + k * 8 + 6, none⟩ = _))
        have q7 := cell_regrown ((hbel.cell (p := ⟨b2, o2 + k * 8 + 7, none⟩) hb2).trans (hx2 7 _ rfl : w.cell? ⟨b2, o2 + k * 8 + 7, none⟩ = _))
        have hcall := fun (W : World) (hW : Below w.heap.size w W) => eqRun_c x y _ _ _ _ W own own' ⟨_, rfl, hr1.below hW (Nat.le_refl _)⟩ ⟨_, rfl, hr2.below hW (Nat.le_refl _)⟩
        clear hx1 hx2
        by_cases hxy : x = y
        · have HXY := Lib.hid hxy
          clear hxy
          go_wp2
          refine wp_region_quiet_below (by kernel_rfl) (by kernel_rfl) ?_
          repeat (go_big_quiet_step (exact Calls.regrown_of (cb (hcall _ (hbel.trans ((below_regrown wr _ _).mono hbel.size))) (decide_eq_true HXY.out))))
          refine wpQuiet_nil ?_
          intro _ hw'
          obtain ⟨⟨dq, osq⟩, hw''⟩ := hw'
          subst hw''
          have hbel2 := hbel.trans ((below_regrown wr dq osq).mono hbel.size)
          go_wp2
          go_roundw
          case rel => exact ⟨k + 1, by omega, by go_num, eqS_step HX.out (HXY.out ▸ HY.out) HQ.out, hbel2⟩
          case measure => simp [intOf]; omega
        · go_wp2
          refine wp_region_quiet_below (by kernel_rfl) (by kernel_rfl) ?_
          repeat (go_big_quiet_step (exact Calls.regrown_of (cb (hcall _ (hbel.trans ((below_regrown wr _ _).mono hbel.size))) (decide_eq_false hxy))))
          refine wpQuiet_nil ?_
          intro _ hw'
          obtain ⟨⟨dq, osq⟩, hw''⟩ := hw'
          subst hw''
          have hbel2 := hbel.trans ((below_regrown wr dq osq).mono hbel.size)
          go_wp2
          go_ret
          exact ⟨ret_bool (decide_eq_false (eqS_ne HX.out HY.out hxy)).symm, hbel2⟩
      · clear hca hdb
        go_wp2
        go_ret
        exact ⟨ret_bool (decide_eq_true (eqS_done (k := k) (by omega) (by have := HL.out; omega) HQ.out)).symm, hbel⟩
  · have hne : ((l.length : Int) != (m.length : Int)) = true := bne_iff_ne.2 (by omega)
    clear hca hdb
    go_enter Tryz.func57, Tryz.ntmps57
    go_wp2
    go_ret
    exact ⟨ret_bool (decide_eq_false (fun e => hlen (by rw [e]))).symm, Below.refl _ _⟩

set_option maxHeartbeats 1000000 in
theorem eqYard_c (x y : Yd) (a b : Value) (S S' : List Nat) (w : World) (own own' : Bool) (ha : AggRep w own (encYd x) a S) (hb : AggRep w own' (encYd y) b S') :
    Calls Tryz.prog 15 #[a, b] w fun e w' => e = .returned (.bool (decide (x = y))) ∧ Below w.heap.size w w' := by
  obtain ⟨_, rfl, ha⟩ := ha
  obtain ⟨_, rfl, hb⟩ := hb
  obtain ⟨av0, av1, aS0, aS1, rfl, ah0, ah1, rfl⟩ := yd_cells ha
  obtain ⟨bv0, bv1, bS0, bS1, rfl, bh0, bh1, rfl⟩ := yd_cells hb
  clear ha hb
  obtain ⟨xnow, xseq, xshelf, xruns⟩ := x
  obtain ⟨ynow, yseq, yshelf, yruns⟩ := y
  go_enter Tryz.func15, Tryz.ntmps15
  go_wp2_with (first
    | (go_at_call 56; refine (eqEntrySS_c xshelf yshelf _ _ _ _ _ _ _ (ah0.below (by repeat (first | exact Below.refl _ _ | assumption | refine Below.alloc ?_ (by simp; try omega) _ | refine bl_dn ?_ (by assumption))) (Nat.le_refl _)) (bh0.below (by repeat (first | exact Below.refl _ _ | assumption | refine Below.alloc ?_ (by simp; try omega) _ | refine bl_dn ?_ (by assumption))) (Nat.le_refl _))).mono ?_; rintro e w1 ⟨rfl, hb1⟩; obtain ⟨hc1, hf1⟩ := bcell hb1)
    | (go_at_call 57; refine (eqRunS_c xruns yruns _ _ _ _ _ _ _ (ah1.below (by repeat (first | exact Below.refl _ _ | assumption | refine Below.alloc ?_ (by simp; try omega) _ | refine bl_dn ?_ (by assumption))) (Nat.le_refl _)) (bh1.below (by repeat (first | exact Below.refl _ _ | assumption | refine Below.alloc ?_ (by simp; try omega) _ | refine bl_dn ?_ (by assumption))) (Nat.le_refl _))).mono ?_; rintro e w1 ⟨rfl, hb1⟩; obtain ⟨hc1, hf1⟩ := bcell hb1))
  all_goals go_ret
  all_goals refine ⟨?_, (by repeat (first | exact Below.refl _ _ | assumption | refine Below.alloc ?_ (by simp; try omega) _ | refine bl_dn ?_ (by assumption)))⟩
  all_goals simp_all




end Go.Proofs.YtnhdcbhcocgjhaaGreat
namespace Go.Proofs.YtnhdcbhcocgjhaaGreat
open Go.RowKit Go.ChangeShapes Go.WideShapes Go.Deep Go.ChangeAt

def inR (n : Int) : Prop := -9223372036854775808 ≤ n ∧ n ≤ 9223372036854775807
def Pl.wf (p : Pl) : Prop := inR p.prio ∧ inR p.most ∧ inR p.wait ∧ inR p.tasks ∧ ∀ e ∈ p.edges, inR e.src ∧ inR e.dst
def En.wf (e : En) : Prop := inR e.prio ∧ inR e.seq ∧ inR e.run ∧ inR e.task
def Tk.wf (e : Tk) : Prop := inR e.state ∧ inR e.need ∧ inR e.tri ∧ inR e.til
def Rn.wf (r : Rn) : Prop := inR r.id ∧ r.plan.wf ∧ inR r.state ∧ ∀ t ∈ r.tasks, t.wf
def Yd.wf (y : Yd) : Prop := inR y.now ∧ inR y.seq ∧ (∀ l ∈ y.shelf, ∀ e ∈ l, e.wf) ∧ ∀ r ∈ y.runs, r.wf
/-- Whatever lies at type t reads as one of α. -/
def ReadsAs (P : Program) (t : TypeId) {α : Type} (E : α → List D) (W : α → Prop) : Prop :=
  ∀ (H : Type) (enc : TypeId × Value → H) (w : World) (base : Nat) (spare : Nat → Bool) (held : Bool) (n : Nat) (cs : List Value) (y : DataW H × List MemPlace),
    DataW.trod enc P w base spare held n t cs = some y → ∃ x, W x ∧ ∃ S, RepL w false (E x) cs S
def SeqAs (H : Type) (enc : TypeId × Value → H) (P : Program) (w : World) (base : Nat) (spare : Nat → Bool) (held : Bool) (n : Nat) : List Field → List Value → Prop
  | [], cs => cs = []
  | f :: l, cs => (∃ y, DataW.trod enc P w base spare held n f.type (cs.take (P.cellsOf f.type)) = some y) ∧ SeqAs H enc P w base spare held n l (cs.drop (P.cellsOf f.type))
def FieldsAs (P : Program) (l : List Field) {α : Type} (E : α → List D) (W : α → Prop) : Prop :=
  ∀ (H : Type) (enc : TypeId × Value → H) (w : World) (base : Nat) (spare : Nat → Bool) (held : Bool) (n : Nat) (cs : List Value), SeqAs H enc P w base spare held n l cs → ∃ x, W x ∧ ∃ S, RepL w false (E x) cs S
def seqOk (P : Program) : List Field → Nat → Nat → Bool
  | [], off, tot => off == tot
  | f :: l, off, tot => f.offset == off && seqOk P l (off + P.cellsOf f.type) tot

section
variable {P : Program} {t e : TypeId} {α β : Type} {E : α → List D} {E' : β → List D} {W : α → Prop} {W' : β → Prop}
theorem ReadsAs.map (h : ReadsAs P t E W) (g : α → β) (hE : ∀ a, E' (g a) = E a) (hW : ∀ a, W a → W' (g a)) : ReadsAs P t E' W' := by
  intro H enc w base spare held n cs y hy
  obtain ⟨x, hx, S, hr⟩ := h H enc w base spare held n cs y hy
  exact ⟨g x, hW x hx, S, by rw [hE]; exact hr⟩
theorem ra_int (ht : P.underlying t = some (.int .i64)) : ReadsAs P t (fun n => [iv n]) inR := by
  intro H enc w base spare held n cs y hy
  obtain ⟨i, rfl, _, hw⟩ := DataW.trod_int ht hy
  refine ⟨i, ?_, [], RepL.val_ RepL.nil_⟩
  simpa [Lit.wf, IntKind.min, IntKind.max, IntKind.signed, IntKind.bits, inR] using hw
theorem fa_nil : FieldsAs P [] (fun _ : Unit => []) (fun _ => True) := by
  intro H enc w base spare held n cs h
  cases cs with
  | nil => exact ⟨(), trivial, [], RepL.nil_⟩
  | cons c cs => exact absurd h (by simp [SeqAs])
theorem fa_cons {f : Field} {l : List Field} (h : ReadsAs P f.type E W) (k : FieldsAs P l E' W') : FieldsAs P (f :: l) (fun p : α × β => E p.1 ++ E' p.2) (fun p => W p.1 ∧ W' p.2) := by
  intro H enc w base spare held n cs hs
  obtain ⟨⟨y, hy⟩, hs⟩ := hs
  obtain ⟨x, hx, S, hr⟩ := h H enc w base spare held n _ y hy
  obtain ⟨x', hx', S', hr'⟩ := k H enc w base spare held n _ hs
  refine ⟨(x, x'), ⟨hx, hx'⟩, S ++ S', ?_⟩
  have := RepL.append_ _ hr hr'
  rwa [List.take_append_drop] at this
theorem seq_of {H : Type} {enc : TypeId × Value → H} {w : World} {base : Nat} {spare : Nat → Bool} {held : Bool} {n : Nat} : ∀ (l : List Field) (off tot : Nat) (cs : List Value), seqOk P l off tot = true → cs.length = tot →
    (∀ f ∈ l, ∃ y, DataW.trod enc P w base spare held n f.type ((cs.drop f.offset).take (P.cellsOf f.type)) = some y) → SeqAs H enc P w base spare held n l (cs.drop off)
  | [], off, tot, cs, h, hl, _ => by
    simp [seqOk] at h
    exact List.drop_eq_nil_of_le (by omega)
  | f :: l, off, tot, cs, h, hl, hf => by
    simp only [seqOk, Bool.and_eq_true, beq_iff_eq] at h
    obtain ⟨y, hy⟩ := hf f (by simp)
    rw [h.1] at hy
    refine ⟨⟨y, hy⟩, ?_⟩
    rw [List.drop_drop]
    exact seq_of l _ tot cs h.2 hl fun g hg => hf g (by simp [hg])
theorem ra_struct {fs : Array Field} (ht : P.underlying t = some (.struct fs)) (hs : seqOk P fs.toList 0 (P.cellsOf t) = true) (h : FieldsAs P fs.toList E W) : ReadsAs P t E W := by
  intro H enc w base spare held n cs y hy
  obtain ⟨xs, m, _, _, hlen, hxl, hf⟩ := DataW.trod_struct ht hy
  have := seq_of (H := H) (enc := enc) (w := w) (base := base) (spare := spare) (held := held) (n := m) fs.toList 0 _ cs hs hlen (fun f hf' => by
    obtain ⟨i, hi, rfl⟩ := List.getElem_of_mem hf'
    have hi' : i < fs.size := by simpa using hi
    refine ⟨xs[i]'(by omega), ?_⟩
    have h1 := hf i fs[i] (Array.getElem?_eq_getElem hi')
    rw [List.getElem?_eq_getElem (by omega)] at h1
    simpa using h1)
  rw [List.drop_zero] at this
  exact h H enc w base spare held m cs this
theorem cell_spot {w : World} {a : Addr} {v : Value} (h : w.cell? a = some v) : a = ⟨a.block, a.off, none⟩ := by
  obtain ⟨b, o, s⟩ := a
  cases s with
  | none => rfl
  | some s => simp only [World.cell?] at h; split at h <;> simp at h
theorem ra_slice {size : Nat} {ty : TypeId} (ht : P.underlying t = some (.slice e)) (h : ReadsAs P e E W) (hc : P.cellsOf e = size) (hl : ∀ x, (E x).length = size) (_hs : 0 < size) :
    ReadsAs P t (fun xs : List α => [.sl size ty (xs.flatMap E)]) (fun xs => ∀ x ∈ xs, W x) := by
  intro H enc w base spare held n cs y hy
  rcases open_slice ht hy with ⟨rfl, _⟩ | ⟨a, len, cap, m, n', D', Pl, rfl, hb, hlc, hcm, hm, _, hi⟩
  · have hrep : Rep w false (.sl size ty (List.flatMap E [])) (.slice none 0 0) [] := ⟨[], [], [], ⟨by simp, none, 0, 0, rfl, by simp, Nat.le_refl _, Nat.zero_le _, fun _ => rfl, by simp⟩, RepL.nil_, rfl⟩
    exact ⟨[], by simp, [], RepL.cons_ hrep RepL.nil_⟩
  · have hlm : len ≤ m := by rw [hm]; split <;> omega
    have key : ∀ k, k ≤ len → ∃ (xs : List α) (vs : List Value) (S : List Nat), xs.length = k ∧ (∀ x ∈ xs, W x) ∧ RepL w false (xs.flatMap E) vs S ∧ ∀ j u, vs[j]? = some u → w.cell? (a.add j) = some u := by
      intro k
      induction k with
      | zero => exact fun _ => ⟨[], [], [], rfl, by simp, RepL.nil_, by simp⟩
      | succ k ih =>
        intro hk
        obtain ⟨xs, vs, S, hxl, hW, hr, hcell⟩ := ih (by omega)
        obtain ⟨cs', hcs, htr⟩ := hi k (by omega)
        obtain ⟨x, hx, S', hr'⟩ := h H enc w base spare held n' cs' _ htr
        obtain ⟨_, hcl, hat⟩ := World.cells?_some hcs
        rw [hc] at hat hcl
        have hvl : vs.length = k * size := by rw [RepL.length _ hr, len_flat hl, hxl]
        refine ⟨xs ++ [x], vs ++ cs', S ++ S', by simp [hxl], ?_, ?_, ?_⟩
        · intro z hz
          rcases List.mem_append.1 hz with hz | hz
          · exact hW z hz
          · simp at hz; subst hz; exact hx
        · rw [List.flatMap_append]
          exact RepL.append_ _ hr (by simpa using hr')
        · intro j u hu
          by_cases hj : j < vs.length
          · rw [List.getElem?_append_left hj] at hu
            exact hcell j u hu
          · rw [List.getElem?_append_right (by omega)] at hu
            have hjl : j - vs.length < cs'.length := (List.getElem?_eq_some_iff.1 hu).1
            have h2 := hat (j - vs.length) (by omega)
            rw [hu, add_add, show k * size + (j - vs.length) = j by omega] at h2
            exact h2
    obtain ⟨xs, vs, S, hxl, hW, hr, hcell⟩ := key len (Nat.le_refl _)
    have hvl : vs.length = len * size := by rw [RepL.length _ hr, len_flat hl, hxl]
    refine ⟨xs, hW, ?_⟩
    by_cases hne : vs = []
    · subst hne
      refine ⟨S, ?_⟩
      have hrep : Rep w false (.sl size ty (xs.flatMap E)) (.slice (some a) len cap) S := ⟨[], [], S, ⟨by simp, some a, len, cap, rfl, hvl, hlc, hcm, (fun e => nomatch e), by simp⟩, hr, rfl⟩
      have := RepL.cons_ hrep (RepL.nil_ (w := w) (own := false))
      simpa using this
    · obtain ⟨u, us, rfl⟩ := List.exists_cons_of_ne_nil hne
      have h0 := hcell 0 u rfl
      have ha : a.add 0 = a := by simp [Addr.add]
      rw [ha] at h0
      have hsp := cell_spot h0
      have hlt := World.block_lt_of_cell? w _ h0
      refine ⟨[a.block] ++ S, ?_⟩
      have hrep : Rep w false (.sl size ty (xs.flatMap E)) (.slice (some a) len cap) ([a.block] ++ S) := by
        refine ⟨u :: us, [a.block], S, ⟨by simpa using hlt, some a, len, cap, rfl, hvl, hlc, hcm, (fun e => nomatch e), fun _ => ⟨a.block, a.off, by rw [← hsp], rfl, fun j v hv => ?_⟩⟩, hr, rfl⟩
        have := hcell j v hv
        rw [hsp] at this
        rwa [Addr.add_mid] at this
      have := RepL.cons_ hrep (RepL.nil_ (w := w) (own := false))
      simpa using this
end

theorem rInt : ReadsAs Tryz.prog 3 (fun n => [iv n]) inR := ra_int (by kernel_rfl)
theorem rEdge : ReadsAs Tryz.prog 222 encEd (fun e => inR e.src ∧ inR e.dst) :=
  (ra_struct Tryz.underlying222 (by kernel_rfl) (fa_cons rInt (fa_cons rInt fa_nil))).map (fun p => ⟨p.1, p.2.1⟩) (fun _ => rfl) (fun _ h => ⟨h.1, h.2.1⟩)
theorem rEdgeS : ReadsAs Tryz.prog 132 (fun l => [encEds l]) (fun l => ∀ e ∈ l, inR e.src ∧ inR e.dst) :=
  ra_slice (size := 2) (ty := tEd) Tryz.underlying132 rEdge (by kernel_rfl) (fun _ => rfl) (by decide)
theorem rPlan : ReadsAs Tryz.prog 134 encPl Pl.wf :=
  (ra_struct Tryz.underlying134 (by kernel_rfl) (fa_cons rInt (fa_cons rInt (fa_cons rInt (fa_cons rInt (fa_cons rEdgeS fa_nil)))))).map (fun p => ⟨p.1, p.2.1, p.2.2.1, p.2.2.2.1, p.2.2.2.2.1⟩) (fun _ => rfl) (fun _ h => ⟨h.1, h.2.1, h.2.2.1, h.2.2.2.1, h.2.2.2.2.1⟩)
theorem rEntry : ReadsAs Tryz.prog 184 encEn En.wf :=
  (ra_struct Tryz.underlying184 (by kernel_rfl) (fa_cons rInt (fa_cons rInt (fa_cons rInt (fa_cons rInt fa_nil))))).map (fun p => ⟨p.1, p.2.1, p.2.2.1, p.2.2.2.1⟩) (fun _ => rfl) (fun _ h => ⟨h.1, h.2.1, h.2.2.1, h.2.2.2.1⟩)
theorem rEntryS : ReadsAs Tryz.prog 130 (fun l => [encEns l]) (fun l => ∀ e ∈ l, En.wf e) :=
  ra_slice (size := 4) (ty := tEn) Tryz.underlying130 rEntry (by kernel_rfl) (fun _ => rfl) (by decide)
theorem rEntrySS : ReadsAs Tryz.prog 22 (fun l => [encSh l]) (fun l => ∀ es ∈ l, ∀ e ∈ es, En.wf e) :=
  ra_slice (size := 1) (ty := tEnS) Tryz.underlying22 rEntryS (by kernel_rfl) (fun _ => rfl) (by decide)
theorem rTask : ReadsAs Tryz.prog 207 encTk Tk.wf :=
  (ra_struct Tryz.underlying207 (by kernel_rfl) (fa_cons rInt (fa_cons rInt (fa_cons rInt (fa_cons rInt fa_nil))))).map (fun p => ⟨p.1, p.2.1, p.2.2.1, p.2.2.2.1⟩) (fun _ => rfl) (fun _ h => ⟨h.1, h.2.1, h.2.2.1, h.2.2.2.1⟩)
theorem rTaskS : ReadsAs Tryz.prog 135 (fun l => [encTks l]) (fun l => ∀ e ∈ l, Tk.wf e) :=
  ra_slice (size := 4) (ty := tTk) Tryz.underlying135 rTask (by kernel_rfl) (fun _ => rfl) (by decide)
theorem rRun : ReadsAs Tryz.prog 137 encRn Rn.wf :=
  (ra_struct Tryz.underlying137 (by kernel_rfl) (fa_cons rInt (fa_cons rPlan (fa_cons rInt (fa_cons rTaskS fa_nil))))).map (fun p => ⟨p.1, p.2.1, p.2.2.1, p.2.2.2.1⟩) (fun _ => rfl) (fun _ h => ⟨h.1, h.2.1, h.2.2.1, h.2.2.2.1⟩)
theorem rRunS : ReadsAs Tryz.prog 23 (fun l => [encRns l]) (fun l => ∀ e ∈ l, Rn.wf e) :=
  ra_slice (size := 8) (ty := tRn) Tryz.underlying23 rRun (by kernel_rfl) encRn_len (by decide)
theorem rYard : ReadsAs Tryz.prog 25 encYd Yd.wf :=
  (ra_struct Tryz.underlying25 (by kernel_rfl) (fa_cons rInt (fa_cons rInt (fa_cons rEntrySS (fa_cons rRunS fa_nil))))).map (fun p => ⟨p.1, p.2.1, p.2.2.1, p.2.2.2.1⟩) (fun _ => rfl) (fun _ h => ⟨h.1, h.2.1, h.2.2.1, h.2.2.2.1⟩)
end Go.Proofs.YtnhdcbhcocgjhaaGreat
namespace Go.Proofs.YtnhdcbhcocgjhaaGreat
open Go.RowKit Go.Sort Go.BigFrame

/-- A call that returns an int, the int said anew. -/
theorem ci {P : Program} {f : FuncId} {args : Array Value} {w : World} {b b' : Int} (h : Calls P f args w fun e w' => e = .returned (.int .i64 b) ∧ Below w.heap.size w w') (hb : b = b') : Calls P f args w fun e w' => e = .returned (.int .i64 b') ∧ Below w.heap.size w w' := by subst hb; exact h
section
variable {w w' : World} {own : Bool} {d : D} {v : Value} {S : List Nat}
theorem upA (h : Rep w own d v S) (o : Obj) : Rep (w.alloc o) own d v S := Rep.keep d h fun b hb => Below.heap_alloc w o b (Rep.lt d h b hb)
theorem up (h : Rep w own d v S) (hb : Below w.heap.size w w') : Rep w' own d v S := h.below hb (Nat.le_refl _)
theorem upB {w0 : World} (h : Below w0.heap.size w0 w) (o : Obj) : Below w0.heap.size w0 (w.alloc o) := h.alloc h.size o
end
end Go.Proofs.YtnhdcbhcocgjhaaGreat
namespace Go.Proofs.YtnhdcbhcocgjhaaGreat
open Go.RowKit Go.Sort Go.BigFrame

/-- A cell of an old block, in whatever world of the class. -/
theorem cell_up {w w1 : World} {b o : Nat} {v : Value} (hB : Below w.heap.size w w1) (h : w.cell? ⟨b, o, none⟩ = some v) (d : Nat) (os : Array Obj) : (grow (redrawn w1 d) os).cell? ⟨b, o, none⟩ = some v :=
  cell_regrown ((hB.cell (p := ⟨b, o, none⟩) (World.block_lt_of_cell? w _ h)).trans h) d os
theorem cell_to {w w1 : World} {b o : Nat} {v : Value} (hB : Below w.heap.size w w1) (h : w.cell? ⟨b, o, none⟩ = some v) : w1.cell? ⟨b, o, none⟩ = some v :=
  (hB.cell (p := ⟨b, o, none⟩) (World.block_lt_of_cell? w _ h)).trans h

/-- Is n between? -/
def inb (n low high : Int) : Bool := decide (low ≤ n ∧ n ≤ high)
theorem inb_true {n low high : Int} (h : low ≤ n ∧ n ≤ high) : inb n low high = true := decide_eq_true h
theorem inb_false {n low high : Int} (h : ¬ (low ≤ n ∧ n ≤ high)) : inb n low high = false := decide_eq_false h

theorem iwithin_c (a b c : Int) (w : World) : Calls Tryz.prog 79 #[.int .i64 a, .int .i64 b, .int .i64 c] w fun e w' => e = .returned (.bool (inb a b c)) ∧ Below w.heap.size w w' := by
  by_cases h1 : b ≤ a
  · by_cases h2 : a ≤ c
    · have H : Hid (inb a b c = true) := inb_true ⟨h1, h2⟩
      go_enter Tryz.func79, Tryz.ntmps79
      go_wp2
      go_ret
      exact ⟨ret_bool H.out.symm, Below.refl _ _⟩
    · have H : Hid (inb a b c = false) := inb_false fun h => h2 h.2
      go_enter Tryz.func79, Tryz.ntmps79
      go_wp2
      go_ret
      exact ⟨ret_bool H.out.symm, Below.refl _ _⟩
  · have H : Hid (inb a b c = false) := inb_false fun h => h1 h.1
    go_enter Tryz.func79, Tryz.ntmps79
    go_wp2
    go_ret
    exact ⟨ret_bool H.out.symm, Below.refl _ _⟩

theorem sl01In_c (a b c : Int) (w : World) : Calls Tryz.prog 72 #[.int .i64 a, .int .i64 b, .int .i64 c] w fun e w' => e = .returned (.bool (inb a b c)) ∧ Below w.heap.size w w' := by
  by_cases h1 : b ≤ a
  · by_cases h2 : a ≤ c
    · have H : Hid (inb a b c = true) := inb_true ⟨h1, h2⟩
      go_enter Tryz.func72, Tryz.ntmps72
      go_wp2
      go_ret
      exact ⟨ret_bool H.out.symm, Below.refl _ _⟩
    · have H : Hid (inb a b c = false) := inb_false fun h => h2 h.2
      go_enter Tryz.func72, Tryz.ntmps72
      go_wp2
      go_ret
      exact ⟨ret_bool H.out.symm, Below.refl _ _⟩
  · have H : Hid (inb a b c = false) := inb_false fun h => h1 h.1
    go_enter Tryz.func72, Tryz.ntmps72
    go_wp2
    go_ret
    exact ⟨ret_bool H.out.symm, Below.refl _ _⟩

set_option maxHeartbeats 2000000 in
theorem iFresh_c (y : Yd) (e : En) (a b : Value) (S S' : List Nat) (w : World) (own own' : Bool) (ha : AggRep w own (encYd y) a S) (hb : AggRep w own' (encEn e) b S') :
    Calls Tryz.prog 145 #[a, b] w fun e1 w' => e1 = .returned (.bool (fresh y e)) ∧ Below w.heap.size w w' := by
  obtain ⟨_, rfl, ha⟩ := ha
  obtain ⟨_, rfl, hb⟩ := hb
  obtain ⟨rfl, rfl⟩ := en_cells hb
  obtain ⟨sv, rv, S1, S2, rfl, ah0, ah1, rfl⟩ := yd_cells ha
  clear ha hb
  rcases taskAt_cases y e.run e.task with ⟨hr, ht⟩ | ⟨k, r, hr, hx, ⟨hno, ht⟩ | ⟨j, t, hj, htx, ht⟩⟩
  · have HR := Lib.hid hr
    have HF : Hid (fresh y e = false) := by unfold fresh; rw [ht]; rfl
    clear hr ht
    go_enter Tryz.func145, Tryz.ntmps145
    go_wp2_with (go_at_call 53; refine (ci (iRunAt_c y e.run _ _ _ own ⟨_, rfl, yd_mk (upA (upA ah0 _) _) (upA (upA ah1 _) _)⟩) HR.out).mono ?_; rintro e1 w1 ⟨rfl, hb1⟩; obtain ⟨hc1, hf1⟩ := bcell hb1)
    refine wp_region_quiet_below (by kernel_rfl) (by kernel_rfl) ?_
    repeat (go_big_quiet_step (fail))
    refine wpQuiet_nil ?_
    intro _ hw'
    obtain ⟨⟨dq, osq⟩, hw''⟩ := hw'
    subst hw''
    go_wp2
    go_ret
    exact ⟨ret_bool (by rw [HF.out]), bl_dn (bl_dn (((Below.refl _ _).alloc (by simp) _).alloc (by simp) _) hb1) (below_regrown w1 dq osq)⟩
  all_goals
    have HR := Lib.hid hr
    obtain ⟨A, c, rfl, hc1, hc2, hca⟩ := Rep.open_ (size := 8) (enc := encRn) (fun _ => rfl) (by decide) ah1
    have hk : k < y.runs.length := (List.getElem?_eq_some_iff.1 hx).1
    unfold maxLen at hc2
    have hl1 : y.runs.length ≤ 9223372036854775807 := by omega
    obtain ⟨b1, o1, vk1, T1, rfl, -, hr1, -, -, hbl, hx1⟩ := hca k r hx
    clear hca
    obtain ⟨v0, v1, U0, U1, rfl, -, hts, -⟩ := rn_cells hr1
    have p7 := hx1 7 _ rfl
    clear hx1 hr1
    obtain ⟨B, d, rfl, hd1, hd2, hdb⟩ := Rep.open_ (size := 4) (enc := encTk) (fun _ => rfl) (by decide) hts
    unfold maxLen at hd2
    have hl2 : r.tasks.length ≤ 9223372036854775807 := by omega
    have hk0 : decide ((k : Int) ≥ 0) = true := by simp
    have hk1 : decide ((k : Int) < 0) = false := by simp
    clear hr hx
  · clear hdb
    have HF : Hid (fresh y e = false) := by unfold fresh; rw [ht]; rfl
    have HW : Hid (inb e.task 0 ((r.tasks.length : Int) - 1) = false) := inb_false hno
    clear ht hno
    go_enter Tryz.func145, Tryz.ntmps145
    go_wp2_with (go_at_call 53; refine (ci (iRunAt_c y e.run _ _ _ own ⟨_, rfl, yd_mk (upA (upA ah0 _) _) (upA (upA ah1 _) _)⟩) HR.out).mono ?_; rintro e1 w1 ⟨rfl, hb1⟩; obtain ⟨hc1, hf1⟩ := bcell hb1)
    have hBw : Below w.heap.size w w1 := bl_dn (((Below.refl _ _).alloc (by simp) _).alloc (by simp) _) hb1
    have p7' := cell_up hBw p7
    have q3 : ∀ (d : Nat) (os : Array Obj), (grow (redrawn w1 d) os).cell? ⟨w.heap.size, 3, none⟩ = some (.slice (some ⟨b1, o1, none⟩) y.runs.length c) := fun d os => cell_regrown ((hc1 _ _ (by simp; try omega)).trans (by simp [go_sem])) d os
    have r3 : ∀ (d : Nat) (os : Array Obj), (grow (redrawn w1 d) os).cell? ⟨w.heap.size + 1, 3, none⟩ = some (.int .i64 e.task) := fun d os => cell_regrown ((hc1 _ _ (by simp; try omega)).trans (by simp [go_sem])) d os
    refine wp_region_quiet_below (by kernel_rfl) (by kernel_rfl) ?_
    repeat (go_big_quiet_step (exact Calls.regrown_of (cb (iwithin_c _ _ _ _) HW.out)))
    refine wpQuiet_nil ?_
    intro _ hw'
    obtain ⟨⟨dq, osq⟩, hw''⟩ := hw'
    subst hw''
    go_wp2
    go_ret
    exact ⟨ret_bool (by rw [HF.out]), bl_dn hBw (below_regrown w1 dq osq)⟩
  · obtain ⟨b2, o2, vk2, T2, rfl, -, hr2, -, -, hbl2, hx2⟩ := hdb j t htx
    clear hdb
    obtain ⟨rfl, rfl⟩ := tk_cells hr2
    have p0 : w.cell? ⟨b2, o2 + j * 4, none⟩ = some (.int .i64 t.state) := hx2 0 _ rfl
    have hjl : j < r.tasks.length := (List.getElem?_eq_some_iff.1 htx).1
    clear hx2 hr2 htx
    obtain ⟨e1, e2, e3, e4⟩ := e
    simp only at hj HR ht
    subst hj
    have HW : Hid (inb (j : Int) 0 ((r.tasks.length : Int) - 1) = true) := inb_true (by omega)
    by_cases hst : t.state = 2
    all_goals
      first | (have hs : (t.state == 2) = true := by simpa using hst) | (have hs : (t.state == 2) = false := by simpa using hst)
      have HF := Lib.hid (show fresh y ⟨e1, e2, e3, j⟩ = (t.state == 2) by unfold fresh; rw [ht])
      clear ht hst
      go_enter Tryz.func145, Tryz.ntmps145
      go_wp2_with (go_at_call 53; refine (ci (iRunAt_c y e3 _ _ _ own ⟨_, rfl, yd_mk (upA (upA ah0 _) _) (upA (upA ah1 _) _)⟩) HR.out).mono ?_; rintro e1 w1 ⟨rfl, hb1⟩; obtain ⟨hc1, hf1⟩ := bcell hb1)
      have hBw : Below w.heap.size w w1 := bl_dn (((Below.refl _ _).alloc (by simp) _).alloc (by simp) _) hb1
      have p7' := cell_up hBw p7
      have q3 : ∀ (d : Nat) (os : Array Obj), (grow (redrawn w1 d) os).cell? ⟨w.heap.size, 3, none⟩ = some (.slice (some ⟨b1, o1, none⟩) y.runs.length c) := fun d os => cell_regrown ((hc1 _ _ (by simp; try omega)).trans (by simp [go_sem])) d os
      have r3 : ∀ (d : Nat) (os : Array Obj), (grow (redrawn w1 d) os).cell? ⟨w.heap.size + 1, 3, none⟩ = some (.int .i64 j) := fun d os => cell_regrown ((hc1 _ _ (by simp; try omega)).trans (by simp [go_sem])) d os
      have p0' := cell_up hBw p0
      refine wp_region_quiet_below (by kernel_rfl) (by kernel_rfl) ?_
      repeat (go_big_quiet_step (exact Calls.regrown_of (cb (iwithin_c _ _ _ _) HW.out)))
      refine wpQuiet_nil ?_
      intro _ hw'
      obtain ⟨⟨dq, osq⟩, hw''⟩ := hw'
      subst hw''
      go_wp2
      go_ret
      exact ⟨ret_bool (by rw [HF.out, hs]), bl_dn hBw (below_regrown w1 dq osq)⟩

set_option maxHeartbeats 2000000 in
theorem sFresh_c (y : Yd) (e : En) (a b : Value) (S S' : List Nat) (w : World) (own own' : Bool) (ha : AggRep w own (encYd y) a S) (hb : AggRep w own' (encEn e) b S') :
    Calls Tryz.prog 141 #[a, b] w fun e1 w' => e1 = .returned (.bool (fresh y e)) ∧ Below w.heap.size w w' := by
  obtain ⟨_, rfl, ha⟩ := ha
  obtain ⟨_, rfl, hb⟩ := hb
  obtain ⟨rfl, rfl⟩ := en_cells hb
  obtain ⟨sv, rv, S1, S2, rfl, ah0, ah1, rfl⟩ := yd_cells ha
  clear ha hb
  rcases taskAt_cases y e.run e.task with ⟨hr, ht⟩ | ⟨k, r, hr, hx, ⟨hno, ht⟩ | ⟨j, t, hj, htx, ht⟩⟩
  · have HR := Lib.hid hr
    have HF : Hid (fresh y e = false) := by unfold fresh; rw [ht]; rfl
    clear hr ht
    go_enter Tryz.func141, Tryz.ntmps141
    go_wp2_with (go_at_call 45; refine (ci (sRunAt_c y e.run _ _ _ own ⟨_, rfl, yd_mk (upA (upA ah0 _) _) (upA (upA ah1 _) _)⟩) HR.out).mono ?_; rintro e1 w1 ⟨rfl, hb1⟩; obtain ⟨hc1, hf1⟩ := bcell hb1)
    refine wp_region_quiet_below (by kernel_rfl) (by kernel_rfl) ?_
    repeat (go_big_quiet_step (fail))
    refine wpQuiet_nil ?_
    intro _ hw'
    obtain ⟨⟨dq, osq⟩, hw''⟩ := hw'
    subst hw''
    go_wp2
    go_ret
    exact ⟨ret_bool (by rw [HF.out]), bl_dn (bl_dn (((Below.refl _ _).alloc (by simp) _).alloc (by simp) _) hb1) (below_regrown w1 dq osq)⟩
  all_goals
    have HR := Lib.hid hr
    obtain ⟨A, c, rfl, hc1, hc2, hca⟩ := Rep.open_ (size := 8) (enc := encRn) (fun _ => rfl) (by decide) ah1
    have hk : k < y.runs.length := (List.getElem?_eq_some_iff.1 hx).1
    unfold maxLen at hc2
    have hl1 : y.runs.length ≤ 9223372036854775807 := by omega
    obtain ⟨b1, o1, vk1, T1, rfl, -, hr1, -, -, hbl, hx1⟩ := hca k r hx
    clear hca
    obtain ⟨v0, v1, U0, U1, rfl, -, hts, -⟩ := rn_cells hr1
    have p7 := hx1 7 _ rfl
    clear hx1 hr1
    obtain ⟨B, d, rfl, hd1, hd2, hdb⟩ := Rep.open_ (size := 4) (enc := encTk) (fun _ => rfl) (by decide) hts
    unfold maxLen at hd2
    have hl2 : r.tasks.length ≤ 9223372036854775807 := by omega
    have hk0 : decide ((k : Int) ≥ 0) = true := by simp
    have hk1 : decide ((k : Int) < 0) = false := by simp
    clear hr hx
  · clear hdb
    have HF : Hid (fresh y e = false) := by unfold fresh; rw [ht]; rfl
    have HW : Hid (inb e.task 0 ((r.tasks.length : Int) - 1) = false) := inb_false hno
    clear ht hno
    go_enter Tryz.func141, Tryz.ntmps141
    go_wp2_with (go_at_call 45; refine (ci (sRunAt_c y e.run _ _ _ own ⟨_, rfl, yd_mk (upA (upA ah0 _) _) (upA (upA ah1 _) _)⟩) HR.out).mono ?_; rintro e1 w1 ⟨rfl, hb1⟩; obtain ⟨hc1, hf1⟩ := bcell hb1)
    have hBw : Below w.heap.size w w1 := bl_dn (((Below.refl _ _).alloc (by simp) _).alloc (by simp) _) hb1
    have p7' := cell_up hBw p7
    have q3 : ∀ (d : Nat) (os : Array Obj), (grow (redrawn w1 d) os).cell? ⟨w.heap.size, 3, none⟩ = some (.slice (some ⟨b1, o1, none⟩) y.runs.length c) := fun d os => cell_regrown ((hc1 _ _ (by simp; try omega)).trans (by simp [go_sem])) d os
    have r3 : ∀ (d : Nat) (os : Array Obj), (grow (redrawn w1 d) os).cell? ⟨w.heap.size + 1, 3, none⟩ = some (.int .i64 e.task) := fun d os => cell_regrown ((hc1 _ _ (by simp; try omega)).trans (by simp [go_sem])) d os
    refine wp_region_quiet_below (by kernel_rfl) (by kernel_rfl) ?_
    repeat (go_big_quiet_step (exact Calls.regrown_of (cb (sl01In_c _ _ _ _) HW.out)))
    refine wpQuiet_nil ?_
    intro _ hw'
    obtain ⟨⟨dq, osq⟩, hw''⟩ := hw'
    subst hw''
    go_wp2
    go_ret
    exact ⟨ret_bool (by rw [HF.out]), bl_dn hBw (below_regrown w1 dq osq)⟩
  · obtain ⟨b2, o2, vk2, T2, rfl, -, hr2, -, -, hbl2, hx2⟩ := hdb j t htx
    clear hdb
    obtain ⟨rfl, rfl⟩ := tk_cells hr2
    have p0 : w.cell? ⟨b2, o2 + j * 4, none⟩ = some (.int .i64 t.state) := hx2 0 _ rfl
    have hjl : j < r.tasks.length := (List.getElem?_eq_some_iff.1 htx).1
    clear hx2 hr2 htx
    obtain ⟨e1, e2, e3, e4⟩ := e
    simp only at hj HR ht
    subst hj
    have HW : Hid (inb (j : Int) 0 ((r.tasks.length : Int) - 1) = true) := inb_true (by omega)
    by_cases hst : t.state = 2
    all_goals
      first | (have hs : (t.state == 2) = true := by simpa using hst) | (have hs : (t.state == 2) = false := by simpa using hst)
      have HF := Lib.hid (show fresh y ⟨e1, e2, e3, j⟩ = (t.state == 2) by unfold fresh; rw [ht])
      clear ht hst
      go_enter Tryz.func141, Tryz.ntmps141
      go_wp2_with (go_at_call 45; refine (ci (sRunAt_c y e3 _ _ _ own ⟨_, rfl, yd_mk (upA (upA ah0 _) _) (upA (upA ah1 _) _)⟩) HR.out).mono ?_; rintro e1 w1 ⟨rfl, hb1⟩; obtain ⟨hc1, hf1⟩ := bcell hb1)
      have hBw : Below w.heap.size w w1 := bl_dn (((Below.refl _ _).alloc (by simp) _).alloc (by simp) _) hb1
      have p7' := cell_up hBw p7
      have q3 : ∀ (d : Nat) (os : Array Obj), (grow (redrawn w1 d) os).cell? ⟨w.heap.size, 3, none⟩ = some (.slice (some ⟨b1, o1, none⟩) y.runs.length c) := fun d os => cell_regrown ((hc1 _ _ (by simp; try omega)).trans (by simp [go_sem])) d os
      have r3 : ∀ (d : Nat) (os : Array Obj), (grow (redrawn w1 d) os).cell? ⟨w.heap.size + 1, 3, none⟩ = some (.int .i64 j) := fun d os => cell_regrown ((hc1 _ _ (by simp; try omega)).trans (by simp [go_sem])) d os
      have p0' := cell_up hBw p0
      refine wp_region_quiet_below (by kernel_rfl) (by kernel_rfl) ?_
      repeat (go_big_quiet_step (exact Calls.regrown_of (cb (sl01In_c _ _ _ _) HW.out)))
      refine wpQuiet_nil ?_
      intro _ hw'
      obtain ⟨⟨dq, osq⟩, hw''⟩ := hw'
      subst hw''
      go_wp2
      go_ret
      exact ⟨ret_bool (by rw [HF.out, hs]), bl_dn hBw (below_regrown w1 dq osq)⟩

end Go.Proofs.YtnhdcbhcocgjhaaGreat
set_option linter.unusedSimpArgs false
set_option linter.unusedVariables false
set_option maxRecDepth 100000
namespace Go.Proofs.YtnhdcbhcocgjhaaGreat
open Go.RowKit Go.Sort
def c_spec_l10Entries : C := .seq (.reg [⟨some 1, none, .box 30 4 (.t 0)⟩, ⟨some 2, none, .mov (.c (.slice none 0 0))⟩]) (.seq (.reg [⟨some 5, none, .bsl 108 4 0 [] []⟩, ⟨some 3, none, .mov (.t 5)⟩]) (.seq (.seq (.reg [⟨some 4, none, .mov (.c (.int .i64 0))⟩]) (.blk 0 (.loop (.seq (.seq (.reg [⟨some 6, none, .mov (.t 4)⟩, ⟨some 7, none, .fa 2 (.t 1)⟩, ⟨some 8, none, .ld false 1 (.t 7)⟩, ⟨some 9, none, .len false (.t 8)⟩, ⟨some 10, none, .bin .lss 3 (.t 6) (.t 9)⟩]) (.cond (.t 10) .skip (.exit 0))) (.seq (.blk 1 (.reg [⟨some 13, none, .mov (.t 3)⟩, ⟨some 14, none, .fa 2 (.t 1)⟩, ⟨some 15, none, .ld false 1 (.t 14)⟩, ⟨some 16, none, .mov (.t 4)⟩, ⟨some 17, none, .ia 1 (.t 15) (.t 16)⟩, ⟨some 18, none, .ld false 1 (.t 17)⟩, ⟨some 19, none, .app 108 4 32 (.t 13) (.t 18)⟩, ⟨some 3, none, .mov (.t 19)⟩])) (.reg [⟨some 11, none, .mov (.t 4)⟩, ⟨some 12, none, .bin .add 3 (.t 11) (.c (.int .i64 1))⟩, ⟨some 4, none, .mov (.t 12)⟩])))))) (.seq (.reg [⟨some 20, none, .mov (.t 3)⟩, ⟨some 2, none, .mov (.t 20)⟩]) .ret)))
theorem code_spec_l10Entries : fnC Tryz.prog Tryz.f133 = some (c_spec_l10Entries, [.t 2], 21) := by kernel_rfl
def c_impl_allEntries : C := .seq (.reg [⟨some 1, none, .box 30 4 (.t 0)⟩, ⟨some 2, none, .mov (.c (.slice none 0 0))⟩]) (.seq (.reg [⟨some 3, none, .mov (.c (.slice none 0 0))⟩]) (.seq (.seq (.reg [⟨some 6, none, .fa 2 (.t 1)⟩, ⟨some 7, none, .ld false 1 (.t 6)⟩, ⟨some 8, none, .len false (.t 7)⟩, ⟨some 9, none, .mov (.c (.int .i64 0))⟩]) (.blk 0 (.loop (.seq (.reg [⟨some 10, none, .bin .lss 3 (.t 9) (.t 8)⟩]) (.seq (.cond (.t 10) .skip (.exit 0)) (.seq (.blk 1 (.seq (.reg [⟨some 11, none, .ia 1 (.t 7) (.t 9)⟩, ⟨some 12, none, .ld false 1 (.t 11)⟩, ⟨some 5, none, .mov (.t 12)⟩]) (.reg [⟨some 13, none, .mov (.t 3)⟩, ⟨some 14, none, .mov (.t 5)⟩, ⟨some 15, none, .app 108 4 32 (.t 13) (.t 14)⟩, ⟨some 3, none, .mov (.t 15)⟩]))) (.reg [⟨some 16, none, .bin .add 3 (.t 9) (.c (.int .i64 1))⟩, ⟨some 9, none, .mov (.t 16)⟩]))))))) (.seq (.reg [⟨some 17, none, .mov (.t 3)⟩, ⟨some 2, none, .mov (.t 17)⟩]) .ret)))
theorem code_impl_allEntries : fnC Tryz.prog Tryz.f137 = some (c_impl_allEntries, [.t 2], 18) := by kernel_rfl
theorem ens_app (l m : List En) : D.sl 4 tEn (l.flatMap encEn ++ m.flatMap encEn) = encEns (l ++ m) := by simp [encEns]
theorem p_spec_l10Entries (y : Yd) (ht : totYd y ≤ 2000000) : Pure Tryz.prog 133 [.agg (encYd y)] (.c (encEns y.shelf.flatten)) := by
  refine pure_fn Tryz.func133 code_spec_l10Entries (by simp) ?_
  unfold c_spec_l10Entries
  have hl := shelf_le ht
  have hf := shelf_flat ht
  simp -implicitDefEqProofs only [go_sem, encYd]
  intro b η0
  refine wp_loop_ (fun s => ∃ (k g ty : Nat) (η : Heads), k ≤ y.shelf.length ∧ (g = 500 ∨ g = 1900) ∧ s.t 1 = .c (.bp 100 0 b) ∧ s.o 100 = .box b ty ((encYd y).map fun x => .a x.toRo) ∧ s.t 4 = .c (.v (.int .i64 k)) ∧ s.t 3 = .c (.h g 0 [] (η [])) ∧ s.o g = .loose (encEns (y.shelf.take k).flatten) η) (fun s => y.shelf.length - s.n 4) ?_ ?_
  · exact ⟨0, 500, _, η0, Nat.zero_le _, .inl rfl, by simp -implicitDefEqProofs only [go_sem] <;> rfl, by simp -implicitDefEqProofs only [go_sem] <;> rfl, by simp -implicitDefEqProofs only [go_sem] <;> rfl, by simp -implicitDefEqProofs only [go_sem] <;> rfl, by simp -implicitDefEqProofs only [go_sem] <;> rfl⟩
  · rintro s ⟨k, g, ty, η, hk, hg, h1, ho1, h4, h3, hob⟩
    by_cases hlt : k < y.shelf.length
    · have hlt' : (k : Int) < y.shelf.length := by omega
      obtain ⟨x, hx⟩ := get_some hlt
      have hw : IntKind.i64.wrap ((k : Int) + 1) = ((k + 1 : Nat) : Int) := wrap64 (by omega) (by omega)
      have hn := flat_take hx
      have hle := flat_take_le y.shelf (k + 1)
      rw [hn, List.length_append] at hle
      generalize (y.shelf.take k).flatten = l at *
      have h1' : l.length + x.length ≤ maxLen := by unfold maxLen; omega
      have h2' : (l.length + x.length) * 32 ≤ 140737488355328 := by omega
      rcases hg with rfl | rfl
      all_goals
        simp -implicitDefEqProofs only [go_sem, h1, ho1, h4, h3, hob, encYd, hlt, hlt', elem_encSh hx, h1', h2', hw, ens_app]
        intro η2
        refine ⟨⟨k + 1, 1900, ty, η2, ?_⟩, ?_⟩
        · and_intros <;> first | rfl | omega | exact .inr rfl | (rw [hn]; rfl)
        · rw [st_n (k := .i64) (n := ((k + 1 : Nat) : Int)) (by simp -implicitDefEqProofs only [go_sem]), st_n h4]; omega
    · have hlt' : ¬ (k : Int) < y.shelf.length := by omega
      rw [List.take_of_length_le (by omega)] at hob
      rcases hg with rfl | rfl
      all_goals
        simp -implicitDefEqProofs only [go_sem, h1, ho1, h4, h3, hob, encYd, hlt']
theorem p_impl_allEntries (y : Yd) (ht : totYd y ≤ 2000000) : Pure Tryz.prog 137 [.agg (encYd y)] (.c (encEns y.shelf.flatten)) := by
  refine pure_fn Tryz.func137 code_impl_allEntries (by simp) ?_
  unfold c_impl_allEntries
  have hl := shelf_le ht
  have hf := shelf_flat ht
  simp -implicitDefEqProofs only [go_sem, encYd]
  intro b
  refine wp_loop_ (fun s => ∃ k : Nat, k ≤ y.shelf.length ∧ s.t 7 = .c (.ro (encSh y.shelf)) ∧ s.t 8 = .c (.v (.int .i64 y.shelf.length)) ∧ s.t 9 = .c (.v (.int .i64 k)) ∧ (((y.shelf.take k).flatten = [] ∧ s.t 3 = .c (.v (.slice none 0 0))) ∨ ∃ η : Heads, s.t 3 = .c (.h 1500 0 [] (η [])) ∧ s.o 1500 = .loose (encEns (y.shelf.take k).flatten) η)) (fun s => y.shelf.length - s.n 9) ?_ ?_
  · exact ⟨0, Nat.zero_le _, by simp -implicitDefEqProofs only [go_sem] <;> rfl, by simp -implicitDefEqProofs only [go_sem] <;> rfl, by simp -implicitDefEqProofs only [go_sem] <;> rfl, .inl ⟨rfl, by simp -implicitDefEqProofs only [go_sem]⟩⟩
  · rintro s ⟨k, hk, h7, h8, h9, hg⟩
    by_cases hlt : k < y.shelf.length
    · have hlt' : (k : Int) < y.shelf.length := by omega
      obtain ⟨x, hx⟩ := get_some hlt
      have hw : IntKind.i64.wrap ((k : Int) + 1) = ((k + 1 : Nat) : Int) := wrap64 (by omega) (by omega)
      have hn := flat_take hx
      have hle := flat_take_le y.shelf (k + 1)
      rw [hn, List.length_append] at hle
      generalize (y.shelf.take k).flatten = l at *
      have h1' : l.length + x.length ≤ maxLen := by unfold maxLen; omega
      have h2' : (l.length + x.length) * 32 ≤ 140737488355328 := by omega
      rcases hg with ⟨hnil, h3⟩ | ⟨η, h3, hob⟩
      · have h3' : x.length ≤ maxLen := by unfold maxLen; omega
        have h4' : x.length * 32 ≤ 140737488355328 := by omega
        rw [hnil, List.nil_append] at hn
        simp -implicitDefEqProofs only [go_sem, h7, h8, h9, h3, hlt, hlt', elem_encSh hx, hw, h3', h4', fold_encEns]
        intro η2
        refine ⟨⟨k + 1, by omega, rfl, .inr ⟨η2, rfl, by rw [hn]⟩⟩, ?_⟩
        rw [st_n (k := .i64) (n := ((k + 1 : Nat) : Int)) (by simp -implicitDefEqProofs only [go_sem]), st_n h9]; omega
      · simp -implicitDefEqProofs only [go_sem, h7, h8, h9, h3, hob, hlt, hlt', elem_encSh hx, hw, h1', h2', ens_app]
        intro η2
        refine ⟨⟨k + 1, by omega, rfl, .inr ⟨η2, rfl, by rw [hn]⟩⟩, ?_⟩
        rw [st_n (k := .i64) (n := ((k + 1 : Nat) : Int)) (by simp -implicitDefEqProofs only [go_sem]), st_n h9]; omega
    · have hlt' : ¬ (k : Int) < y.shelf.length := by omega
      have hk' : y.shelf.take k = y.shelf := List.take_of_length_le (by omega)
      rcases hg with ⟨hnil, h3⟩ | ⟨η, h3, hob⟩
      · rw [hk'] at hnil
        simp -implicitDefEqProofs only [go_sem, h7, h8, h9, h3, hlt', hnil]
      · rw [hk'] at hob
        simp -implicitDefEqProofs only [go_sem, h7, h8, h9, h3, hob, hlt']
end Go.Proofs.YtnhdcbhcocgjhaaGreat
namespace Go.Proofs.YtnhdcbhcocgjhaaGreat
open Go.RowKit Go.Sort Go.BigFrame

theorem cell_to0 {w w1 : World} {b o : Nat} {v : Value} (hB : Below w.heap.size w w1) (h : w.cell? ⟨b, o + 0, none⟩ = some v) : w1.cell? ⟨b, o, none⟩ = some v := cell_to hB h
theorem flatEn : ∀ (x : En), ∀ d ∈ encEn x, ∃ u, d = .val u := by intro y d hd; simp [encEn] at hd; rcases hd with rfl | rfl | rfl | rfl <;> exact ⟨_, rfl⟩

set_option maxHeartbeats 2000000 in
theorem iallEntries_c (y : Yd) (a : Value) (S : List Nat) (w : World) (own : Bool) (ha : AggRep w own (encYd y) a S) (hsz : totYd y ≤ 2000000) :
    Calls Tryz.prog 137 #[a] w (RetRep w (encEns (allEn y))) := by
  obtain ⟨_, rfl, ha⟩ := ha
  obtain ⟨sv, rv, S1, S2, rfl, ah0, ah1, rfl⟩ := yd_cells ha
  clear ha ah1
  obtain ⟨A, c, rfl, hc1, hc2, hca⟩ := Rep.open_ (size := 1) (enc := fun es => [encEns es]) (fun _ => rfl) (by decide) ah0
  unfold maxLen at hc2
  have hl1 : y.shelf.length ≤ 9223372036854775807 := by omega
  have hsm : y.shelf.flatten.length ≤ 2000000 := by rw [len_flatten]; simp only [totYd, totSh] at hsz; omega
  go_enter Tryz.func137, Tryz.ntmps137
  go_wp2
  go_loopw [3, 5, 9] (fun v _ i wr => ∃ k : Nat, k ≤ y.shelf.length ∧ i = .int .i64 k ∧ Fill encEn 4 tEn w (y.shelf.take k).flatten v wr) (fun _ _ i _ => y.shelf.length - (intOf i).toNat)
  case atStart => exact ⟨0, by omega, rfl, [], Rep.nil_ _ _ _, Fresh.nil _, (Below.refl _ _).alloc (by simp) _⟩
  case round =>
    obtain ⟨k, hk, rfl, S3, hrep, hF, hbel⟩ := hrel
    by_cases hlt : k < y.shelf.length
    · obtain ⟨es, hx⟩ := get_some hlt
      obtain ⟨b1, o1, vk1, T1, rfl, -, hr1, -, -, hb1, hx1⟩ := hca k es hx
      clear hca
      obtain ⟨u, _, U0, U1, rfl, rfl, hu, rfl, rfl⟩ := hr1
      have p0 := (hbel.cell (p := ⟨b1, o1 + k, none⟩) hb1).trans (by simpa using hx1 0 _ rfl : w.cell? ⟨b1, o1 + k, none⟩ = _)
      obtain ⟨A2, c2, news, rfl, hn1, hn2, hn3⟩ := Rep.src (enc := encEn) (size := 4) (fun _ => rfl) (by decide) flatEn (hu.below hbel (Nat.le_refl _))
      have htk := flatten_take_succ hx
      have hle : (y.shelf.take (k + 1)).flatten.length ≤ 2000000 := by
        have : (y.shelf.take (k + 1)).flatten.length ≤ y.shelf.flatten.length := by rw [len_flatten, len_flatten]; exact tsum_le _ _ _
        omega
      rw [htk, List.length_append] at hle
      have HK := Lib.hid htk
      clear hx hx1 htk
      go_wp2_with ((with_reducible refine at_append (.tmp 13) (.tmp 14) ?_); refine wpList_append_rep (enc := encEn) (xs := (y.shelf.take k).flatten) (ys := es) rfl _ _ rfl slEn (fun _ => rfl) rfl hrep A2 es.length c2 news rfl hn1 rfl hn2 hn3 encEn_one w.heap.size hbel.size (by simpa using hF) (by unfold maxLen; omega) (by omega) ?_; intro v' w' S' hrep' hF' ho' _)
      go_roundw
      case rel =>
        refine ⟨k + 1, by omega, by go_num, S', ?_, hF', hbel.trans (ho'.below (fun s hs => hF.2 s hs) hbel.size)⟩
        rw [HK.out]; exact hrep'
      case measure => simp [intOf]; omega
    · obtain rfl : k = y.shelf.length := by omega
      clear hca
      go_wp2
      go_ret
      exact ⟨_, S3, rfl, by rw [List.take_length] at hrep; exact hrep, hF, hbel⟩

set_option maxHeartbeats 4000000 in
theorem iSlotsOf_c (y : Yd) (a : Value) (S : List Nat) (w : World) (own : Bool) (ha : AggRep w own (encYd y) a S) (hsz : totYd y ≤ 2000000) :
    Calls Tryz.prog 140 #[a] w fun e w' => e = .returned (.int .i64 (slotsOf y)) ∧ Below w.heap.size w w' := by
  obtain ⟨_, rfl, ha⟩ := ha
  obtain ⟨sv, rv, S1, S2, rfl, ah0, ah1, rfl⟩ := yd_cells ha
  clear ha
  obtain ⟨A, c, rfl, hc1, hc2, hca⟩ := Rep.open_ (size := 8) (enc := encRn) (fun _ => rfl) (by decide) ah1
  unfold maxLen at hc2
  have hl1 : y.runs.length ≤ 9223372036854775807 := by omega
  have hlive : tsum liveN y.runs ≤ 2000000 := by have := tsum_live y.runs; simp only [totYd, totRns] at hsz; omega
  have hall : (allEn y).length ≤ 2000000 := by unfold allEn; rw [len_flatten]; simp only [totYd, totSh] at hsz; omega
  obtain ⟨svA, svn, svc, rfl⟩ := Rep.form ah0
  have hB0 := upB (Below.refl w.heap.size w) (.cells #[.int .i64 y.now, .int .i64 y.seq, .slice svA svn svc, .slice A y.runs.length c] tYd)
  go_enter Tryz.func140, Tryz.ntmps140
  go_wp2
  go_loopw [3, 5, 11] (fun n _ i wr => ∃ k : Nat, k ≤ y.runs.length ∧ i = .int .i64 k ∧ n = .int .i64 (tsum liveN (y.runs.take k) : Nat) ∧ Below (w.alloc (.cells #[.int .i64 y.now, .int .i64 y.seq, .slice svA svn svc, .slice A y.runs.length c] tYd)).heap.size (w.alloc (.cells #[.int .i64 y.now, .int .i64 y.seq, .slice svA svn svc, .slice A y.runs.length c] tYd)) wr) (fun _ _ i _ => y.runs.length - (intOf i).toNat)
  case atStart => exact ⟨0, by omega, rfl, rfl, Below.refl _ _⟩
  case round =>
    obtain ⟨k, hk, rfl, rfl, hbel⟩ := hrel
    have hB := bl_dn hB0 hbel
    by_cases hlt : k < y.runs.length
    · obtain ⟨x, hx⟩ := get_some hlt
      obtain ⟨b1, o1, vk1, T1, rfl, -, hr1, -, -, hb1, hx1⟩ := hca k x hx
      clear hca
      obtain ⟨v0, v1, U0, U1, rfl, hev, htv, -⟩ := rn_cells hr1
      obtain ⟨_, _, _, rfl⟩ := Rep.form hev
      obtain ⟨B, d, rfl, hd1, hd2, hdb⟩ := Rep.open_ (size := 4) (enc := encTk) (fun _ => rfl) (by decide) htv
      unfold maxLen at hd2
      have hl2 : x.tasks.length ≤ 9223372036854775807 := by omega
      have p0 := cell_to0 hB (hx1 0 _ rfl)
      have p1 := cell_to hB (hx1 1 _ rfl)
      have p2 := cell_to hB (hx1 2 _ rfl)
      have p3 := cell_to hB (hx1 3 _ rfl)
      have p4 := cell_to hB (hx1 4 _ rfl)
      have p5 := cell_to hB (hx1 5 _ rfl)
      have p6 := cell_to hB (hx1 6 _ rfl)
      have p7 := cell_to hB (hx1 7 _ rfl)
      have htk := tsum_succ (tot := liveN) hx
      have htl := tsum_le liveN y.runs (k + 1)
      have hlv : liveN x = if x.state = 1 then x.tasks.length else 0 := rfl
      have HK := Lib.hid htk
      have HL := Lib.hid hlv
      have hn0 : (tsum liveN (y.runs.take k) : Int) ≤ 2000000 := by omega
      have hn1 : x.tasks.length ≤ 2000000 ∨ x.state ≠ 1 := by by_cases h : x.state = 1; left; rw [if_pos h] at hlv; omega; exact .inr h
      clear hx hx1 hr1 htk hlv hdb htl
      by_cases hst : x.state = 1
      · have hs : (x.state == 1) = true := by simpa using hst
        have hn2 : x.tasks.length ≤ 2000000 := by rcases hn1 with h | h; exact h; exact absurd hst h
        have HS := Lib.hid hst
        clear hst hn1
        go_wp2
        go_roundw
        case rel =>
          refine ⟨k + 1, by omega, by go_num, ?_, ?_⟩
          · rw [HK.out, HL.out, if_pos HS.out]; go_num
          · exact hbel.trans (((Below.refl _ _).alloc (Nat.le_refl _) _).mono hbel.size)
        case measure => simp [intOf]; omega
      · have hs : (x.state == 1) = false := by simpa using hst
        have HS := Lib.hid hst
        clear hst hn1
        go_wp2
        go_roundw
        case rel =>
          refine ⟨k + 1, by omega, by go_num, ?_, ?_⟩
          · rw [HK.out, HL.out, if_neg HS.out]; rfl
          · exact hbel.trans (((Below.refl _ _).alloc (Nat.le_refl _) _).mono hbel.size)
        case measure => simp [intOf]; omega
    · obtain rfl : k = y.runs.length := by omega
      clear hca
      rw [List.take_length]
      obtain ⟨hcr, hfr⟩ := bcell hbel
      have q0 : wr.cell? ⟨w.heap.size, 0, none⟩ = some (.int .i64 y.now) := (hcr _ _ (by simp)).trans (by simp [go_sem])
      have q1 : wr.cell? ⟨w.heap.size, 1, none⟩ = some (.int .i64 y.seq) := (hcr _ _ (by simp)).trans (by simp [go_sem])
      have q2 : wr.cell? ⟨w.heap.size, 2, none⟩ = some (.slice svA svn svc) := (hcr _ _ (by simp)).trans (by simp [go_sem])
      have q3 : wr.cell? ⟨w.heap.size, 3, none⟩ = some (.slice A y.runs.length c) := (hcr _ _ (by simp)).trans (by simp [go_sem])
      clear hcr hfr hbel
      go_wp2_with fail
      refine (iallEntries_c y _ _ _ own ⟨_, rfl, yd_mk (up ah0 hB) (up ah1 hB)⟩ hsz).mono ?_
      rintro e w1 ⟨ev, T1, rfl, hrv, -, hb1⟩
      obtain ⟨B, d, rfl, hd1, hd2, hdb⟩ := Rep.open_ (size := 4) (enc := encEn) (fun _ => rfl) (by decide) hrv
      unfold maxLen at hd2
      have hB1 := bl_dn hB hb1
      replace q0 := cell_to hb1 q0
      replace q1 := cell_to hb1 q1
      replace q2 := cell_to hb1 q2
      replace q3 := cell_to hb1 q3
      clear hb1 hrv
      go_wp2_with fail
      go_loopw [3, 7, 27] (fun n _ i wr => ∃ k : Nat, k ≤ (allEn y).length ∧ i = .int .i64 k ∧ n = .int .i64 ((tsum liveN y.runs : Int) + staleN y ((allEn y).take k)) ∧ Below w1.heap.size w1 wr) (fun _ _ i _ => (allEn y).length - (intOf i).toNat)
      case atStart => exact ⟨0, by omega, rfl, by simp [staleN], Below.refl _ _⟩
      case round =>
        obtain ⟨k, hk, rfl, rfl, hbel⟩ := hrel
        have hB2 := bl_dn hB1 hbel
        by_cases hlt : k < (allEn y).length
        · obtain ⟨x, hx⟩ := get_some hlt
          obtain ⟨b1, o1, vk1, T2, rfl, -, hr1, -, -, hb1, hx1⟩ := hdb k x hx
          clear hdb
          obtain ⟨rfl, rfl⟩ := en_cells hr1
          have p0 := cell_to0 hbel (hx1 0 _ rfl)
          have p1 := cell_to hbel (hx1 1 _ rfl)
          have p2 := cell_to hbel (hx1 2 _ rfl)
          have p3 := cell_to hbel (hx1 3 _ rfl)
          have r0 := cell_to hbel q0
          have r1 := cell_to hbel q1
          have r2 := cell_to hbel q2
          have r3 := cell_to hbel q3
          have hltw := World.block_lt_of_cell? wr _ r0
          simp only at hltw
          have hss := stale_succ (y := y) hx
          have hst := stale_take y (allEn y) (k + 1)
          have hsa := stale_le y (allEn y)
          have hn0 : (tsum liveN y.runs : Int) + staleN y ((allEn y).take k) ≤ 4000000 := by split at hss <;> omega
          have HS := Lib.hid hss
          clear hx hx1 hss hst hsa
          by_cases hfr : fresh y x = true
          · have HF := Lib.hid hfr
            clear hfr
            go_wp2_with (go_at_call 145; refine (cb (iFresh_c y x _ _ _ _ _ own own ⟨_, rfl, yd_mk (upA (up ah0 hB2) _) (upA (up ah1 hB2) _)⟩ ⟨_, rfl, en_mk _ _ x⟩) HF.out).mono ?_; rintro e w2 ⟨rfl, hb2⟩)
            go_roundw
            case rel =>
              refine ⟨k + 1, by omega, by go_num, ?_, bl_dn (upB hbel _) hb2⟩
              rw [HS.out, if_pos HF.out]; rfl
            case measure => simp [intOf]; omega
          · have hfr' : fresh y x = false := by simpa using hfr
            have HF := Lib.hid hfr'
            clear hfr hfr'
            go_wp2_with (go_at_call 145; refine (cb (iFresh_c y x _ _ _ _ _ own own ⟨_, rfl, yd_mk (upA (up ah0 hB2) _) (upA (up ah1 hB2) _)⟩ ⟨_, rfl, en_mk _ _ x⟩) HF.out).mono ?_; rintro e w2 ⟨rfl, hb2⟩)
            go_roundw
            case rel =>
              refine ⟨k + 1, by omega, by go_num, ?_, bl_dn (upB hbel _) hb2⟩
              rw [HS.out, HF.out]; simp; omega
            case measure => simp [intOf]; omega
        · obtain rfl : k = (allEn y).length := by omega
          clear hdb
          rw [List.take_length]
          have hsl : slotsOf y = (tsum liveN y.runs : Int) + staleN y (allEn y) := rfl
          have HSL := Lib.hid hsl
          clear hsl
          go_wp2
          go_ret
          exact ⟨ret_int HSL.out.symm, hB2⟩
end Go.Proofs.YtnhdcbhcocgjhaaGreat
namespace Go.Proofs.YtnhdcbhcocgjhaaGreat
open Go.RowKit Go.Sort Go.BigFrame

theorem stale_append (y : Yd) (a b : List En) : staleN y (a ++ b) = staleN y a + staleN y b := by simp [staleN]

set_option maxHeartbeats 4000000 in
theorem sSlotsOf_c (y : Yd) (a : Value) (S : List Nat) (w : World) (own : Bool) (ha : AggRep w own (encYd y) a S) (hsz : totYd y ≤ 2000000) :
    Calls Tryz.prog 135 #[a] w fun e w' => e = .returned (.int .i64 (slotsOf y)) ∧ Below w.heap.size w w' := by
  obtain ⟨_, rfl, ha⟩ := ha
  obtain ⟨sv, rv, S1, S2, rfl, ah0, ah1, rfl⟩ := yd_cells ha
  clear ha
  obtain ⟨A, c, rfl, hc1, hc2, hca⟩ := Rep.open_ (size := 8) (enc := encRn) (fun _ => rfl) (by decide) ah1
  obtain ⟨C, f, rfl, hf1, hf2, hfa⟩ := Rep.open_ (size := 1) (enc := fun es => [encEns es]) (fun _ => rfl) (by decide) ah0
  unfold maxLen at hc2 hf2
  have hl1 : y.runs.length ≤ 9223372036854775807 := by omega
  have hl2 : y.shelf.length ≤ 9223372036854775807 := by omega
  have hlive : tsum liveN y.runs ≤ 2000000 := by have := tsum_live y.runs; simp only [totYd, totRns] at hsz; omega
  have hall : (allEn y).length ≤ 2000000 := by unfold allEn; rw [len_flatten]; simp only [totYd, totSh] at hsz; omega
  have hB0 := upB (Below.refl w.heap.size w) (.cells #[.int .i64 y.now, .int .i64 y.seq, .slice C y.shelf.length f, .slice A y.runs.length c] tYd)
  go_enter Tryz.func135, Tryz.ntmps135
  go_wp2
  go_loop [3, 4] (fun n i => ∃ k : Nat, k ≤ y.runs.length ∧ i = .int .i64 k ∧ n = .int .i64 (tsum liveN (y.runs.take k) : Nat)) (fun _ i => y.runs.length - (intOf i).toNat)
  case atStart => exact ⟨0, by omega, rfl, rfl⟩
  case round =>
    obtain ⟨k, hk, rfl, rfl⟩ := hrel
    by_cases hlt : k < y.runs.length
    · obtain ⟨x, hx⟩ := get_some hlt
      obtain ⟨b1, o1, vk1, T1, rfl, -, hr1, -, -, hb1, hx1⟩ := hca k x hx
      clear hca hfa
      obtain ⟨v0, v1, U0, U1, rfl, hev, htv, -⟩ := rn_cells hr1
      obtain ⟨B, d, rfl, hd1, hd2, hdb⟩ := Rep.open_ (size := 4) (enc := encTk) (fun _ => rfl) (by decide) htv
      unfold maxLen at hd2
      have hl3 : x.tasks.length ≤ 9223372036854775807 := by omega
      have p6 := hx1 6 _ rfl
      have p7 := hx1 7 _ rfl
      have htk := tsum_succ (tot := liveN) hx
      have htl := tsum_le liveN y.runs (k + 1)
      have hlv : liveN x = if x.state = 1 then x.tasks.length else 0 := rfl
      have HK := Lib.hid htk
      have HL := Lib.hid hlv
      have hn0 : (tsum liveN (y.runs.take k) : Int) ≤ 2000000 := by omega
      have hn1 : x.tasks.length ≤ 2000000 ∨ x.state ≠ 1 := by by_cases h : x.state = 1; left; rw [if_pos h] at hlv; omega; exact .inr h
      clear hx hx1 hr1 htk hlv hdb htl
      by_cases hst : x.state = 1
      · have hs : (x.state == 1) = true := by simpa using hst
        have hn2 : x.tasks.length ≤ 2000000 := by rcases hn1 with h | h; exact h; exact absurd hst h
        have HS := Lib.hid hst
        clear hst hn1
        go_wp2
        go_round
        case rel =>
          refine ⟨k + 1, by omega, by go_num, ?_⟩
          rw [HK.out, HL.out, if_pos HS.out]; go_num
        case measure => simp [intOf]; omega
      · have hs : (x.state == 1) = false := by simpa using hst
        have HS := Lib.hid hst
        clear hst hn1
        go_wp2
        go_round
        case rel =>
          refine ⟨k + 1, by omega, by go_num, ?_⟩
          rw [HK.out, HL.out, if_neg HS.out]; rfl
        case measure => simp [intOf]; omega
    · obtain rfl : k = y.runs.length := by omega
      clear hca
      rw [List.take_length]
      go_wp2
      go_loopw [3, 5, 6] (fun n i _ wr => ∃ k : Nat, k ≤ y.shelf.length ∧ i = .int .i64 k ∧ n = .int .i64 ((tsum liveN y.runs : Int) + staleN y (y.shelf.take k).flatten) ∧ Below (w.alloc (.cells #[.int .i64 y.now, .int .i64 y.seq, .slice C y.shelf.length f, .slice A y.runs.length c] tYd)).heap.size (w.alloc (.cells #[.int .i64 y.now, .int .i64 y.seq, .slice C y.shelf.length f, .slice A y.runs.length c] tYd)) wr) (fun _ i _ _ => y.shelf.length - (intOf i).toNat)
      case atStart => exact ⟨0, by omega, rfl, by simp [staleN], Below.refl _ _⟩
      case round =>
        obtain ⟨k, hk, rfl, rfl, hbel⟩ := hrel
        obtain ⟨wo, rfl⟩ : ∃ wo : World, wo = wr := ⟨_, rfl⟩
        have hB2 := bl_dn hB0 hbel
        obtain ⟨hcr, hfr⟩ := bcell hbel
        have q0 : wo.cell? ⟨w.heap.size, 0, none⟩ = some (.int .i64 y.now) := (hcr _ _ (by simp)).trans (by simp [go_sem])
        have q1 : wo.cell? ⟨w.heap.size, 1, none⟩ = some (.int .i64 y.seq) := (hcr _ _ (by simp)).trans (by simp [go_sem])
        have q2 : wo.cell? ⟨w.heap.size, 2, none⟩ = some (.slice C y.shelf.length f) := (hcr _ _ (by simp)).trans (by simp [go_sem])
        have q3 : wo.cell? ⟨w.heap.size, 3, none⟩ = some (.slice A y.runs.length c) := (hcr _ _ (by simp)).trans (by simp [go_sem])
        clear hcr hfr
        by_cases hlt : k < y.shelf.length
        · obtain ⟨es, hx⟩ := get_some hlt
          obtain ⟨b1, o1, vk1, T2, rfl, -, hr1, -, -, hb1, hx1⟩ := hfa k es hx
          clear hfa
          obtain ⟨u, _, U0, U1, rfl, rfl, hu, rfl, rfl⟩ := hr1
          have p0 : w.cell? ⟨b1, o1 + k, none⟩ = some u := by simpa using hx1 0 _ rfl
          have hfs := flatten_take_succ hx
          have hse : ∀ j, staleN y (y.shelf.take k).flatten + staleN y (es.take j) ≤ 2000000 := fun j => by
            have h1 := stale_take y es j
            have h2 := stale_append y (y.shelf.take k).flatten es
            rw [← hfs] at h2
            have h3 := stale_le y (y.shelf.take (k + 1)).flatten
            have h4 : (y.shelf.take (k + 1)).flatten.length ≤ (allEn y).length := by unfold allEn; rw [len_flatten, len_flatten]; exact tsum_le _ _ _
            omega
          obtain ⟨B, d, rfl, hd1, hd2, hdb⟩ := Rep.open_ (size := 4) (enc := encEn) (fun _ => rfl) (by decide) hu
          unfold maxLen at hd2
          have hl3 : es.length ≤ 9223372036854775807 := by omega
          have p0' := cell_to hB2 p0
          have HFS := Lib.hid hfs
          clear hx hx1 hfs
          go_wp2
          go_loopw [3, 6] (fun n i wr => ∃ j : Nat, j ≤ es.length ∧ i = .int .i64 j ∧ n = .int .i64 ((tsum liveN y.runs : Int) + staleN y (y.shelf.take k).flatten + staleN y (es.take j)) ∧ Below wo.heap.size wo wr) (fun _ i _ => es.length - (intOf i).toNat)
          case atStart => exact ⟨0, by omega, rfl, by simp [staleN], Below.refl _ _⟩
          case round =>
            obtain ⟨j, hj, rfl, rfl, hbe⟩ := hrel
            have hB3 := bl_dn hB2 hbe
            have r2 := cell_to hbe q2
            have p0'' := cell_to hbe p0'
            by_cases hjl : j < es.length
            · obtain ⟨x, hx⟩ := get_some hjl
              obtain ⟨b2, o2, vk2, T3, rfl, -, hr2, -, -, hb2, hx2⟩ := hdb j x hx
              clear hdb
              obtain ⟨rfl, rfl⟩ := en_cells hr2
              have hsj := hse j
              have hss := stale_succ (y := y) hx
              have HS := Lib.hid hss
              have c0 := cell_regrown (cell_to0 hB3 (hx2 0 _ rfl))
              have c1 := cell_regrown (cell_to hB3 (hx2 1 _ rfl))
              have c2 := cell_regrown (cell_to hB3 (hx2 2 _ rfl))
              have c3 := cell_regrown (cell_to hB3 (hx2 3 _ rfl))
              have g0 := cell_regrown (cell_to hbe q0)
              have g1 := cell_regrown (cell_to hbe q1)
              have g2 := cell_regrown r2
              have g3 := cell_regrown (cell_to hbe q3)
              have gp := cell_regrown p0''
              have hcall := fun (W : World) (hW : Below wr.heap.size wr W) => sFresh_c y x _ _ _ _ W own own ⟨_, rfl, yd_mk (up (up ah0 hB3) hW) (up (up ah1 hB3) hW)⟩ ⟨_, rfl, en_mk _ _ x⟩
              clear hx hx2 hss hse
              by_cases hfr : fresh y x = true
              · have HF := Lib.hid hfr
                clear hfr
                go_wp2
                refine wp_region_quiet_below (by kernel_rfl) (by kernel_rfl) ?_
                repeat (go_big_quiet_step (exact Calls.regrown_of (cb (hcall _ (below_regrown wr _ _)) HF.out)))
                refine wpQuiet_nil ?_
                intro _ hw'
                obtain ⟨⟨dq, osq⟩, hw''⟩ := hw'
                subst hw''
                go_wp2
                go_roundw
                case rel =>
                  refine ⟨j + 1, by omega, by go_num, ?_, bl_dn hbe (below_regrown wr dq osq)⟩
                  rw [HS.out, if_pos HF.out]; rfl
                case measure => simp [intOf]; omega
              · have hfr' : fresh y x = false := by simpa using hfr
                have HF := Lib.hid hfr'
                clear hfr hfr'
                go_wp2
                refine wp_region_quiet_below (by kernel_rfl) (by kernel_rfl) ?_
                repeat (go_big_quiet_step (exact Calls.regrown_of (cb (hcall _ (below_regrown wr _ _)) HF.out)))
                refine wpQuiet_nil ?_
                intro _ hw'
                obtain ⟨⟨dq, osq⟩, hw''⟩ := hw'
                subst hw''
                go_wp2
                go_roundw
                case rel =>
                  refine ⟨j + 1, by omega, by go_num, ?_, bl_dn hbe (below_regrown wr dq osq)⟩
                  rw [HS.out, HF.out]; simp; omega
                case measure => simp [intOf]; omega
            · obtain rfl : j = es.length := by omega
              clear hdb hse
              rw [List.take_length]
              go_wp2
              go_roundw
              case rel =>
                refine ⟨k + 1, by omega, by go_num, ?_, bl_dn hbel hbe⟩
                rw [HFS.out, stale_append]; simp; omega
              case measure => simp [intOf]; omega
        · obtain rfl : k = y.shelf.length := by omega
          clear hfa
          rw [List.take_length]
          have hsl : slotsOf y = (tsum liveN y.runs : Int) + staleN y y.shelf.flatten := rfl
          have HSL := Lib.hid hsl
          clear hsl
          go_wp2
          go_ret
          exact ⟨ret_int HSL.out.symm, hB2⟩
end Go.Proofs.YtnhdcbhcocgjhaaGreat
