/- Texts for laws: RunD. -/
import Derived.Test.YtnhdcbhcocgjhaaGreatQAb
import Derived.Test.YtnhdcbhcocgjhaaGreatQRunOk
set_option linter.unusedSimpArgs false
set_option linter.unusedVariables false
set_option maxRecDepth 100000
namespace Go.Proofs.YtnhdcbhcocgjhaaGreat
open Go.RowKit Go.Sort
theorem setAt_app {α : Type} {A B C v : List α} {o j : Nat} (ho : o = A.length + j) (hj : j + v.length ≤ B.length) : setAt (A ++ (B ++ C)) o v = A ++ (setAt B j v ++ C) := by
  subst ho
  rw [setAt_eq _ _ _ (by simp only [List.length_append]; omega), setAt_eq _ _ _ hj]
  have h1 : (A ++ (B ++ C)).take (A.length + j) = A ++ B.take j := by
    rw [List.take_append, List.take_of_length_le (by omega), Nat.add_sub_cancel_left, List.take_append_of_le_length (by omega)]
  have h2 : (A ++ (B ++ C)).drop (A.length + j + v.length) = B.drop (j + v.length) ++ C := by
    rw [List.drop_append, List.drop_eq_nil_of_le (by omega), List.nil_append, show A.length + j + v.length - A.length = j + v.length by omega, List.drop_append_of_le_length (by omega)]
  rw [h1, h2]
  simp only [List.append_assoc]
section
variable {α : Type} {enc : α → List D} {size ty : Nat} {l : List α} {k : Nat} {x : α}
theorem split_flat (hx : l[k]? = some x) : l.flatMap enc = (l.take k).flatMap enc ++ (enc x ++ (l.drop (k + 1)).flatMap enc) := by
  obtain ⟨hk, he⟩ := List.getElem?_eq_some_iff.1 hx
  have e : l = l.take k ++ x :: l.drop (k + 1) := by rw [← he, ← List.drop_eq_getElem_cons hk, List.take_append_drop]
  have h2 := congrArg (List.flatMap enc) e
  rw [h2, List.flatMap_append, List.flatMap_cons]
theorem take_len (hs : ∀ x, (enc x).length = size) (hx : l[k]? = some x) : ((l.take k).flatMap enc).length = k * size := by
  have hk := (List.getElem?_eq_some_iff.1 hx).1
  rw [len_flat hs, List.length_take, Nat.min_eq_left (by omega)]
theorem put1_flat (hs : ∀ x, (enc x).length = size) (hx : l[k]? = some x) {y : α} {j : Nat} {v : List D} (hy : setAt (enc x) j v = enc y) (hj : j + v.length ≤ size) : D.put [] (k * size + j) v (.sl size ty (l.flatMap enc)) = .sl size ty ((l.set k y).flatMap enc) := by
  have hk := (List.getElem?_eq_some_iff.1 hx).1
  have h2 : (l.set k y)[k]? = some y := List.getElem?_set_self hk
  have e1 : (l.set k y).take k = l.take k := List.take_set_of_le (Nat.le_refl k)
  have e2 : (l.set k y).drop (k + 1) = l.drop (k + 1) := List.drop_set_of_lt (Nat.lt_succ_self k)
  simp only [D.put]
  rw [split_flat hx, setAt_app (by rw [take_len hs hx]) (by rw [hs]; exact hj), hy, split_flat h2, e1, e2]
theorem at1_flat (hs : ∀ x, (enc x).length = size) (hx : l[k]? = some x) {j n : Nat} (hj : j + n ≤ size) : ((l.flatMap enc).drop (k * size + j)).take n = ((enc x).drop j).take n := by
  rw [split_flat hx, ← List.drop_drop, List.drop_left' (take_len hs hx), List.drop_append_of_le_length (by rw [hs]; omega), List.take_append_of_le_length (by rw [List.length_drop, hs]; omega)]
theorem in1_flat (hs : ∀ x, (enc x).length = size) (hx : l[k]? = some x) {j n : Nat} (hj : j + n ≤ size) : k * size + j + n ≤ (l.flatMap enc).length := by
  have hk := (List.getElem?_eq_some_iff.1 hx).1
  rw [len_flat hs]
  have : (k + 1) * size ≤ l.length * size := Nat.mul_le_mul_right _ hk
  rw [Nat.succ_mul] at this
  omega
end
section
variable {l : List Tk} {k : Nat} {x : Tk}
theorem put_tk0 (hx : l[k]? = some x) (v : Int) : D.put [] (k * 4) [.val (.int .i64 v)] (encTks l) = encTks (l.set k ⟨v, x.need, x.tri, x.til⟩) := put1_flat (enc := encTk) (size := 4) (fun _ => rfl) hx (j := 0) rfl (by simp)
theorem put_tk0' (hx : l[k]? = some x) (v : Int) : D.put [] (k * 4 + 0) [.val (.int .i64 v)] (encTks l) = encTks (l.set k ⟨v, x.need, x.tri, x.til⟩) := put1_flat (enc := encTk) (size := 4) (fun _ => rfl) hx (j := 0) rfl (by simp)
theorem put_tk1 (hx : l[k]? = some x) (v : Int) : D.put [] (k * 4 + 1) [.val (.int .i64 v)] (encTks l) = encTks (l.set k ⟨x.state, v, x.tri, x.til⟩) := put1_flat (enc := encTk) (size := 4) (fun _ => rfl) hx (j := 1) rfl (by simp)
theorem put_tk3 (hx : l[k]? = some x) (v : Int) : D.put [] (k * 4 + 3) [.val (.int .i64 v)] (encTks l) = encTks (l.set k ⟨x.state, x.need, x.tri, v⟩) := put1_flat (enc := encTk) (size := 4) (fun _ => rfl) hx (j := 3) rfl (by simp)
theorem at_tk (hx : l[k]? = some x) : ((l.flatMap encTk).drop (k * 4)).take 4 = encTk x := at1_flat (enc := encTk) (size := 4) (fun _ => rfl) hx (j := 0) (n := 4) (by decide)
theorem at_tk0 (hx : l[k]? = some x) : ((l.flatMap encTk).drop (k * 4)).take 1 = [.val (.int .i64 x.state)] := at1_flat (enc := encTk) (size := 4) (fun _ => rfl) hx (j := 0) (n := 1) (by decide)
theorem at_tk0' (hx : l[k]? = some x) : ((l.flatMap encTk).drop (k * 4 + 0)).take 1 = [.val (.int .i64 x.state)] := at1_flat (enc := encTk) (size := 4) (fun _ => rfl) hx (j := 0) (n := 1) (by decide)
theorem at_tk1 (hx : l[k]? = some x) : ((l.flatMap encTk).drop (k * 4 + 1)).take 1 = [.val (.int .i64 x.need)] := at1_flat (enc := encTk) (size := 4) (fun _ => rfl) hx (j := 1) (n := 1) (by decide)
theorem at_tk2 (hx : l[k]? = some x) : ((l.flatMap encTk).drop (k * 4 + 2)).take 1 = [.val (.int .i64 x.tri)] := at1_flat (enc := encTk) (size := 4) (fun _ => rfl) hx (j := 2) (n := 1) (by decide)
theorem at_tk3 (hx : l[k]? = some x) : ((l.flatMap encTk).drop (k * 4 + 3)).take 1 = [.val (.int .i64 x.til)] := at1_flat (enc := encTk) (size := 4) (fun _ => rfl) hx (j := 3) (n := 1) (by decide)
theorem in_tk (hx : l[k]? = some x) : k * 4 + 4 ≤ (l.flatMap encTk).length := in1_flat (enc := encTk) (size := 4) (fun _ => rfl) hx (j := 0) (n := 4) (by decide)
theorem in_tk0 (hx : l[k]? = some x) : k * 4 + 1 ≤ (l.flatMap encTk).length := in1_flat (enc := encTk) (size := 4) (fun _ => rfl) hx (j := 0) (n := 1) (by decide)
theorem in_tk0' (hx : l[k]? = some x) : k * 4 + 0 + 1 ≤ (l.flatMap encTk).length := in1_flat (enc := encTk) (size := 4) (fun _ => rfl) hx (j := 0) (n := 1) (by decide)
theorem in_tk1 (hx : l[k]? = some x) : k * 4 + 1 + 1 ≤ (l.flatMap encTk).length := in1_flat (enc := encTk) (size := 4) (fun _ => rfl) hx (j := 1) (n := 1) (by decide)
theorem in_tk2 (hx : l[k]? = some x) : k * 4 + 2 + 1 ≤ (l.flatMap encTk).length := in1_flat (enc := encTk) (size := 4) (fun _ => rfl) hx (j := 2) (n := 1) (by decide)
theorem in_tk3 (hx : l[k]? = some x) : k * 4 + 3 + 1 ≤ (l.flatMap encTk).length := in1_flat (enc := encTk) (size := 4) (fun _ => rfl) hx (j := 3) (n := 1) (by decide)
end
section
variable {l : List En} {k : Nat} {x : En}
theorem at_en (hx : l[k]? = some x) : ((l.flatMap encEn).drop (k * 4)).take 4 = encEn x := at1_flat (enc := encEn) (size := 4) (fun _ => rfl) hx (j := 0) (n := 4) (by decide)
theorem at_en1 (hx : l[k]? = some x) : ((l.flatMap encEn).drop (k * 4 + 1)).take 1 = [.val (.int .i64 x.seq)] := at1_flat (enc := encEn) (size := 4) (fun _ => rfl) hx (j := 1) (n := 1) (by decide)
theorem in_en (hx : l[k]? = some x) : k * 4 + 4 ≤ (l.flatMap encEn).length := in1_flat (enc := encEn) (size := 4) (fun _ => rfl) hx (j := 0) (n := 4) (by decide)
theorem in_en1 (hx : l[k]? = some x) : k * 4 + 1 + 1 ≤ (l.flatMap encEn).length := in1_flat (enc := encEn) (size := 4) (fun _ => rfl) hx (j := 1) (n := 1) (by decide)
end
/-- A run in a box of one's own. -/
abbrev RnBox (b ty : Nat) (r : Rn) (e1 e2 : Heads) : Ob := .box b ty [.a (.v (.int .i64 r.id)), .a (.v (.int .i64 r.plan.prio)), .a (.v (.int .i64 r.plan.most)), .a (.v (.int .i64 r.plan.wait)), .a (.v (.int .i64 r.plan.tasks)), .own (encEds r.plan.edges) e1, .a (.v (.int .i64 r.state)), .own (encTks r.tasks) e2]
/-- A box for a run. -/
abbrev ZRn (b ty : Nat) : Ob := .box b ty [.a (.v (.int .i64 0)), .a (.v (.int .i64 0)), .a (.v (.int .i64 0)), .a (.v (.int .i64 0)), .a (.v (.int .i64 0)), .a (.v (.slice none 0 0)), .a (.v (.int .i64 0)), .a (.v (.slice none 0 0))]
theorem fold_encTks' (l : List Tk) : D.sl 4 tTk (l.flatMap encTk) = encTks l := rfl
def c_spec_l09Copy : C := .seq (.reg [⟨some 1, none, .box 80 8 (.t 0)⟩, ⟨some 2, none, .alloc 80 [.int .i64 0, .int .i64 0, .int .i64 0, .int .i64 0, .int .i64 0, .slice none 0 0, .int .i64 0, .slice none 0 0]⟩]) (.seq (.reg [⟨some 3, none, .fa 1 (.t 1)⟩, ⟨some 4, none, .ld true 5 (.t 3)⟩, ⟨some 5, none, .call 163 [.t 4]⟩, ⟨some 6, none, .fa 1 (.t 1)⟩, ⟨none, none, .st 5 [none, none, none, none, some (2, 182)] (.t 6) (.t 5)⟩]) (.seq (.reg [⟨some 7, none, .bsl 98 4 0 [] []⟩, ⟨some 8, none, .fa 7 (.t 1)⟩, ⟨some 9, none, .ld false 1 (.t 8)⟩, ⟨some 10, none, .app 98 4 32 (.t 7) (.t 9)⟩, ⟨some 11, none, .fa 7 (.t 1)⟩, ⟨none, none, .st 1 [some (4, 98)] (.t 11) (.t 10)⟩]) (.seq (.reg [⟨some 12, none, .ld true 8 (.t 1)⟩, ⟨none, none, .st 8 [none, none, none, none, none, some (2, 182), none, some (4, 98)] (.t 2) (.t 12)⟩]) .ret)))
theorem code_spec_l09Copy : fnC Tryz.prog Tryz.f105 = some (c_spec_l09Copy, [.cell 2 true 8], 13) := by kernel_rfl
def c_impl_copyRun : C := .seq (.reg [⟨some 1, none, .box 80 8 (.t 0)⟩, ⟨some 2, none, .alloc 80 [.int .i64 0, .int .i64 0, .int .i64 0, .int .i64 0, .int .i64 0, .slice none 0 0, .int .i64 0, .slice none 0 0]⟩]) (.seq (.reg [⟨some 3, none, .fa 1 (.t 1)⟩, ⟨some 4, none, .ld true 5 (.t 3)⟩, ⟨some 5, none, .call 168 [.t 4]⟩, ⟨some 6, none, .fa 1 (.t 1)⟩, ⟨none, none, .st 5 [none, none, none, none, some (2, 182)] (.t 6) (.t 5)⟩]) (.seq (.reg [⟨some 7, none, .fa 7 (.t 1)⟩, ⟨some 8, none, .ld false 1 (.t 7)⟩, ⟨some 9, none, .app 98 4 32 (.c (.slice none 0 0)) (.t 8)⟩, ⟨some 10, none, .fa 7 (.t 1)⟩, ⟨none, none, .st 1 [some (4, 98)] (.t 10) (.t 9)⟩]) (.seq (.reg [⟨some 11, none, .ld true 8 (.t 1)⟩, ⟨none, none, .st 8 [none, none, none, none, none, some (2, 182), none, some (4, 98)] (.t 2) (.t 11)⟩]) .ret)))
theorem code_impl_copyRun : fnC Tryz.prog Tryz.f114 = some (c_impl_copyRun, [.cell 2 true 8], 12) := by kernel_rfl
theorem p_impl_copyRun (r : Rn) (hb : r.plan.edges.length ≤ 4000000) (ht : r.tasks.length ≤ 4000000) : Pure Tryz.prog 114 [.agg (encRn r)] (.agg (encRn r)) := by
  refine pure_fn Tryz.func114 code_impl_copyRun (by simp) ?_
  unfold c_impl_copyRun
  have h1 : r.tasks.length ≤ maxLen := by unfold maxLen; omega
  have h2 : r.tasks.length * 32 ≤ 140737488355328 := by omega
  simp -implicitDefEqProofs only [go_sem, encRn, encPl]
  intro b b2
  refine run_call (p_impl_copyPlan r.plan hb) (by simp -implicitDefEqProofs only [go_sem, encRn, encPl]) fun η => ?_
  simp -implicitDefEqProofs only [go_sem, encRn, encPl]
  simp -implicitDefEqProofs only [go_sem, encRn, encPl, h1, h2, fold_encTks']
theorem p_spec_l09Copy (r : Rn) (hb : r.plan.edges.length ≤ 4000000) (ht : r.tasks.length ≤ 4000000) : Pure Tryz.prog 105 [.agg (encRn r)] (.agg (encRn r)) := by
  refine pure_fn Tryz.func105 code_spec_l09Copy (by simp) ?_
  unfold c_spec_l09Copy
  have h1 : r.tasks.length ≤ maxLen := by unfold maxLen; omega
  have h2 : r.tasks.length * 32 ≤ 140737488355328 := by omega
  simp -implicitDefEqProofs only [go_sem, encRn, encPl]
  intro b b2
  refine run_call (p_spec_l06Copy r.plan hb) (by simp -implicitDefEqProofs only [go_sem, encRn, encPl]) fun η => ?_
  simp -implicitDefEqProofs only [go_sem, encRn, encPl]
  simp -implicitDefEqProofs only [go_sem, encRn, encPl, h1, h2, fold_encTks']
end Go.Proofs.YtnhdcbhcocgjhaaGreat
set_option linter.unusedSimpArgs false
set_option linter.unusedVariables false
set_option maxRecDepth 100000
namespace Go.Proofs.YtnhdcbhcocgjhaaGreat
open Go.RowKit Go.Sort
def c_spec_l09Runs : C := .seq (.reg [⟨some 2, none, .box 80 8 (.t 0)⟩, ⟨some 4, none, .mov (.c (.bool false))⟩]) (.seq (.reg [⟨some 5, none, .ld true 8 (.t 2)⟩, ⟨some 6, none, .call 132 [.t 5]⟩, ⟨some 7, none, .mov (.t 6)⟩, ⟨some 8, some (7, true), .mov (.t 1)⟩, ⟨some 9, some (7, true), .fa 7 (.t 2)⟩, ⟨some 10, some (7, true), .ld false 1 (.t 9)⟩, ⟨some 11, some (7, true), .len false (.t 10)⟩, ⟨some 12, some (7, true), .bin .sub 3 (.t 11) (.c (.int .i64 1))⟩, ⟨some 13, some (7, true), .call 72 [.t 8, .c (.int .i64 0), .t 12]⟩, ⟨some 14, none, .pick (.t 7) (.t 13) (.c (.bool false))⟩, ⟨some 15, none, .mov (.t 14)⟩, ⟨some 16, some (15, true), .fa 7 (.t 2)⟩, ⟨some 17, some (15, true), .ld false 1 (.t 16)⟩, ⟨some 18, some (15, true), .mov (.t 1)⟩, ⟨some 19, some (15, true), .ia 4 (.t 17) (.t 18)⟩, ⟨some 20, some (15, true), .fa 0 (.t 19)⟩, ⟨some 21, some (15, true), .ld false 1 (.t 20)⟩, ⟨some 22, some (15, true), .bin .eql 3 (.t 21) (.c (.int .i64 3))⟩, ⟨some 23, none, .pick (.t 15) (.t 22) (.c (.bool false))⟩, ⟨some 4, none, .mov (.t 23)⟩]) .ret)
theorem code_spec_l09Runs : fnC Tryz.prog Tryz.f108 = some (c_spec_l09Runs, [.t 4], 24) := by kernel_rfl
def c_spec_RunDone : C := .seq (.reg [⟨some 2, none, .box 80 8 (.t 0)⟩, ⟨some 4, none, .alloc 80 [.int .i64 0, .int .i64 0, .int .i64 0, .int .i64 0, .int .i64 0, .slice none 0 0, .int .i64 0, .slice none 0 0]⟩]) (.seq (.reg [⟨some 9, none, .ld true 8 (.t 2)⟩, ⟨some 10, none, .call 105 [.t 9]⟩, ⟨some 5, none, .alloc 80 [.int .i64 0, .int .i64 0, .int .i64 0, .int .i64 0, .int .i64 0, .slice none 0 0, .int .i64 0, .slice none 0 0]⟩, ⟨none, none, .st 8 [none, none, none, none, none, some (2, 182), none, some (4, 98)] (.t 5) (.t 10)⟩]) (.seq (.seq (.reg [⟨some 11, none, .ld true 8 (.t 2)⟩, ⟨some 12, none, .mov (.t 1)⟩, ⟨some 13, none, .call 108 [.t 11, .t 12]⟩, ⟨some 14, none, .un .not (.t 13)⟩]) (.cond (.t 14) (.seq (.reg [⟨some 15, none, .ld true 8 (.t 5)⟩, ⟨none, none, .st 8 [none, none, none, none, none, some (2, 182), none, some (4, 98)] (.t 4) (.t 15)⟩]) .ret) .skip)) (.seq (.reg [⟨some 16, none, .fa 7 (.t 5)⟩, ⟨some 17, none, .ld false 1 (.t 16)⟩, ⟨some 18, none, .mov (.t 1)⟩, ⟨some 19, none, .ia 4 (.t 17) (.t 18)⟩, ⟨some 20, none, .fa 0 (.t 19)⟩, ⟨none, none, .st 1 [none] (.t 20) (.c (.int .i64 4))⟩]) (.seq (.reg [⟨some 21, none, .fa 7 (.t 5)⟩, ⟨some 22, none, .ld false 1 (.t 21)⟩, ⟨some 23, none, .mov (.t 1)⟩, ⟨some 24, none, .ia 4 (.t 22) (.t 23)⟩, ⟨some 25, none, .fa 3 (.t 24)⟩, ⟨none, none, .st 1 [none] (.t 25) (.c (.int .i64 0))⟩]) (.seq (.reg [⟨some 26, none, .fa 1 (.t 2)⟩, ⟨some 27, none, .ld true 5 (.t 26)⟩, ⟨some 28, none, .mov (.t 1)⟩, ⟨some 29, none, .call 109 [.t 27, .t 28]⟩, ⟨some 6, none, .mov (.t 29)⟩]) (.seq (.seq (.reg [⟨some 7, none, .mov (.c (.int .i64 0))⟩]) (.blk 0 (.loop (.seq (.seq (.reg [⟨some 30, none, .mov (.t 7)⟩, ⟨some 31, none, .mov (.t 6)⟩, ⟨some 32, none, .len false (.t 31)⟩, ⟨some 33, none, .bin .lss 3 (.t 30) (.t 32)⟩]) (.cond (.t 33) .skip (.exit 0))) (.seq (.blk 1 (.seq (.dreg (T.pure 0 ⟨some 36, none, .fa 7 (.t 5)⟩ (T.pure 1 ⟨some 37, none, .ld false 1 (.t 36)⟩ (T.pure 2 ⟨some 38, none, .mov (.t 6)⟩ (T.pure 3 ⟨some 39, none, .mov (.t 7)⟩ (T.pure 4 ⟨some 40, none, .ia 1 (.t 38) (.t 39)⟩ (T.pure 5 ⟨some 41, none, .ld false 1 (.t 40)⟩ (T.pure 6 ⟨some 42, none, .ia 4 (.t 37) (.t 41)⟩ (T.pure 7 ⟨some 43, none, .ld true 4 (.t 42)⟩ (T.alt ⟨some 8, none, .alloc 98 [.int .i64 0, .int .i64 0, .int .i64 0, .int .i64 0]⟩ [7, 6, 5, 4, 3, 2, 1, 0] (T.alt ⟨none, none, .st 4 [none, none, none, none] (.t 8) (.t 43)⟩ [] T.done T.stop) T.stop)))))))))) (.seq (.reg [⟨some 44, none, .fa 1 (.t 8)⟩, ⟨some 45, none, .ld false 1 (.t 44)⟩, ⟨some 46, none, .bin .sub 3 (.t 45) (.c (.int .i64 1))⟩, ⟨some 47, none, .fa 1 (.t 8)⟩, ⟨none, none, .st 1 [none] (.t 47) (.t 46)⟩]) (.seq (.seq (.reg [⟨some 48, none, .fa 1 (.t 8)⟩, ⟨some 49, none, .ld false 1 (.t 48)⟩, ⟨some 50, none, .bin .eql 3 (.t 49) (.c (.int .i64 0))⟩]) (.cond (.t 50) (.reg [⟨some 51, none, .fa 0 (.t 8)⟩, ⟨none, none, .st 1 [none] (.t 51) (.c (.int .i64 2))⟩]) .skip)) (.dreg (T.pure 0 ⟨some 52, none, .fa 7 (.t 5)⟩ (T.pure 1 ⟨some 53, none, .ld false 1 (.t 52)⟩ (T.pure 2 ⟨some 54, none, .mov (.t 6)⟩ (T.pure 3 ⟨some 55, none, .mov (.t 7)⟩ (T.pure 4 ⟨some 56, none, .ia 1 (.t 54) (.t 55)⟩ (T.pure 5 ⟨some 57, none, .ld false 1 (.t 56)⟩ (T.pure 6 ⟨some 58, none, .ld true 4 (.t 8)⟩ (T.pure 7 ⟨some 59, none, .ia 4 (.t 53) (.t 57)⟩ (T.alt ⟨none, none, .st 4 [none, none, none, none] (.t 59) (.t 58)⟩ [] T.done T.stop)))))))))))))) (.reg [⟨some 34, none, .mov (.t 7)⟩, ⟨some 35, none, .bin .add 3 (.t 34) (.c (.int .i64 1))⟩, ⟨some 7, none, .mov (.t 35)⟩])))))) (.seq (.reg [⟨some 60, none, .ld true 8 (.t 5)⟩, ⟨some 61, none, .call 110 [.t 60]⟩, ⟨some 62, none, .fa 6 (.t 5)⟩, ⟨none, none, .st 1 [none] (.t 62) (.t 61)⟩]) (.seq (.reg [⟨some 63, none, .ld true 8 (.t 5)⟩, ⟨none, none, .st 8 [none, none, none, none, none, some (2, 182), none, some (4, 98)] (.t 4) (.t 63)⟩]) .ret))))))))
theorem code_spec_RunDone : fnC Tryz.prog Tryz.f47 = some (c_spec_RunDone, [.cell 4 true 8], 64) := by kernel_rfl
def c_impl_done : C := .seq (.reg [⟨some 7, none, .mov (.t 0)⟩, ⟨some 8, none, .fa 0 (.t 7)⟩, ⟨some 9, none, .fa 7 (.t 8)⟩, ⟨some 10, none, .ld false 1 (.t 9)⟩, ⟨some 11, none, .mov (.t 1)⟩, ⟨some 12, none, .ia 4 (.t 10) (.t 11)⟩, ⟨some 13, none, .fa 0 (.t 12)⟩, ⟨none, none, .st 1 [none] (.t 13) (.c (.int .i64 4))⟩]) (.seq (.reg [⟨some 14, none, .mov (.t 0)⟩, ⟨some 15, none, .fa 0 (.t 14)⟩, ⟨some 16, none, .fa 7 (.t 15)⟩, ⟨some 17, none, .ld false 1 (.t 16)⟩, ⟨some 18, none, .mov (.t 1)⟩, ⟨some 19, none, .ia 4 (.t 17) (.t 18)⟩, ⟨some 20, none, .fa 3 (.t 19)⟩, ⟨none, none, .st 1 [none] (.t 20) (.c (.int .i64 0))⟩]) (.seq (.seq (.reg [⟨some 21, none, .mov (.t 0)⟩, ⟨some 22, none, .fa 0 (.t 21)⟩, ⟨some 23, none, .fa 1 (.t 22)⟩, ⟨some 24, none, .ld true 5 (.t 23)⟩, ⟨some 25, none, .mov (.t 1)⟩, ⟨some 26, none, .call 120 [.t 24, .t 25]⟩, ⟨some 27, none, .len false (.t 26)⟩, ⟨some 28, none, .mov (.c (.int .i64 0))⟩]) (.blk 0 (.loop (.seq (.reg [⟨some 29, none, .bin .lss 3 (.t 28) (.t 27)⟩]) (.seq (.cond (.t 29) .skip (.exit 0)) (.seq (.blk 1 (.seq (.reg [⟨some 30, none, .ia 1 (.t 26) (.t 28)⟩, ⟨some 31, none, .ld false 1 (.t 30)⟩, ⟨some 5, none, .mov (.t 31)⟩]) (.seq (.reg [⟨some 32, none, .mov (.t 0)⟩, ⟨some 33, none, .fa 0 (.t 32)⟩, ⟨some 34, none, .fa 7 (.t 33)⟩, ⟨some 35, none, .ld false 1 (.t 34)⟩, ⟨some 36, none, .mov (.t 5)⟩, ⟨some 37, none, .ia 4 (.t 35) (.t 36)⟩, ⟨some 6, none, .mov (.t 37)⟩]) (.seq (.reg [⟨some 38, none, .mov (.t 6)⟩, ⟨some 39, none, .fa 0 (.t 38)⟩, ⟨some 40, none, .fa 1 (.t 39)⟩, ⟨some 41, none, .ld false 1 (.t 40)⟩, ⟨some 42, none, .bin .sub 3 (.t 41) (.c (.int .i64 1))⟩, ⟨some 43, none, .fa 0 (.t 38)⟩, ⟨some 44, none, .fa 1 (.t 43)⟩, ⟨none, none, .st 1 [none] (.t 44) (.t 42)⟩]) (.seq (.reg [⟨some 45, none, .mov (.t 6)⟩, ⟨some 46, none, .fa 0 (.t 45)⟩, ⟨some 47, none, .fa 1 (.t 46)⟩, ⟨some 48, none, .ld false 1 (.t 47)⟩, ⟨some 49, none, .bin .eql 3 (.t 48) (.c (.int .i64 0))⟩]) (.cond (.t 49) (.reg [⟨some 50, none, .mov (.t 6)⟩, ⟨some 51, none, .fa 0 (.t 50)⟩, ⟨some 52, none, .fa 0 (.t 51)⟩, ⟨none, none, .st 1 [none] (.t 52) (.c (.int .i64 2))⟩]) .skip)))))) (.reg [⟨some 53, none, .bin .add 3 (.t 28) (.c (.int .i64 1))⟩, ⟨some 28, none, .mov (.t 53)⟩]))))))) (.seq (.dreg (T.pure 0 ⟨some 54, none, .mov (.t 0)⟩ (T.pure 1 ⟨some 55, none, .fa 0 (.t 54)⟩ (T.pure 2 ⟨some 56, none, .ld true 8 (.t 55)⟩ (T.pure 5 ⟨some 59, none, .mov (.t 0)⟩ (T.pure 6 ⟨some 60, none, .fa 0 (.t 59)⟩ (T.pure 7 ⟨some 61, none, .fa 7 (.t 60)⟩ (T.pure 8 ⟨some 62, none, .ld false 1 (.t 61)⟩ (T.pure 9 ⟨some 63, none, .len false (.t 62)⟩ (T.alt ⟨some 57, none, .call 115 [.t 56, .c (.int .i64 4)]⟩ [9, 8, 7, 6, 5] (T.pure 4 ⟨some 58, none, .len false (.t 57)⟩ (T.pure 10 ⟨some 64, none, .bin .eql 3 (.t 58) (.t 63)⟩ T.done)) T.stop)))))))))) (.cond (.t 64) (.reg [⟨some 65, none, .mov (.t 0)⟩, ⟨some 66, none, .fa 0 (.t 65)⟩, ⟨some 67, none, .fa 6 (.t 66)⟩, ⟨none, none, .st 1 [none] (.t 67) (.c (.int .i64 2))⟩]) .skip))))
theorem code_impl_done : fnC Tryz.prog Tryz.f55 = some (c_impl_done, [], 68) := by kernel_rfl
set_option maxHeartbeats 4000000 in
theorem p_spec_l09Runs (r : Rn) (t : Int) : Pure Tryz.prog 108 [.agg (encRn r), .c (.val (.int .i64 t))] (.c (.val (.bool (runsB r t)))) := by
  refine pure_fn Tryz.func108 code_spec_l09Runs (by simp) ?_
  unfold c_spec_l09Runs
  simp -implicitDefEqProofs only [go_sem, encRn, encPl]
  intro b
  refine run_call (p_spec_RunOk r) (by simp -implicitDefEqProofs only [go_sem, encRn, encPl]) fun η => ?_
  simp -implicitDefEqProofs only [go_sem, encRn, encPl]
  cases h : runOkB r
  · have hb : runsB r t = false := by simp [runsB, h]
    simp -implicitDefEqProofs only [go_sem, encRn, encPl, h, hb]
  have hP := runOk_iff.1 h
  obtain ⟨n, hn, hn1, h12, -⟩ := pf_0 hP.plan
  have hlen := hP.len
  have hw : IntKind.i64.wrap ((r.tasks.length : Int) - 1) = (r.tasks.length : Int) - 1 := wrap64 (by omega) (by omega)
  simp -implicitDefEqProofs only [go_sem, encRn, encPl, h, hw]
  refine run_call (p_spec_l01In t 0 (r.tasks.length - 1)) (by simp -implicitDefEqProofs only [go_sem, encRn, encPl]) fun η => ?_
  simp -implicitDefEqProofs only [go_sem, encRn, encPl]
  cases h1 : decide (0 ≤ t ∧ t ≤ (r.tasks.length : Int) - 1)
  · have hb : runsB r t = false := by simp [runsB, inB, h1]
    simp -implicitDefEqProofs only [go_sem, encRn, encPl, h1, hb]
  have h1' : 0 ≤ t ∧ t ≤ (r.tasks.length : Int) - 1 := by simpa using h1
  have h0t : 0 ≤ t := h1'.1
  have htl : t.toNat < r.tasks.length := by omega
  obtain ⟨x, hx⟩ := get_some htl
  have hb : runsB r t = (x.state == 3) := by simp [runsB, inB, h1', stT_get hx, h]
  simp -implicitDefEqProofs only [go_sem, encRn, encPl, h1, h0t, htl, elem_encTks hx, encTk, hb]
theorem stepD_eq {ts : List Tk} {v : Int} {y : Tk} (hy : ts[v.toNat]? = some y) : stepD ts v = ts.set v.toNat ⟨if IntKind.i64.wrap (y.need - 1) = 0 then 2 else y.state, IntKind.i64.wrap (y.need - 1), y.tri, y.til⟩ := by simp [stepD, hy]
theorem foldD_take {l : List Int} {k : Nat} {v : Int} (hv : l[k]? = some v) (ts : List Tk) : (l.take (k + 1)).foldl stepD ts = stepD ((l.take k).foldl stepD ts) v := by
  rw [List.take_add_one, hv]; simp
set_option maxHeartbeats 8000000 in
theorem p_spec_RunDone (r : Rn) (t : Int) (hsz : r.plan.edges.length ≤ 4000000) (ht : r.tasks.length ≤ 4000000) : Pure Tryz.prog 47 [.agg (encRn r), .c (.val (.int .i64 t))] (.agg (encRn (runDone r t))) := by
  refine pure_fn Tryz.func47 code_spec_RunDone (by simp) ?_
  unfold c_spec_RunDone
  simp -implicitDefEqProofs only [go_sem, encRn, encPl]
  intro b b4
  refine run_call (p_spec_l09Copy r hsz ht) (by simp -implicitDefEqProofs only [go_sem, encRn, encPl]) fun ηc => ?_
  simp -implicitDefEqProofs only [go_sem, encRn, encPl]
  intro b5
  refine run_call (p_spec_l09Runs r t) (by simp -implicitDefEqProofs only [go_sem, encRn, encPl]) fun η => ?_
  simp -implicitDefEqProofs only [go_sem, encRn, encPl]
  cases h : runsB r t
  · simp -implicitDefEqProofs only [go_sem, encRn, encPl, h, runDone_no h]
  obtain ⟨k, x, rfl, hx, hs, hP⟩ := runs_yes h
  obtain ⟨n, hn, hn1, h12, h30, hes, hnd, -⟩ := pf_0 hP.plan
  have hlen := hP.len
  have hkl := (List.getElem?_eq_some_iff.1 hx).1
  have h0t : (k : Int) ≥ 0 := by omega
  have hx2 : (r.tasks.set k ⟨4, x.need, x.tri, x.til⟩)[k]? = some ⟨4, x.need, x.tri, x.til⟩ := List.getElem?_set_self hkl
  have hkl2 : k < (r.tasks.set k ⟨4, x.need, x.tri, x.til⟩).length := by rw [List.length_set]; exact hkl
  have hn1' : Int.toNat (k : Int) = k := Int.toNat_natCast k
  simp -implicitDefEqProofs only [go_sem, encRn, encPl, h, hkl, h0t, put_tk0 hx, put_tk0' hx, in_tk0 hx, in_tk0' hx, hkl2, in_tk3 hx2, put_tk3 hx2, List.set_set]
  refine run_call (p_spec_l06Behind r.plan k n hn h12 h30) (by simp -implicitDefEqProofs only [go_sem, encRn, encPl]) fun ηb => ?_
  simp -implicitDefEqProofs only [go_sem, encRn, encPl]
  have hbl := behL_len hn h12 h30 k
  generalize hts : r.tasks.set k ⟨4, x.need, x.tri, 0⟩ = ts0 at *
  have htl : ts0.length = r.tasks.length := by rw [← hts, List.length_set]
  have hdn : doneT r.plan r.tasks k x = (behL r.plan k).foldl stepD ts0 := by rw [← hts]; rfl
  have hst0 : ∀ z ∈ ts0, 1 ≤ z.state ∧ z.state ≤ 6 := by rw [← hts]; exact set_st (q := fun s => 1 ≤ s ∧ s ≤ 6) (by simp) hP.st
  refine wp_loopW (fun i : Nat => St.of [(4, Bx 400 b4), (5, Bx 500 b5), (6, Hd 6 (ηb 0)), (7, Ni i)] [(400, ZRn b4 tRn), (500, RnBox b5 tRn ⟨r.id, r.plan, r.state, ((behL r.plan k).take i).foldl stepD ts0⟩ (ηc 5) (ηc 7)), (6, .loose (encInts (behL r.plan k)) (ηb 0))]) (fun i => i ≤ (behL r.plan k).length) (fun i => (behL r.plan k).length - i) 0 (by (try dsimp only); first | omega | (simp; done) | (and_intros <;> first | omega | simp)) (wk_of [some 400, some 500, some 2900] (by simp -implicitDefEqProofs only [go_sem, encRn, encPl, List.take_zero, List.foldl_nil] <;> and_intros <;> first | rfl | assumption)) ?_
  rintro j hj
  by_cases hlt : j < (behL r.plan k).length
  · have hlt' : (j : Int) < (behL r.plan k).length := by omega
    obtain ⟨v, hv⟩ := get_some hlt
    have hvb := behL_in hn (List.mem_of_getElem? hv)
    have hfl := foldD_len ((behL r.plan k).take j) ts0
    have hft := foldD_take hv ts0
    generalize ((behL r.plan k).take j).foldl stepD ts0 = ts at *
    have hvl : v.toNat < ts.length := by omega
    have hv0 := hvb.1
    obtain ⟨y, hy⟩ := get_some hvl
    have hw : IntKind.i64.wrap ((j : Int) + 1) = ((j + 1 : Nat) : Int) := wrap64 (by omega) (by omega)
    rw [stepD_eq hy] at hft
    simp -implicitDefEqProofs only [go_sem, encRn, encPl, hlt, hlt', at_encInts hv, in_encInts hlt, hvl, hv0, at_tk hy, in_tk hy, encTk]
    intro b8
    generalize IntKind.i64.wrap (y.need - 1) = nd at *
    cases hz : nd == 0
    · have hz' : ¬ nd = 0 := by simpa using hz
      rw [if_neg hz'] at hft
      simp -implicitDefEqProofs only [go_sem, encRn, encPl, hlt, hlt', at_encInts hv, in_encInts hlt, hvl, hv0, at_tk hy, in_tk hy, encTk, hz, put_tk4 y.state nd y.tri y.til hvl, hw]
      exact ⟨j + 1, by (try dsimp only); first | omega | assumption | (and_intros <;> first | omega | assumption), (wk_of [some 400, some 500, some 6] (by simp -implicitDefEqProofs only [go_sem, encRn, encPl, hft] <;> and_intros <;> first | rfl | assumption)), by (try dsimp only); omega⟩
    · have hz' : nd = 0 := by simpa using hz
      rw [if_pos hz'] at hft
      simp -implicitDefEqProofs only [go_sem, encRn, encPl, hlt, hlt', at_encInts hv, in_encInts hlt, hvl, hv0, at_tk hy, in_tk hy, encTk, hz, put_tk4 2 nd y.tri y.til hvl, hw]
      exact ⟨j + 1, by (try dsimp only); first | omega | assumption | (and_intros <;> first | omega | assumption), (wk_of [some 400, some 500, some 6] (by simp -implicitDefEqProofs only [go_sem, encRn, encPl, hft] <;> and_intros <;> first | rfl | assumption)), by (try dsimp only); omega⟩
  have hlt' : ¬ (j : Int) < (behL r.plan k).length := by omega
  rw [List.take_of_length_le (by omega)]
  have hds := done_state hP hx hs
  have hR : runDone r k = doneR r k x := runDone_yes hx h
  have hlD : (doneT r.plan r.tasks k x).length = r.tasks.length := doneT_len _ _ _ _
  have hstD : ∀ z ∈ doneT r.plan r.tasks k x, 1 ≤ z.state ∧ z.state ≤ 6 := doneT_st (q := fun s => 1 ≤ s ∧ s ≤ 6) (by decide) (by decide) hP.st
  rw [hR, ← hdn]
  have hrr : doneR r k x = ⟨r.id, r.plan, stOf (doneT r.plan r.tasks k x), doneT r.plan r.tasks k x⟩ := by rw [hds]; rfl
  rw [hrr]
  generalize doneT r.plan r.tasks k x = tD at *
  simp -implicitDefEqProofs only [go_sem, encRn, encPl, hlt']
  refine run_call (p_spec_l09State ⟨r.id, r.plan, r.state, tD⟩ hstD (by simp only; omega)) (by simp -implicitDefEqProofs only [go_sem, encRn, encPl]) fun η => ?_
  simp -implicitDefEqProofs only [go_sem, encRn, encPl]
end Go.Proofs.YtnhdcbhcocgjhaaGreat
set_option linter.unusedSimpArgs false
set_option linter.unusedVariables false
set_option maxRecDepth 100000
namespace Go.Proofs.YtnhdcbhcocgjhaaGreat
open Go.RowKit Go.Sort
def c_spec_l09Leave : C := .seq (.reg [⟨some 2, none, .box 80 8 (.t 0)⟩, ⟨some 4, none, .alloc 80 [.int .i64 0, .int .i64 0, .int .i64 0, .int .i64 0, .int .i64 0, .slice none 0 0, .int .i64 0, .slice none 0 0]⟩]) (.seq (.seq (.reg [⟨some 5, none, .mov (.c (.int .i64 0))⟩]) (.blk 0 (.loop (.seq (.seq (.reg [⟨some 7, none, .mov (.t 5)⟩, ⟨some 8, none, .fa 7 (.t 2)⟩, ⟨some 9, none, .ld false 1 (.t 8)⟩, ⟨some 10, none, .len false (.t 9)⟩, ⟨some 11, none, .bin .lss 3 (.t 7) (.t 10)⟩]) (.cond (.t 11) .skip (.exit 0))) (.seq (.blk 1 (.seq (.reg [⟨some 14, none, .fa 7 (.t 2)⟩, ⟨some 15, none, .ld false 1 (.t 14)⟩, ⟨some 16, none, .mov (.t 5)⟩, ⟨some 17, none, .ia 4 (.t 15) (.t 16)⟩, ⟨some 18, none, .ld true 4 (.t 17)⟩, ⟨some 6, none, .alloc 98 [.int .i64 0, .int .i64 0, .int .i64 0, .int .i64 0]⟩, ⟨none, none, .st 4 [none, none, none, none] (.t 6) (.t 18)⟩]) (.seq (.seq (.reg [⟨some 19, none, .fa 0 (.t 6)⟩, ⟨some 20, none, .ld false 1 (.t 19)⟩, ⟨some 21, none, .bin .neq 3 (.t 20) (.c (.int .i64 4))⟩, ⟨some 22, none, .mov (.t 21)⟩, ⟨some 23, some (22, true), .fa 0 (.t 6)⟩, ⟨some 24, some (22, true), .ld false 1 (.t 23)⟩, ⟨some 25, some (22, true), .bin .neq 3 (.t 24) (.c (.int .i64 5))⟩, ⟨some 26, none, .pick (.t 22) (.t 25) (.c (.bool false))⟩]) (.cond (.t 26) (.seq (.reg [⟨some 27, none, .fa 0 (.t 6)⟩, ⟨none, none, .st 1 [none] (.t 27) (.c (.int .i64 6))⟩]) (.reg [⟨some 28, none, .fa 3 (.t 6)⟩, ⟨none, none, .st 1 [none] (.t 28) (.c (.int .i64 0))⟩])) .skip)) (.reg [⟨some 29, none, .fa 7 (.t 2)⟩, ⟨some 30, none, .ld false 1 (.t 29)⟩, ⟨some 31, none, .mov (.t 5)⟩, ⟨some 32, none, .ld true 4 (.t 6)⟩, ⟨some 33, none, .ia 4 (.t 30) (.t 31)⟩, ⟨none, none, .st 4 [none, none, none, none] (.t 33) (.t 32)⟩])))) (.reg [⟨some 12, none, .mov (.t 5)⟩, ⟨some 13, none, .bin .add 3 (.t 12) (.c (.int .i64 1))⟩, ⟨some 5, none, .mov (.t 13)⟩])))))) (.seq (.reg [⟨some 34, none, .mov (.t 1)⟩, ⟨some 35, none, .fa 6 (.t 2)⟩, ⟨none, none, .st 1 [none] (.t 35) (.t 34)⟩]) (.seq (.reg [⟨some 36, none, .ld true 8 (.t 2)⟩, ⟨none, none, .st 8 [none, none, none, none, none, some (2, 182), none, some (4, 98)] (.t 4) (.t 36)⟩]) .ret)))
theorem code_spec_l09Leave : fnC Tryz.prog Tryz.f129 = some (c_spec_l09Leave, [.cell 4 true 8], 37) := by kernel_rfl
-- impl.leave: NOT UNDERSTOOD
-- impl.done: NOT UNDERSTOOD
-- impl.fails: NOT UNDERSTOOD
def c_spec_RunFails : C := .seq (.reg [⟨some 2, none, .box 80 8 (.t 0)⟩, ⟨some 4, none, .alloc 80 [.int .i64 0, .int .i64 0, .int .i64 0, .int .i64 0, .int .i64 0, .slice none 0 0, .int .i64 0, .slice none 0 0]⟩]) (.seq (.reg [⟨some 6, none, .ld true 8 (.t 2)⟩, ⟨some 7, none, .call 105 [.t 6]⟩, ⟨some 5, none, .alloc 80 [.int .i64 0, .int .i64 0, .int .i64 0, .int .i64 0, .int .i64 0, .slice none 0 0, .int .i64 0, .slice none 0 0]⟩, ⟨none, none, .st 8 [none, none, none, none, none, some (2, 182), none, some (4, 98)] (.t 5) (.t 7)⟩]) (.seq (.seq (.reg [⟨some 8, none, .ld true 8 (.t 2)⟩, ⟨some 9, none, .mov (.t 1)⟩, ⟨some 10, none, .call 108 [.t 8, .t 9]⟩, ⟨some 11, none, .un .not (.t 10)⟩]) (.cond (.t 11) (.seq (.reg [⟨some 12, none, .ld true 8 (.t 5)⟩, ⟨none, none, .st 8 [none, none, none, none, none, some (2, 182), none, some (4, 98)] (.t 4) (.t 12)⟩]) .ret) .skip)) (.seq (.reg [⟨some 13, none, .fa 7 (.t 5)⟩, ⟨some 14, none, .ld false 1 (.t 13)⟩, ⟨some 15, none, .mov (.t 1)⟩, ⟨some 16, none, .ia 4 (.t 14) (.t 15)⟩, ⟨some 17, none, .fa 3 (.t 16)⟩, ⟨none, none, .st 1 [none] (.t 17) (.c (.int .i64 0))⟩]) (.seq (.reg [⟨some 18, none, .fa 7 (.t 5)⟩, ⟨some 19, none, .ld false 1 (.t 18)⟩, ⟨some 20, none, .mov (.t 1)⟩, ⟨some 21, none, .ia 4 (.t 19) (.t 20)⟩, ⟨some 22, none, .fa 0 (.t 21)⟩, ⟨none, none, .st 1 [none] (.t 22) (.c (.int .i64 2))⟩]) (.seq (.seq (.dreg (T.pure 0 ⟨some 23, none, .fa 7 (.t 5)⟩ (T.pure 1 ⟨some 24, none, .ld false 1 (.t 23)⟩ (T.pure 2 ⟨some 25, none, .mov (.t 1)⟩ (T.pure 3 ⟨some 26, none, .ia 4 (.t 24) (.t 25)⟩ (T.pure 4 ⟨some 27, none, .fa 2 (.t 26)⟩ (T.pure 5 ⟨some 28, none, .ld false 1 (.t 27)⟩ (T.pure 6 ⟨some 29, none, .fa 1 (.t 2)⟩ (T.pure 7 ⟨some 30, none, .fa 1 (.t 29)⟩ (T.pure 8 ⟨some 31, none, .ld false 1 (.t 30)⟩ (T.pure 9 ⟨some 32, none, .bin .lss 3 (.t 28) (.t 31)⟩ T.done))))))))))) (.cond (.t 32) (.seq (.reg [⟨some 33, none, .ld true 8 (.t 5)⟩, ⟨none, none, .st 8 [none, none, none, none, none, some (2, 182), none, some (4, 98)] (.t 4) (.t 33)⟩]) .ret) .skip)) (.seq (.reg [⟨some 34, none, .fa 7 (.t 5)⟩, ⟨some 35, none, .ld false 1 (.t 34)⟩, ⟨some 36, none, .mov (.t 1)⟩, ⟨some 37, none, .ia 4 (.t 35) (.t 36)⟩, ⟨some 38, none, .fa 0 (.t 37)⟩, ⟨none, none, .st 1 [none] (.t 38) (.c (.int .i64 5))⟩]) (.seq (.reg [⟨some 39, none, .ld true 8 (.t 5)⟩, ⟨some 40, none, .call 129 [.t 39, .c (.int .i64 3)]⟩, ⟨none, none, .st 8 [none, none, none, none, none, some (2, 182), none, some (4, 98)] (.t 4) (.t 40)⟩]) .ret)))))))
theorem code_spec_RunFails : fnC Tryz.prog Tryz.f62 = some (c_spec_RunFails, [.cell 4 true 8], 41) := by kernel_rfl
def c_impl_leave : C := .seq (.reg [⟨some 6, none, .mov (.t 0)⟩, ⟨some 7, none, .fa 0 (.t 6)⟩, ⟨some 8, none, .fa 7 (.t 7)⟩, ⟨some 9, none, .ld false 1 (.t 8)⟩, ⟨some 10, none, .len false (.t 9)⟩, ⟨some 11, none, .mov (.c (.int .i64 0))⟩]) (.blk 0 (.loop (.seq (.reg [⟨some 12, none, .bin .lss 3 (.t 11) (.t 10)⟩]) (.seq (.cond (.t 12) .skip (.exit 0)) (.seq (.blk 1 (.seq (.reg [⟨some 13, none, .mov (.t 11)⟩, ⟨some 4, none, .mov (.t 13)⟩]) (.seq (.reg [⟨some 14, none, .mov (.t 0)⟩, ⟨some 15, none, .fa 0 (.t 14)⟩, ⟨some 16, none, .fa 7 (.t 15)⟩, ⟨some 17, none, .ld false 1 (.t 16)⟩, ⟨some 18, none, .mov (.t 4)⟩, ⟨some 19, none, .ia 4 (.t 17) (.t 18)⟩, ⟨some 5, none, .mov (.t 19)⟩]) (.seq (.reg [⟨some 20, none, .mov (.t 4)⟩, ⟨some 21, none, .mov (.t 1)⟩, ⟨some 22, none, .bin .neq 3 (.t 20) (.t 21)⟩, ⟨some 23, none, .mov (.t 22)⟩, ⟨some 24, some (23, true), .mov (.t 5)⟩, ⟨some 25, some (23, true), .fa 0 (.t 24)⟩, ⟨some 26, some (23, true), .fa 0 (.t 25)⟩, ⟨some 27, some (23, true), .ld false 1 (.t 26)⟩, ⟨some 28, some (23, true), .bin .neq 3 (.t 27) (.c (.int .i64 4))⟩, ⟨some 29, none, .pick (.t 23) (.t 28) (.c (.bool false))⟩]) (.cond (.t 29) (.seq (.reg [⟨some 30, none, .mov (.t 5)⟩, ⟨some 31, none, .fa 0 (.t 30)⟩, ⟨some 32, none, .fa 0 (.t 31)⟩, ⟨none, none, .st 1 [none] (.t 32) (.c (.int .i64 6))⟩]) (.reg [⟨some 33, none, .mov (.t 5)⟩, ⟨some 34, none, .fa 0 (.t 33)⟩, ⟨some 35, none, .fa 3 (.t 34)⟩, ⟨none, none, .st 1 [none] (.t 35) (.c (.int .i64 0))⟩])) .skip))))) (.reg [⟨some 36, none, .bin .add 3 (.t 11) (.c (.int .i64 1))⟩, ⟨some 11, none, .mov (.t 36)⟩]))))))
theorem code_impl_leave : fnC Tryz.prog Tryz.f130 = some (c_impl_leave, [], 37) := by kernel_rfl
def c_impl_fails : C := .seq (.reg [⟨some 5, none, .mov (.t 0)⟩, ⟨some 6, none, .fa 0 (.t 5)⟩, ⟨some 7, none, .fa 7 (.t 6)⟩, ⟨some 8, none, .ld false 1 (.t 7)⟩, ⟨some 9, none, .mov (.t 1)⟩, ⟨some 10, none, .ia 4 (.t 8) (.t 9)⟩, ⟨some 4, none, .mov (.t 10)⟩]) (.seq (.reg [⟨some 11, none, .mov (.t 4)⟩, ⟨some 12, none, .fa 0 (.t 11)⟩, ⟨some 13, none, .fa 3 (.t 12)⟩, ⟨none, none, .st 1 [none] (.t 13) (.c (.int .i64 0))⟩]) (.seq (.seq (.dreg (T.pure 0 ⟨some 14, none, .mov (.t 4)⟩ (T.pure 1 ⟨some 15, none, .fa 0 (.t 14)⟩ (T.pure 2 ⟨some 16, none, .fa 2 (.t 15)⟩ (T.pure 3 ⟨some 17, none, .ld false 1 (.t 16)⟩ (T.pure 4 ⟨some 18, none, .mov (.t 0)⟩ (T.pure 5 ⟨some 19, none, .fa 0 (.t 18)⟩ (T.pure 6 ⟨some 20, none, .fa 1 (.t 19)⟩ (T.pure 7 ⟨some 21, none, .fa 1 (.t 20)⟩ (T.pure 8 ⟨some 22, none, .ld false 1 (.t 21)⟩ (T.pure 9 ⟨some 23, none, .bin .lss 3 (.t 17) (.t 22)⟩ T.done))))))))))) (.cond (.t 23) (.seq (.reg [⟨some 24, none, .mov (.t 4)⟩, ⟨some 25, none, .fa 0 (.t 24)⟩, ⟨some 26, none, .fa 0 (.t 25)⟩, ⟨none, none, .st 1 [none] (.t 26) (.c (.int .i64 2))⟩]) .ret) .skip)) (.seq (.reg [⟨some 27, none, .mov (.t 4)⟩, ⟨some 28, none, .fa 0 (.t 27)⟩, ⟨some 29, none, .fa 0 (.t 28)⟩, ⟨none, none, .st 1 [none] (.t 29) (.c (.int .i64 5))⟩]) (.seq (.reg [⟨some 30, none, .mov (.t 0)⟩, ⟨some 31, none, .mov (.t 1)⟩, ⟨some 32, none, .call 130 [.t 30, .t 31]⟩]) (.reg [⟨some 33, none, .mov (.t 0)⟩, ⟨some 34, none, .fa 0 (.t 33)⟩, ⟨some 35, none, .fa 6 (.t 34)⟩, ⟨none, none, .st 1 [none] (.t 35) (.c (.int .i64 3))⟩])))))
theorem code_impl_fails : fnC Tryz.prog Tryz.f64 = some (c_impl_fails, [], 36) := by kernel_rfl
set_option maxHeartbeats 8000000 in
theorem p_spec_RunFails (r : Rn) (t : Int) (hsz : r.plan.edges.length ≤ 4000000) (ht : r.tasks.length ≤ 4000000) : Pure Tryz.prog 62 [.agg (encRn r), .c (.val (.int .i64 t))] (.agg (encRn (runFails r t))) := by
  refine pure_fn Tryz.func62 code_spec_RunFails (by simp) ?_
  unfold c_spec_RunFails
  simp -implicitDefEqProofs only [go_sem, encRn, encPl]
  intro b b4
  refine run_call (p_spec_l09Copy r hsz ht) (by simp -implicitDefEqProofs only [go_sem, encRn, encPl]) fun ηc => ?_
  simp -implicitDefEqProofs only [go_sem, encRn, encPl]
  intro b5
  refine run_call (p_spec_l09Runs r t) (by simp -implicitDefEqProofs only [go_sem, encRn, encPl]) fun η => ?_
  simp -implicitDefEqProofs only [go_sem, encRn, encPl]
  cases h : runsB r t
  · simp -implicitDefEqProofs only [go_sem, encRn, encPl, h, runFails_no h]
  obtain ⟨k, x, rfl, hx, hs, hP⟩ := runs_yes h
  obtain ⟨n, hn, hn1, h12, h30, hes, hnd, -⟩ := pf_0 hP.plan
  have hlen := hP.len
  have hkl := (List.getElem?_eq_some_iff.1 hx).1
  have h0t : (k : Int) ≥ 0 := by omega
  have hx2 : (r.tasks.set k ⟨x.state, x.need, x.tri, 0⟩)[k]? = some ⟨x.state, x.need, x.tri, 0⟩ := List.getElem?_set_self hkl
  have hx3 : (r.tasks.set k ⟨2, x.need, x.tri, 0⟩)[k]? = some ⟨2, x.need, x.tri, 0⟩ := List.getElem?_set_self hkl
  have hkl2 : k < (r.tasks.set k ⟨x.state, x.need, x.tri, 0⟩).length := by rw [List.length_set]; exact hkl
  have hkl3 : k < (r.tasks.set k ⟨2, x.need, x.tri, 0⟩).length := by rw [List.length_set]; exact hkl
  simp -implicitDefEqProofs only [go_sem, encRn, encPl, Nat.add_zero, h, hkl, h0t, put_tk3 hx, in_tk3 hx, hkl2, in_tk0 hx2, in_tk0' hx2, put_tk0 hx2, put_tk0' hx2, List.set_set, hkl3, at_tk2 hx3, in_tk2 hx3, in_tk0 hx3, in_tk0' hx3]
  by_cases hm : x.tri < r.plan.most
  · have hR : runFails r k = ⟨r.id, r.plan, r.state, r.tasks.set k ⟨2, x.need, x.tri, 0⟩⟩ := by rw [runFails_yes hx h, failsR, if_pos hm]
    simp -implicitDefEqProofs only [go_sem, encRn, encPl, Nat.add_zero, hm, hR]
  have hR : runFails r k = ⟨r.id, r.plan, 3, mapK leaveG (r.tasks.set k ⟨5, x.need, x.tri, 0⟩) r.tasks.length⟩ := by rw [runFails_yes hx h, failsR, if_neg hm]
  rw [hR]
  simp -implicitDefEqProofs only [go_sem, encRn, encPl, Nat.add_zero, hm, hkl3, h0t, put_tk0 hx3, put_tk0' hx3, in_tk0 hx3, in_tk0' hx3, List.set_set]
  have htl : (r.tasks.set k ⟨5, x.need, x.tri, 0⟩).length = r.tasks.length := by rw [List.length_set]
  generalize r.tasks.set k ⟨5, x.need, x.tri, 0⟩ = ts0 at *
  refine run_inl (inl_fn (β := 7000000) Tryz.func129 code_spec_l09Leave (by simp) ?_)
  unfold c_spec_l09Leave
  simp -implicitDefEqProofs only [go_sem, encRn, encPl]
  intro b72 b74
  refine wp_loopW (fun i : Nat => St.of [(1, Ni 3), (2, Bx 2 b72), (4, Bx 4 b74), (5, Ni i)] [(400, ZRn b4 tRn), (2, RnBox b72 tRn ⟨r.id, r.plan, r.state, mapK leaveG ts0 i⟩ (ηc 5) (ηc 7)), (4, ZRn b74 tRn)]) (fun i => i ≤ ts0.length) (fun i => ts0.length - i) 0 (by (try dsimp only); first | omega | (simp; done) | (and_intros <;> first | omega | simp)) (wk_of [some 400, some 700000200, some 700000400] (by simp -implicitDefEqProofs only [go_sem, encRn, encPl, mapK_0] <;> and_intros <;> first | rfl | assumption)) ?_
  rintro j hj
  have hml := mapK_len (f := leaveG) (ts := ts0) (k := j)
  by_cases hlt : j < ts0.length
  · have hlt' : (j : Int) < ts0.length := by omega
    have h0j : (j : Int) ≥ 0 := by omega
    obtain ⟨y, hy⟩ := get_some hlt
    have hyk := mapK_get (f := leaveG) hy
    have hset := mapK_set (f := leaveG) hy
    generalize mapK leaveG ts0 j = M at *
    have hlm : j < M.length := by omega
    have hw : IntKind.i64.wrap ((j : Int) + 1) = ((j + 1 : Nat) : Int) := wrap64 (by omega) (by omega)
    simp -implicitDefEqProofs only [go_sem, encRn, encPl, hml, hlt', h0j, hlt, at_tk hyk, in_tk hyk, encTk]
    intro b6
    cases hc4 : y.state != 4
    · have hst4 : y.state = 4 := by simpa using hc4
      have hg0 : leaveG j y = y := by simp [leaveG, hst4]
      have hg : leaveG j y = ⟨y.state, y.need, y.tri, y.til⟩ := hg0
      rw [hg] at hset
      simp -implicitDefEqProofs only [go_sem, encRn, encPl, Nat.add_zero, hml, hlt', h0j, hlt, hc4, put_tk4 y.state y.need y.tri y.til hlm, hset, in_tk hyk, hw]
      exact ⟨j + 1, by (try dsimp only); first | omega | assumption | (and_intros <;> first | omega | assumption), (wk_of [some 400, some 2, some 4] (by simp -implicitDefEqProofs only [go_sem, encRn, encPl] <;> and_intros <;> first | rfl | assumption)), by (try dsimp only); omega⟩
    cases hc5 : y.state != 5
    · have hst5 : y.state = 5 := by simpa using hc5
      have hg0 : leaveG j y = y := by simp [leaveG, hst5]
      have hg : leaveG j y = ⟨y.state, y.need, y.tri, y.til⟩ := hg0
      rw [hg] at hset
      simp -implicitDefEqProofs only [go_sem, encRn, encPl, Nat.add_zero, hml, hlt', h0j, hlt, hc4, hc5, put_tk4 y.state y.need y.tri y.til hlm, hset, in_tk hyk, hw]
      exact ⟨j + 1, by (try dsimp only); first | omega | assumption | (and_intros <;> first | omega | assumption), (wk_of [some 400, some 2, some 4] (by simp -implicitDefEqProofs only [go_sem, encRn, encPl] <;> and_intros <;> first | rfl | assumption)), by (try dsimp only); omega⟩
    · have hg : leaveG j y = ⟨6, y.need, y.tri, 0⟩ := by
        have h1 : ¬ y.state = 4 := by simpa using hc4
        have h2 : ¬ y.state = 5 := by simpa using hc5
        simp [leaveG, h1, h2]
      rw [hg] at hset
      simp -implicitDefEqProofs only [go_sem, encRn, encPl, Nat.add_zero, hml, hlt', h0j, hlt, hc4, hc5, put_tk4 6 y.need y.tri 0 hlm, hset, in_tk hyk, hw]
      exact ⟨j + 1, by (try dsimp only); first | omega | assumption | (and_intros <;> first | omega | assumption), (wk_of [some 400, some 2, some 4] (by simp -implicitDefEqProofs only [go_sem, encRn, encPl] <;> and_intros <;> first | rfl | assumption)), by (try dsimp only); omega⟩
  have hlt' : ¬ (j : Int) < ts0.length := by omega
  obtain rfl : j = ts0.length := by omega
  rw [← htl]
  generalize mapK leaveG ts0 ts0.length = M at *
  simp -implicitDefEqProofs only [go_sem, encRn, encPl, Nat.add_zero, hml, hlt']
end Go.Proofs.YtnhdcbhcocgjhaaGreat
