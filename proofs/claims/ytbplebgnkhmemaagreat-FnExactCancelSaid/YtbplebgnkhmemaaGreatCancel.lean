/- Giving up a run; both. -/
import Derived.Test.YtbplebgnkhmemaaGreatHole
import Derived.Test.YtbplebgnkhmemaaGreatCopyY
import Derived.Test.YtbplebgnkhmemaaGreatYardB
import Derived.Test.YtbplebgnkhmemaaGreatTextP
set_option linter.unusedSimpArgs false
set_option linter.unusedVariables false
set_option maxRecDepth 100000
namespace Go.Proofs.YtbplebgnkhmemaaGreat
open Go.RowKit Go.Sort
/-! ### Two results: a struct in a cell, and one value -/
section
variable {P : Program} {s : St}
def ret2A (s : St) (ds : List D) (d : D) (l : List A0) : AV → Prop
  | .c a => l.length = ds.length ∧ TakeK s (l ++ [a]) fun cs _ => IsD cs (ds ++ [d])
  | _ => False
def ret2K (s : St) (k : Nat) (ds : List D) (d : D) (b : AV) : AV → Prop
  | .c (.bp g c bb) => ldB (s.o g) g c bb k fun l => ret2A s ds d l b
  | _ => False
theorem ret2_ (n k m : Nat) (ds : List D) (d : D) (h : ret2K s k ds d (s.t m) (s.t n)) : RetQ [.cell n true k, .t m] (.tup [(true, ds), (false, [d])]) s := by
  unfold ret2K at h
  split at h
  · rename_i g c bb he
    simp only [ldB] at h
    split at h
    · rename_i b ty cs ho
      obtain ⟨e1, e2, h⟩ := h
      unfold ret2A at h
      split at h
      · rename_i a ha
        obtain ⟨h1, h2⟩ := h
        simp only [RetQ, resK, ha, he]
        refine ⟨_, ⟨ty, cs, by rw [ho, e1], e2, rfl⟩, .inl trivial, ?_⟩
        refine ⟨⟨by simp, by simp [h1]⟩, ?_⟩
        simpa [RT.flat] using h2
      · exact h.elim
    · exact h.elim
  · exact h.elim
theorem ret2A_ (ds : List D) (d : D) (l : List A0) (a : A0) : ret2A s ds d l (.c a) = (l.length = ds.length ∧ TakeK s (l ++ [a]) fun cs _ => IsD cs (ds ++ [d])) := rfl
theorem ret2K_ (k g c bb : Nat) (ds : List D) (d : D) (b : AV) : ret2K s k ds d b (.c (.bp g c bb)) = ldB (s.o g) g c bb k fun l => ret2A s ds d l b := rfl
end
attribute [go_sem] ret2A_ ret2K_
theorem rns_get {l : List Rn} {k j : Nat} {r : Rn} (h : l[k]? = some r) (hj : j < 8) : (l.flatMap encRn)[k * 8 + j]? = (encRn r)[j]? := by
  rw [split_flat (enc := encRn) h, List.getElem?_append_right (by rw [take_len (enc := encRn) (size := 8) (fun _ => rfl) h]; omega), take_len (enc := encRn) (size := 8) (fun _ => rfl) h, Nat.add_sub_cancel_left, List.getElem?_append_left (by exact hj)]
theorem get_rns5 {l : List Rn} {k : Nat} {r : Rn} (h : l[k]? = some r) : D.get [k * 8 + 5] (encRns l) = some (encEds r.plan.edges) := by
  have := rns_get (j := 5) h (by decide)
  simp [encRns, D.get, this, encRn, encPl, get_nil]
theorem get_rns7 {l : List Rn} {k : Nat} {r : Rn} (h : l[k]? = some r) : D.get [k * 8 + 7] (encRns l) = some (encTks r.tasks) := by
  have := rns_get (j := 7) h (by decide)
  simp [encRns, D.get, this, encRn, encPl, get_nil]
theorem get_rns5' {l : List Rn} {k : Nat} {r : Rn} (h : l[k]? = some r) : D.get [k * 8 + 1 + 1 + 1 + 1 + 1] (encRns l) = some (encEds r.plan.edges) := get_rns5 h
theorem get_rns7' {l : List Rn} {k : Nat} {r : Rn} (h : l[k]? = some r) : D.get [k * 8 + 1 + 1 + 1 + 1 + 1 + 1 + 1] (encRns l) = some (encTks r.tasks) := get_rns7 h
theorem put_rn8 {l : List Rn} {k : Nat} (v : Rn) (hk : k < l.length) : D.put [] (k * 8) [.val (.int .i64 v.id), .val (.int .i64 v.plan.prio), .val (.int .i64 v.plan.most), .val (.int .i64 v.plan.wait), .val (.int .i64 v.plan.tasks), encEds v.plan.edges, .val (.int .i64 v.state), encTks v.tasks] (encRns l) = encRns (l.set k v) := put_encRns v hk
theorem runAt_get {y : Yd} {id : Int} (h : ¬ runAt y id < 0) : ∃ (k : Nat) (r : Rn), runAt y id = k ∧ y.runs[k]? = some r ∧ r.id = id ∧ y.runs.length ≤ 8 := by
  unfold runAt at h ⊢
  split at h
  · omega
  · rename_i h8
    rw [if_neg h8]
    rcases runIx_cases y.runs id with ⟨k, x, h1, h2, _, h4⟩ | ⟨_, h2⟩
    · exact ⟨k, x, h4, h1, h2, by omega⟩
    · rw [h2] at h; omega
theorem at_rn {l : List Rn} {k : Nat} {x : Rn} (hx : l[k]? = some x) : ((l.flatMap encRn).drop (k * 8)).take 8 = encRn x := at1_flat (enc := encRn) (size := 8) (fun _ => rfl) hx (j := 0) (n := 8) (by decide)
theorem in_rn {l : List Rn} {k : Nat} {x : Rn} (hx : l[k]? = some x) : k * 8 + 8 ≤ (l.flatMap encRn).length := in1_flat (enc := encRn) (size := 8) (fun _ => rfl) hx (j := 0) (n := 8) (by decide)
def c_spec_RunLeft : C := .seq (.reg [⟨some 1, none, .box 70 8 (.t 0)⟩, ⟨some 2, none, .alloc 70 [.int .i64 0, .int .i64 0, .int .i64 0, .int .i64 0, .int .i64 0, .slice none 0 0, .int .i64 0, .slice none 0 0]⟩]) (.seq (.reg [⟨some 4, none, .ld true 8 (.t 1)⟩, ⟨some 5, none, .call 98 [.t 4]⟩, ⟨some 3, none, .alloc 70 [.int .i64 0, .int .i64 0, .int .i64 0, .int .i64 0, .int .i64 0, .slice none 0 0, .int .i64 0, .slice none 0 0]⟩, ⟨none, none, .st 8 [none, none, none, none, none, some (2, 131), none, some (4, 75)] (.t 3) (.t 5)⟩]) (.seq (.seq (.reg [⟨some 6, none, .ld true 8 (.t 1)⟩, ⟨some 7, none, .call 100 [.t 6]⟩, ⟨some 8, none, .un .not (.t 7)⟩, ⟨some 9, none, .mov (.t 8)⟩, ⟨some 10, some (9, false), .fa 6 (.t 1)⟩, ⟨some 11, some (9, false), .ld false 1 (.t 10)⟩, ⟨some 12, some (9, false), .bin .neq 3 (.t 11) (.c (.int .i64 1))⟩, ⟨some 13, none, .pick (.t 9) (.c (.bool true)) (.t 12)⟩]) (.cond (.t 13) (.seq (.reg [⟨some 14, none, .ld true 8 (.t 3)⟩, ⟨none, none, .st 8 [none, none, none, none, none, some (2, 131), none, some (4, 75)] (.t 2) (.t 14)⟩]) .ret) .skip)) (.seq (.reg [⟨some 15, none, .ld true 8 (.t 3)⟩, ⟨some 16, none, .call 104 [.t 15, .c (.int .i64 4)]⟩, ⟨none, none, .st 8 [none, none, none, none, none, some (2, 131), none, some (4, 75)] (.t 2) (.t 16)⟩]) .ret)))
theorem code_spec_RunLeft : fnC Tryz.prog Tryz.f50 = some (c_spec_RunLeft, [.cell 2 true 8], 17) := by kernel_rfl
def c_impl_RunLeft : C := .seq (.reg [⟨some 1, none, .box 70 8 (.t 0)⟩, ⟨some 2, none, .alloc 70 [.int .i64 0, .int .i64 0, .int .i64 0, .int .i64 0, .int .i64 0, .slice none 0 0, .int .i64 0, .slice none 0 0]⟩]) (.seq (.reg [⟨some 4, none, .ld true 8 (.t 1)⟩, ⟨some 5, none, .call 106 [.t 4]⟩, ⟨some 3, none, .alloc 70 [.int .i64 0, .int .i64 0, .int .i64 0, .int .i64 0, .int .i64 0, .slice none 0 0, .int .i64 0, .slice none 0 0]⟩, ⟨none, none, .st 8 [none, none, none, none, none, some (2, 131), none, some (4, 75)] (.t 3) (.t 5)⟩]) (.seq (.seq (.reg [⟨some 6, none, .ld true 8 (.t 1)⟩, ⟨some 7, none, .call 112 [.t 6]⟩, ⟨some 8, none, .mov (.t 7)⟩, ⟨some 9, some (8, true), .fa 6 (.t 1)⟩, ⟨some 10, some (8, true), .ld false 1 (.t 9)⟩, ⟨some 11, some (8, true), .bin .eql 3 (.t 10) (.c (.int .i64 1))⟩, ⟨some 12, none, .pick (.t 8) (.t 11) (.c (.bool false))⟩]) (.cond (.t 12) (.seq (.reg [⟨some 13, none, .call 115 [.t 3, .c (.int .i64 (-1))]⟩]) (.reg [⟨some 14, none, .fa 6 (.t 3)⟩, ⟨none, none, .st 1 [none] (.t 14) (.c (.int .i64 4))⟩])) .skip)) (.seq (.reg [⟨some 15, none, .ld true 8 (.t 3)⟩, ⟨none, none, .st 8 [none, none, none, none, none, some (2, 131), none, some (4, 75)] (.t 2) (.t 15)⟩]) .ret)))
theorem code_impl_RunLeft : fnC Tryz.prog Tryz.f54 = some (c_impl_RunLeft, [.cell 2 true 8], 16) := by kernel_rfl
def c_spec_Cancel : C := .seq (.reg [⟨some 2, none, .box 31 4 (.t 0)⟩, ⟨some 4, none, .alloc 31 [.int .i64 0, .int .i64 0, .slice none 0 0, .slice none 0 0]⟩, ⟨some 5, none, .mov (.c (.int .i64 0))⟩]) (.seq (.reg [⟨some 8, none, .ld true 4 (.t 2)⟩, ⟨some 9, none, .call 47 [.t 8]⟩, ⟨some 6, none, .alloc 31 [.int .i64 0, .int .i64 0, .slice none 0 0, .slice none 0 0]⟩, ⟨none, none, .st 4 [none, none, some (1, 105), some (8, 70)] (.t 6) (.t 9)⟩]) (.seq (.reg [⟨some 10, none, .ld true 4 (.t 2)⟩, ⟨some 11, none, .mov (.t 1)⟩, ⟨some 12, none, .call 48 [.t 10, .t 11]⟩, ⟨some 7, none, .mov (.t 12)⟩]) (.seq (.blk 0 (.seq (.reg [⟨some 14, none, .ld true 4 (.t 2)⟩, ⟨some 15, none, .call 49 [.t 14]⟩, ⟨some 16, none, .un .not (.t 15)⟩, ⟨some 13, none, .mov (.t 16)⟩]) (.cond (.t 13) (.seq (.reg [⟨some 17, none, .ld true 4 (.t 6)⟩, ⟨none, none, .st 4 [none, none, some (1, 105), some (8, 70)] (.t 4) (.t 17)⟩, ⟨some 5, none, .mov (.c (.int .i64 8))⟩]) .ret) (.seq (.reg [⟨some 19, none, .mov (.t 7)⟩, ⟨some 20, none, .bin .lss 3 (.t 19) (.c (.int .i64 0))⟩, ⟨some 18, none, .mov (.t 20)⟩]) (.cond (.t 18) (.seq (.reg [⟨some 21, none, .ld true 4 (.t 6)⟩, ⟨none, none, .st 4 [none, none, some (1, 105), some (8, 70)] (.t 4) (.t 21)⟩, ⟨some 5, none, .mov (.c (.int .i64 10))⟩]) .ret) (.seq (.reg [⟨some 23, none, .fa 3 (.t 2)⟩, ⟨some 24, none, .ld false 1 (.t 23)⟩, ⟨some 25, none, .mov (.t 7)⟩, ⟨some 26, none, .ia 8 (.t 24) (.t 25)⟩, ⟨some 27, none, .fa 6 (.t 26)⟩, ⟨some 28, none, .ld false 1 (.t 27)⟩, ⟨some 29, none, .bin .neq 3 (.t 28) (.c (.int .i64 1))⟩, ⟨some 22, none, .mov (.t 29)⟩]) (.cond (.t 22) (.seq (.reg [⟨some 30, none, .ld true 4 (.t 6)⟩, ⟨none, none, .st 4 [none, none, some (1, 105), some (8, 70)] (.t 4) (.t 30)⟩, ⟨some 5, none, .mov (.c (.int .i64 12))⟩]) .ret) .skip))))))) (.seq (.dreg (T.pure 0 ⟨some 31, none, .fa 3 (.t 6)⟩ (T.pure 1 ⟨some 32, none, .ld false 1 (.t 31)⟩ (T.pure 2 ⟨some 33, none, .mov (.t 7)⟩ (T.pure 3 ⟨some 34, none, .fa 3 (.t 6)⟩ (T.pure 4 ⟨some 35, none, .ld false 1 (.t 34)⟩ (T.pure 5 ⟨some 36, none, .mov (.t 7)⟩ (T.pure 6 ⟨some 37, none, .ia 8 (.t 35) (.t 36)⟩ (T.pure 7 ⟨some 38, none, .ld true 8 (.t 37)⟩ (T.alt ⟨some 39, none, .call 50 [.t 38]⟩ [2, 1, 0] (T.pure 9 ⟨some 40, none, .ia 8 (.t 32) (.t 33)⟩ (T.alt ⟨none, none, .st 8 [none, none, none, none, none, some (2, 131), none, some (4, 75)] (.t 40) (.t 39)⟩ [] T.done T.stop)) T.stop)))))))))) (.seq (.reg [⟨some 41, none, .ld true 4 (.t 6)⟩, ⟨none, none, .st 4 [none, none, some (1, 105), some (8, 70)] (.t 4) (.t 41)⟩, ⟨some 5, none, .mov (.c (.int .i64 0))⟩]) .ret)))))
theorem code_spec_Cancel : fnC Tryz.prog Tryz.f15 = some (c_spec_Cancel, [.cell 4 true 4, .t 5], 42) := by kernel_rfl
def c_impl_Cancel : C := .seq (.reg [⟨some 2, none, .box 31 4 (.t 0)⟩, ⟨some 4, none, .alloc 31 [.int .i64 0, .int .i64 0, .slice none 0 0, .slice none 0 0]⟩, ⟨some 5, none, .mov (.c (.int .i64 0))⟩]) (.seq (.reg [⟨some 8, none, .ld true 4 (.t 2)⟩, ⟨some 9, none, .call 51 [.t 8]⟩, ⟨some 6, none, .alloc 31 [.int .i64 0, .int .i64 0, .slice none 0 0, .slice none 0 0]⟩, ⟨none, none, .st 4 [none, none, some (1, 105), some (8, 70)] (.t 6) (.t 9)⟩]) (.seq (.reg [⟨some 10, none, .ld true 4 (.t 2)⟩, ⟨some 11, none, .mov (.t 1)⟩, ⟨some 12, none, .call 52 [.t 10, .t 11]⟩, ⟨some 7, none, .mov (.t 12)⟩]) (.seq (.blk 0 (.seq (.reg [⟨some 14, none, .ld true 4 (.t 2)⟩, ⟨some 15, none, .call 53 [.t 14]⟩, ⟨some 16, none, .un .not (.t 15)⟩, ⟨some 13, none, .mov (.t 16)⟩]) (.cond (.t 13) (.seq (.reg [⟨some 17, none, .ld true 4 (.t 6)⟩, ⟨none, none, .st 4 [none, none, some (1, 105), some (8, 70)] (.t 4) (.t 17)⟩, ⟨some 5, none, .mov (.c (.int .i64 8))⟩]) .ret) (.seq (.reg [⟨some 19, none, .mov (.t 7)⟩, ⟨some 20, none, .bin .lss 3 (.t 19) (.c (.int .i64 0))⟩, ⟨some 18, none, .mov (.t 20)⟩]) (.cond (.t 18) (.seq (.reg [⟨some 21, none, .ld true 4 (.t 6)⟩, ⟨none, none, .st 4 [none, none, some (1, 105), some (8, 70)] (.t 4) (.t 21)⟩, ⟨some 5, none, .mov (.c (.int .i64 10))⟩]) .ret) (.seq (.reg [⟨some 23, none, .fa 3 (.t 2)⟩, ⟨some 24, none, .ld false 1 (.t 23)⟩, ⟨some 25, none, .mov (.t 7)⟩, ⟨some 26, none, .ia 8 (.t 24) (.t 25)⟩, ⟨some 27, none, .fa 6 (.t 26)⟩, ⟨some 28, none, .ld false 1 (.t 27)⟩, ⟨some 29, none, .bin .neq 3 (.t 28) (.c (.int .i64 1))⟩, ⟨some 22, none, .mov (.t 29)⟩]) (.cond (.t 22) (.seq (.reg [⟨some 30, none, .ld true 4 (.t 6)⟩, ⟨none, none, .st 4 [none, none, some (1, 105), some (8, 70)] (.t 4) (.t 30)⟩, ⟨some 5, none, .mov (.c (.int .i64 12))⟩]) .ret) .skip))))))) (.seq (.dreg (T.pure 0 ⟨some 31, none, .fa 3 (.t 6)⟩ (T.pure 1 ⟨some 32, none, .ld false 1 (.t 31)⟩ (T.pure 2 ⟨some 33, none, .mov (.t 7)⟩ (T.pure 3 ⟨some 34, none, .fa 3 (.t 2)⟩ (T.pure 4 ⟨some 35, none, .ld false 1 (.t 34)⟩ (T.pure 5 ⟨some 36, none, .mov (.t 7)⟩ (T.pure 6 ⟨some 37, none, .ia 8 (.t 35) (.t 36)⟩ (T.pure 7 ⟨some 38, none, .ld true 8 (.t 37)⟩ (T.alt ⟨some 39, none, .call 54 [.t 38]⟩ [2, 1, 0] (T.pure 9 ⟨some 40, none, .ia 8 (.t 32) (.t 33)⟩ (T.alt ⟨none, none, .st 8 [none, none, none, none, none, some (2, 131), none, some (4, 75)] (.t 40) (.t 39)⟩ [] T.done T.stop)) T.stop)))))))))) (.seq (.reg [⟨some 41, none, .ld true 4 (.t 6)⟩, ⟨none, none, .st 4 [none, none, some (1, 105), some (8, 70)] (.t 4) (.t 41)⟩, ⟨some 5, none, .mov (.c (.int .i64 0))⟩]) .ret)))))
theorem code_impl_Cancel : fnC Tryz.prog Tryz.f16 = some (c_impl_Cancel, [.cell 4 true 4, .t 5], 42) := by kernel_rfl
set_option maxHeartbeats 8000000 in
theorem p_spec_RunLeft (r : Rn) (hsz : r.plan.edges.length ≤ 4000000) (ht : r.tasks.length ≤ 4000000) : Pure Tryz.prog 50 [.agg (encRn r)] (.agg (encRn (leftR r))) := by
  refine pure_fn Tryz.func50 code_spec_RunLeft (by simp) ?_
  unfold c_spec_RunLeft
  simp -implicitDefEqProofs only [go_sem, encRn, encPl]
  intro b1 b2
  refine run_call (p_spec_l09Copy r hsz ht) (by simp -implicitDefEqProofs only [go_sem, encRn, encPl]) fun ηc => ?_
  simp -implicitDefEqProofs only [go_sem, encRn, encPl]
  intro b3
  refine run_call (p_spec_RunOk r) (by simp -implicitDefEqProofs only [go_sem, encRn, encPl]) fun η => ?_
  simp -implicitDefEqProofs only [go_sem, encRn, encPl]
  cases h : runOkB r
  · have hb : leftR r = r := leftR_no (by simp [h])
    simp -implicitDefEqProofs only [go_sem, encRn, encPl, h, hb]
  cases h1 : r.state != 1
  rotate_left
  · have h1' : (r.state == 1) = false := by have := h1; simp only [bne, Bool.not_eq_true'] at this; exact this
    have hb : leftR r = r := leftR_no (by simp [h, h1'])
    simp -implicitDefEqProofs only [go_sem, encRn, encPl, h, h1, hb]
  have h1' : (r.state == 1) = true := by have := h1; simp only [bne, Bool.not_eq_false'] at this; exact this
  have hb : leftR r = ⟨r.id, r.plan, 4, mapK leaveG r.tasks r.tasks.length⟩ := leftR_yes (by simp [h, h1'])
  rw [hb]
  simp -implicitDefEqProofs only [go_sem, encRn, encPl, h, h1]
  generalize hts : r.tasks = ts0 at *
  refine run_inl (inl_fn (β := 7000000) Tryz.func104 code_spec_l09Leave (by simp) ?_)
  unfold c_spec_l09Leave
  simp -implicitDefEqProofs only [go_sem, encRn, encPl]
  intro b72 b74
  refine wp_loopW (fun i : Nat => St.of [(1, Ni 4), (2, Bx 2 b72), (4, Bx 4 b74), (5, Ni i)] [(200, ZRn b2 tRn), (2, RnBox b72 tRn ⟨r.id, r.plan, r.state, mapK leaveG ts0 i⟩ (ηc 5) (ηc 7)), (4, ZRn b74 tRn)]) (fun i => i ≤ ts0.length) (fun i => ts0.length - i) 0 (by (try dsimp only); first | omega | (simp; done) | (and_intros <;> first | omega | simp)) (wk_of [some 200, some 700000200, some 700000400] (by simp -implicitDefEqProofs only [go_sem, encRn, encPl, mapK_0] <;> and_intros <;> first | rfl | assumption)) ?_
  rintro j hj
  have hml := mapK_len (f := leaveG) (ts := ts0) (k := j)
  by_cases hlt : j < ts0.length
  · have hlt' : (j : Int) < ts0.length := by omega
    have h0j : (j : Int) ≥ 0 := by omega
    obtain ⟨y, hy⟩ := get_some hlt
    have hyk := mapK_get (f := leaveG) hy
    have hset := mapK_set (f := leaveG) hy
    generalize mapK leaveG ts0 j = M at *
    have hlm : j < M.length := by omega
    have hw : IntKind.i64.wrap ((j : Int) + 1) = ((j + 1 : Nat) : Int) := wrap64 (by omega) (by omega)
    simp -implicitDefEqProofs only [go_sem, encRn, encPl, hml, hlt', h0j, hlt, at_tk hyk, in_tk hyk, encTk]
    intro b6
    cases hc4 : y.state != 4
    · have hst4 : y.state = 4 := by simpa using hc4
      have hg0 : leaveG j y = y := by simp [leaveG, hst4]
      have hg : leaveG j y = ⟨y.state, y.need, y.tri, y.til⟩ := hg0
      rw [hg] at hset
      simp -implicitDefEqProofs only [go_sem, encRn, encPl, Nat.add_zero, hml, hlt', h0j, hlt, hc4, put_tk4 y.state y.need y.tri y.til hlm, hset, in_tk hyk, hw]
      exact ⟨j + 1, by (try dsimp only); first | omega | assumption | (and_intros <;> first | omega | assumption), (wk_of [some 200, some 2, some 4] (by simp -implicitDefEqProofs only [go_sem, encRn, encPl] <;> and_intros <;> first | rfl | assumption)), by (try dsimp only); omega⟩
    cases hc5 : y.state != 5
    · have hst5 : y.state = 5 := by simpa using hc5
      have hg0 : leaveG j y = y := by simp [leaveG, hst5]
      have hg : leaveG j y = ⟨y.state, y.need, y.tri, y.til⟩ := hg0
      rw [hg] at hset
      simp -implicitDefEqProofs only [go_sem, encRn, encPl, Nat.add_zero, hml, hlt', h0j, hlt, hc4, hc5, put_tk4 y.state y.need y.tri y.til hlm, hset, in_tk hyk, hw]
      exact ⟨j + 1, by (try dsimp only); first | omega | assumption | (and_intros <;> first | omega | assumption), (wk_of [some 200, some 2, some 4] (by simp -implicitDefEqProofs only [go_sem, encRn, encPl] <;> and_intros <;> first | rfl | assumption)), by (try dsimp only); omega⟩
    · have hg : leaveG j y = ⟨6, y.need, y.tri, 0⟩ := by
        have h1 : ¬ y.state = 4 := by simpa using hc4
        have h2 : ¬ y.state = 5 := by simpa using hc5
        simp [leaveG, h1, h2]
      rw [hg] at hset
      simp -implicitDefEqProofs only [go_sem, encRn, encPl, Nat.add_zero, hml, hlt', h0j, hlt, hc4, hc5, put_tk4 6 y.need y.tri 0 hlm, hset, in_tk hyk, hw]
      exact ⟨j + 1, by (try dsimp only); first | omega | assumption | (and_intros <;> first | omega | assumption), (wk_of [some 200, some 2, some 4] (by simp -implicitDefEqProofs only [go_sem, encRn, encPl] <;> and_intros <;> first | rfl | assumption)), by (try dsimp only); omega⟩
  have hlt' : ¬ (j : Int) < ts0.length := by omega
  obtain rfl : j = ts0.length := by omega
  generalize mapK leaveG ts0 ts0.length = M at *
  simp -implicitDefEqProofs only [go_sem, encRn, encPl, Nat.add_zero, hml, hlt']
set_option maxHeartbeats 8000000 in
theorem p_impl_RunLeft (r : Rn) (hsz : r.plan.edges.length ≤ 4000000) (ht : r.tasks.length ≤ 4000000) : Pure Tryz.prog 54 [.agg (encRn r)] (.agg (encRn (leftR r))) := by
  refine pure_fn Tryz.func54 code_impl_RunLeft (by simp) ?_
  unfold c_impl_RunLeft
  simp -implicitDefEqProofs only [go_sem, encRn, encPl]
  intro b1 b2
  refine run_call (p_impl_copyRun r hsz ht) (by simp -implicitDefEqProofs only [go_sem, encRn, encPl]) fun ηc => ?_
  simp -implicitDefEqProofs only [go_sem, encRn, encPl]
  intro b3
  refine run_call (p_impl_RunOk r hsz) (by simp -implicitDefEqProofs only [go_sem, encRn, encPl]) fun η => ?_
  simp -implicitDefEqProofs only [go_sem, encRn, encPl]
  cases h : runOkB r
  · have hb : leftR r = r := leftR_no (by simp [h])
    simp -implicitDefEqProofs only [go_sem, encRn, encPl, h, hb]
  cases h1 : r.state == 1
  · have hb : leftR r = r := leftR_no (by simp [h, h1])
    simp -implicitDefEqProofs only [go_sem, encRn, encPl, h, h1, hb]
  have hb : leftR r = ⟨r.id, r.plan, 4, mapK leaveG r.tasks r.tasks.length⟩ := leftR_yes (by simp [h, h1])
  have h5 := live_5 (runOk_iff.1 h) (by simpa using h1)
  rw [hb, ← left_leave h5]
  simp -implicitDefEqProofs only [go_sem, encRn, encPl, h, h1]
  generalize hts : r.tasks = ts0 at *
  refine run_inl (inl_fn (β := 8000000) Tryz.func115 code_impl_leave (by simp) ?_)
  unfold c_impl_leave
  simp -implicitDefEqProofs only [go_sem, encRn, encPl, Nat.add_zero]
  refine wp_loopW (fun i : Nat => St.of [(0, Bx 300 b3), (1, Ni (-1)), (10, Ni ts0.length), (11, Ni i)] [(200, ZRn b2 tRn), (300, RnBox b3 tRn ⟨r.id, r.plan, r.state, mapK (leaveF (-1)) ts0 i⟩ (ηc 5) (ηc 7))]) (fun i => i ≤ ts0.length) (fun i => ts0.length - i) 0 (by (try dsimp only); first | omega | (simp; done) | (and_intros <;> first | omega | simp)) (wk_of [some 200, some 300] (by simp -implicitDefEqProofs only [go_sem, encRn, encPl, mapK_0] <;> and_intros <;> first | rfl | assumption)) ?_
  rintro j hj
  have hml := mapK_len (f := leaveF (-1)) (ts := ts0) (k := j)
  by_cases hlt : j < ts0.length
  · have hlt' : (j : Int) < ts0.length := by omega
    have h0j : (j : Int) ≥ 0 := by omega
    obtain ⟨y, hy⟩ := get_some hlt
    have hyk := mapK_get (f := leaveF (-1)) hy
    have hset := mapK_set (f := leaveF (-1)) hy
    have hsame := mapK_same (f := leaveF (-1)) hy
    generalize mapK (leaveF (-1)) ts0 j = M at *
    have hw : IntKind.i64.wrap ((j : Int) + 1) = ((j + 1 : Nat) : Int) := wrap64 (by omega) (by omega)
    have hlm : j < M.length := by omega
    have hne' : ¬ (j : Int) = -1 := by omega
    have hne : ((j : Int) != -1) = true := by simp only [bne, Bool.not_eq_true', beq_eq_false_iff_ne]; exact hne'
    cases hc4 : y.state != 4
    · have hg : leaveF (-1) j y = y := by have : y.state = 4 := by simpa using hc4
                                          simp [leaveF, this]
      have hq := hsame hg
      simp -implicitDefEqProofs only [go_sem, encRn, encPl, Nat.add_zero, hml, hlt', h0j, hlt, hne, at_tk0 hyk, at_tk0' hyk, in_tk0 hyk, in_tk0' hyk, hc4, hw]
      exact ⟨j + 1, by (try dsimp only); first | omega | assumption | (and_intros <;> first | omega | assumption), (wk_of [some 200, some 300] (by simp -implicitDefEqProofs only [go_sem, encRn, encPl, hq] <;> and_intros <;> first | rfl | assumption)), by (try dsimp only); omega⟩
    · have hg : leaveF (-1) j y = ⟨6, y.need, y.tri, 0⟩ := by
        have h1 : ¬ y.state = 4 := by simpa using hc4
        simp [leaveF, h1, hne']
      rw [hg] at hset
      have hyk2 : (M.set j ⟨6, y.need, y.tri, y.til⟩)[j]? = some ⟨6, y.need, y.tri, y.til⟩ := List.getElem?_set_self hlm
      simp -implicitDefEqProofs only [go_sem, encRn, encPl, Nat.add_zero, hml, hlt', h0j, hlt, hne, at_tk0 hyk, at_tk0' hyk, in_tk0 hyk, in_tk0' hyk, hc4, put_tk0 hyk, put_tk0' hyk, put_tk3 hyk2, in_tk3 hyk2, List.set_set, hset, hw]
      exact ⟨j + 1, by (try dsimp only); first | omega | assumption | (and_intros <;> first | omega | assumption), (wk_of [some 200, some 300] (by simp -implicitDefEqProofs only [go_sem, encRn, encPl] <;> and_intros <;> first | rfl | assumption)), by (try dsimp only); omega⟩
  have hlt' : ¬ (j : Int) < ts0.length := by omega
  obtain rfl : j = ts0.length := by omega
  generalize mapK (leaveF (-1)) ts0 ts0.length = M at *
  simp -implicitDefEqProofs only [go_sem, encRn, encPl, Nat.add_zero, hml, hlt']
set_option maxHeartbeats 8000000 in
theorem p_spec_Cancel (y : Yd) (id : Int) (ht : totYd y ≤ 2000000) : Pure Tryz.prog 15 [.agg (encYd y), .c (.val (.int .i64 id))] (.tup [(true, encYd (cancelY y id)), (false, [.val (.int .i64 (cancelC y id))])]) := by
  refine pure_fn Tryz.func15 code_spec_Cancel (by simp) ?_
  unfold c_spec_Cancel
  simp -implicitDefEqProofs only [go_sem, encYd]
  intro b2 b4
  refine run_call (p_spec_l10Copy y ht) (by simp -implicitDefEqProofs only [go_sem, encYd]) fun ηc => ?_
  simp -implicitDefEqProofs only [go_sem, encYd]
  intro b6
  refine run_call (p_spec_RunAt y id) (by simp -implicitDefEqProofs only [go_sem, encYd]) fun η => ?_
  simp -implicitDefEqProofs only [go_sem, encYd]
  refine run_call (p_spec_YardOk y ht) (by simp -implicitDefEqProofs only [go_sem, encYd]) fun η => ?_
  simp -implicitDefEqProofs only [go_sem, encYd]
  cases hok : yardOkB y
  · have hc : cancelC y id = 8 := by simp [cancelC, hok]
    have hy : cancelY y id = y := by simp [cancelY, hc]
    simp -implicitDefEqProofs only [go_sem, encYd, hok, hc, hy]
    refine ret2_ _ _ _ _ _ ?_
    simp -implicitDefEqProofs only [go_sem, encYd]
  by_cases hneg : runAt y id < 0
  · have hc : cancelC y id = 10 := by simp [cancelC, hok, hneg]
    have hy : cancelY y id = y := by simp [cancelY, hc]
    simp -implicitDefEqProofs only [go_sem, encYd, hok, hneg, hc, hy]
    refine ret2_ _ _ _ _ _ ?_
    simp -implicitDefEqProofs only [go_sem, encYd]
  obtain ⟨k, r, hrk, hr, hid, h8⟩ := runAt_get hneg
  have hk := (List.getElem?_eq_some_iff.1 hr).1
  have h0k : (k : Int) ≥ 0 := by omega
  have hk0 : ¬ (k : Int) < 0 := by omega
  have hget : (y.runs[(runAt y id).toNat]?).getD default = r := by rw [hrk, Int.toNat_natCast, hr]; rfl
  cases hst : r.state != 1
  rotate_left
  · have hs1 : ¬ r.state = 1 := by simpa using hst
    have hc : cancelC y id = 12 := by unfold cancelC; rw [if_neg (by simp [hok]), if_neg hneg, hget, if_neg hs1]
    have hy : cancelY y id = y := by simp [cancelY, hc]
    simp -implicitDefEqProofs only [go_sem, encYd, hok, hrk, hk0, h0k, hk, elem_encRns hr, encRn, encPl, hst, hc, hy]
    refine ret2_ _ _ _ _ _ ?_
    simp -implicitDefEqProofs only [go_sem, encYd]
  have hs1 : r.state = 1 := by simpa using hst
  have hc : cancelC y id = 0 := by unfold cancelC; rw [if_neg (by simp [hok]), if_neg hneg, hget, if_pos hs1]
  have hy : cancelY y id = setRun y k (leftR r) := by rw [cancelY, if_pos hc, hget, hrk, Int.toNat_natCast]
  have hrb := run1_le ht (List.mem_of_getElem? hr)
  rw [hc, hy, setRun]
  simp -implicitDefEqProofs only [go_sem, encYd, hok, hrk, hk0, h0k, hk, elem_encRns hr, at_rn hr, in_rn hr, encRn, encPl, hst]
  refine run_call (p_spec_RunLeft r hrb.1 hrb.2) (by simp -implicitDefEqProofs only [go_sem, encYd, encRn, encPl, get_rns5' hr, get_rns7' hr]) fun η => ?_
  simp -implicitDefEqProofs only [go_sem, encYd, encRn, encPl, get_rns5' hr, get_rns7' hr]
  simp -implicitDefEqProofs only [go_sem, hk, put_rn8 (leftR r) hk]
  refine ⟨in_rn hr, fun η' hη => ret2_ _ _ _ _ _ ?_⟩
  simp -implicitDefEqProofs only [go_sem, encYd]
set_option maxHeartbeats 8000000 in
theorem p_impl_Cancel (y : Yd) (id : Int) (ht : totYd y ≤ 2000000) : Pure Tryz.prog 16 [.agg (encYd y), .c (.val (.int .i64 id))] (.tup [(true, encYd (cancelY y id)), (false, [.val (.int .i64 (cancelC y id))])]) := by
  refine pure_fn Tryz.func16 code_impl_Cancel (by simp) ?_
  unfold c_impl_Cancel
  simp -implicitDefEqProofs only [go_sem, encYd]
  intro b2 b4
  refine run_call (p_impl_copyYard y ht) (by simp -implicitDefEqProofs only [go_sem, encYd]) fun ηc => ?_
  simp -implicitDefEqProofs only [go_sem, encYd]
  intro b6
  refine run_call (p_impl_RunAt y id) (by simp -implicitDefEqProofs only [go_sem, encYd]) fun η => ?_
  simp -implicitDefEqProofs only [go_sem, encYd]
  refine run_call (p_impl_YardOk y ht) (by simp -implicitDefEqProofs only [go_sem, encYd]) fun η => ?_
  simp -implicitDefEqProofs only [go_sem, encYd]
  cases hok : yardOkB y
  · have hc : cancelC y id = 8 := by simp [cancelC, hok]
    have hy : cancelY y id = y := by simp [cancelY, hc]
    simp -implicitDefEqProofs only [go_sem, encYd, hok, hc, hy]
    refine ret2_ _ _ _ _ _ ?_
    simp -implicitDefEqProofs only [go_sem, encYd]
  by_cases hneg : runAt y id < 0
  · have hc : cancelC y id = 10 := by simp [cancelC, hok, hneg]
    have hy : cancelY y id = y := by simp [cancelY, hc]
    simp -implicitDefEqProofs only [go_sem, encYd, hok, hneg, hc, hy]
    refine ret2_ _ _ _ _ _ ?_
    simp -implicitDefEqProofs only [go_sem, encYd]
  obtain ⟨k, r, hrk, hr, hid, h8⟩ := runAt_get hneg
  have hk := (List.getElem?_eq_some_iff.1 hr).1
  have h0k : (k : Int) ≥ 0 := by omega
  have hk0 : ¬ (k : Int) < 0 := by omega
  have hget : (y.runs[(runAt y id).toNat]?).getD default = r := by rw [hrk, Int.toNat_natCast, hr]; rfl
  cases hst : r.state != 1
  rotate_left
  · have hs1 : ¬ r.state = 1 := by simpa using hst
    have hc : cancelC y id = 12 := by unfold cancelC; rw [if_neg (by simp [hok]), if_neg hneg, hget, if_neg hs1]
    have hy : cancelY y id = y := by simp [cancelY, hc]
    simp -implicitDefEqProofs only [go_sem, encYd, hok, hrk, hk0, h0k, hk, elem_encRns hr, encRn, encPl, hst, hc, hy]
    refine ret2_ _ _ _ _ _ ?_
    simp -implicitDefEqProofs only [go_sem, encYd]
  have hs1 : r.state = 1 := by simpa using hst
  have hc : cancelC y id = 0 := by unfold cancelC; rw [if_neg (by simp [hok]), if_neg hneg, hget, if_pos hs1]
  have hy : cancelY y id = setRun y k (leftR r) := by rw [cancelY, if_pos hc, hget, hrk, Int.toNat_natCast]
  have hrb := run1_le ht (List.mem_of_getElem? hr)
  rw [hc, hy, setRun]
  simp -implicitDefEqProofs only [go_sem, encYd, hok, hrk, hk0, h0k, hk, elem_encRns hr, at_rn hr, in_rn hr, encRn, encPl, hst]
  refine run_call (p_impl_RunLeft r hrb.1 hrb.2) (by simp -implicitDefEqProofs only [go_sem, encYd, encRn, encPl, get_rns5' hr, get_rns7' hr]) fun η => ?_
  simp -implicitDefEqProofs only [go_sem, encYd, encRn, encPl, get_rns5' hr, get_rns7' hr]
  simp -implicitDefEqProofs only [go_sem, hk, put_rn8 (leftR r) hk]
  refine ⟨in_rn hr, fun η' hη => ret2_ _ _ _ _ _ ?_⟩
  simp -implicitDefEqProofs only [go_sem, encYd]
theorem tot_cancel (y : Yd) (id : Int) (ht : totYd y ≤ 2000000) : totYd (cancelY y id) ≤ 2000000 := by
  unfold cancelY
  split
  · rename_i h
    have hneg : ¬ runAt y id < 0 := fun hn => by
      unfold cancelC at h
      split at h
      · cases h
      · omega
    obtain ⟨k, r, hrk, hr, -, -⟩ := runAt_get hneg
    rw [hrk, Int.toNat_natCast, hr]
    exact (setRun_tot hr (leftR_tot _)).symm ▸ ht
  · exact ht
end Go.Proofs.YtbplebgnkhmemaaGreat
