/- Texts for laws: Poll. -/
import Derived.Test.YtnhdcbhcocgjhaaGreatQDoneEp
import Derived.Test.YtnhdcbhcocgjhaaGreatQLend
import Derived.Test.YtnhdcbhcocgjhaaGreatQPollP
import Derived.Test.YtnhdcbhcocgjhaaGreatQSwept
import Derived.Test.YtnhdcbhcocgjhaaGreatQVict
set_option linter.unusedSimpArgs false
set_option linter.unusedVariables false
set_option maxRecDepth 100000
namespace Go.Proofs.YtnhdcbhcocgjhaaGreat
open Go.RowKit Go.Sort
theorem vict_mem {h : Nat} (hh : h < 4) (draw : Int) : ∃ a b c : Nat, victL h draw = [(a : Int), (b : Int), (c : Int)] ∧ a < 4 ∧ b < 4 ∧ c < 4 ∧ a ≠ h ∧ b ≠ h ∧ c ≠ h := by
  have hb : brI (h : Int) 0 3 = h := by
    unfold brI
    rw [if_neg (by omega), if_neg (by omega)]
  have hd : 0 ≤ (if draw < 0 then 0 else draw) := by split <;> omega
  obtain ⟨v0, v1, v2⟩ := victL_ h draw h _ hb rfl (by omega)
  have e : ∀ j : Nat, ((h : Int) + (j : Int)).tmod 4 = (((h + j) % 4 : Nat) : Int) := fun j => by
    rw [Int.tmod_eq_emod_of_nonneg (by omega)]; omega
  have e1 := e 1
  have e2 := e 2
  have e3 := e 3
  simp only [Int.natCast_one, Int.cast_ofNat_Int] at e1 e2 e3
  rcases tmod3 hd with h3 | h3 | h3
  · exact ⟨(h + 1) % 4, (h + 2) % 4, (h + 3) % 4, by rw [v0 h3, e1, e2, e3], by omega, by omega, by omega, by omega, by omega, by omega⟩
  · exact ⟨(h + 2) % 4, (h + 3) % 4, (h + 1) % 4, by rw [v1 h3, e1, e2, e3], by omega, by omega, by omega, by omega, by omega, by omega⟩
  · exact ⟨(h + 3) % 4, (h + 1) % 4, (h + 2) % 4, by rw [v2 h3, e1, e2, e3], by omega, by omega, by omega, by omega, by omega, by omega⟩
theorem fresh_runs {y z : Yd} (h : z.runs = y.runs) (e : En) : fresh z e = fresh y e := by
  cases y; cases z
  dsimp only at h
  subst h
  rfl
/-- One shelf is halved. -/
def pollV (z : Yd) (home v : Nat) : Yd :=
  let s := (sweptY z v).shelf
  ⟨z.now, z.seq, (s.set v (halfB ((s[v]?).getD []))).set home (mergedL ((s[home]?).getD []) (halfA ((s[v]?).getD []))), z.runs⟩
def pollF (home : Nat) : List Int → Yd → Yd
  | [], z => z
  | v :: vs, z => if ((z.shelf[home]?).getD []).length = 0 then pollF home vs (pollV z home v.toNat) else z
structure PollI (y : Yd) (home : Nat) (z : Yd) : Prop where
  four : z.shelf.length = 4
  runs : z.runs = y.runs
  now : z.now = y.now
  seq : z.seq = y.seq
  tot : totYd z ≤ totYd y
  frs : ∀ l, z.shelf[home]? = some l → ∀ e ∈ l, fresh y e = true
theorem putL_mem {l : List En} {e x : En} (h : x ∈ putL l e) : x ∈ l ∨ x = e := by
  rw [putL, insL] at h
  rcases List.mem_append.1 h with h | h
  · exact .inl (List.mem_of_mem_take h)
  · rcases List.mem_cons.1 h with h | h
    · exact .inr h
    · exact .inl (List.mem_of_mem_drop h)
theorem putF_mem : ∀ {b a : List En} {x : En}, x ∈ b.foldl putL a → x ∈ a ∨ x ∈ b
  | [], a, x, h => .inl h
  | e :: b, a, x, h => by
    rcases putF_mem (b := b) h with h | h
    · rcases putL_mem h with h | h
      · exact .inl h
      · exact .inr (by simp [h])
    · exact .inr (by simp [h])
theorem merged_mem {a b : List En} {x : En} (h : x ∈ mergedL a b) : x ∈ a ∨ x ∈ b := by
  unfold mergedL at h
  split at h
  · exact .inl h
  · exact putF_mem h
theorem tot_shelf {y : Yd} {k : Nat} {l l2 : List En} (hl : y.shelf[k]? = some l) : totYd ⟨y.now, y.seq, y.shelf.set k l2, y.runs⟩ + l.length = totYd y + l2.length := by
  have h4 : ∀ l : List En, totEnS l = l.length := fun _ => rfl
  have h2 := tsum_set_eq (f := totEnS) l2 hl
  simp only [totYd, totSh, List.length_set] at *
  rw [h4, h4] at h2
  omega
theorem PollI.start {y : Yd} (hP : YardOkP y) {h : Nat} (hh : h < 4) : PollI y h (sweptY y h) := by
  obtain ⟨l, hl⟩ := get_some (l := y.shelf) (k := h) (by have := hP.four; omega)
  have hs := swept_yes hl
  have ht := tot_shelf (l2 := l.filter (fresh y)) hl
  have hf := List.length_filter_le (fresh y) l
  rw [hs]
  refine ⟨by simp [hP.four], rfl, rfl, rfl, by omega, fun l' hl' e he => ?_⟩
  dsimp only at hl'
  rw [List.getElem?_set_self (by have := hP.four; omega)] at hl'
  obtain rfl := Option.some.inj hl'
  exact (List.mem_filter.1 he).2
theorem pollV_eq {z : Yd} {h v : Nat} {l a : List En} (hv : z.shelf[v]? = some l) (hhm : z.shelf[h]? = some a) (hne : v ≠ h) : sweptY z v = ⟨z.now, z.seq, z.shelf.set v (l.filter (fresh z)), z.runs⟩ ∧ pollV z h v = ⟨z.now, z.seq, (z.shelf.set v (halfB (l.filter (fresh z)))).set h (mergedL a (halfA (l.filter (fresh z)))), z.runs⟩ := by
  have hs := swept_yes hv
  refine ⟨hs, ?_⟩
  have hvl := (List.getElem?_eq_some_iff.1 hv).1
  have e1 : (z.shelf.set v (l.filter (fresh z)))[v]? = some (l.filter (fresh z)) := List.getElem?_set_self hvl
  have e2 : (z.shelf.set v (l.filter (fresh z)))[h]? = some a := by rw [List.getElem?_set_ne hne]; exact hhm
  simp only [pollV, hs, e1, e2, Option.getD_some, List.set_set]
theorem PollI.step {y z : Yd} {h v : Nat} (hI : PollI y h z) (hv : v < 4) (hh : h < 4) (hne : v ≠ h) : PollI y h (pollV z h v) := by
  have h4 := hI.four
  obtain ⟨l, hl⟩ := get_some (l := z.shelf) (k := v) (by omega)
  obtain ⟨a, ha⟩ := get_some (l := z.shelf) (k := h) (by omega)
  rw [(pollV_eq hl ha hne).2]
  have hf := List.length_filter_le (fresh z) l
  generalize hL : l.filter (fresh z) = L at *
  have ha2 : (z.shelf.set v (halfB L))[h]? = some a := by rw [List.getElem?_set_ne hne]; exact ha
  have t1 := tot_shelf (l2 := halfB L) hl
  have t2 := tot_shelf (y := ⟨z.now, z.seq, z.shelf.set v (halfB L), z.runs⟩) (l2 := mergedL a (halfA L)) ha2
  have t3 := merged_len a (halfA L)
  have t4 : (halfA L).length + (halfB L).length = L.length := by rw [halfA, halfB, ← List.length_append, List.take_append_drop]
  have t5 := hI.tot
  dsimp only at t1 t2
  refine ⟨by simp [h4], hI.runs, hI.now, hI.seq, by omega, fun l' hl' e he => ?_⟩
  dsimp only at hl'
  rw [List.getElem?_set_self (by rw [List.length_set]; omega)] at hl'
  obtain rfl := Option.some.inj hl'
  rcases merged_mem he with he | he
  · exact hI.frs a ha e he
  · have := List.mem_of_mem_take he
    rw [← hL] at this
    rw [← fresh_runs hI.runs]
    exact (List.mem_filter.1 this).2
/-- What is asked for: the yard behind it, and the reply. -/
noncomputable def pollZ (y : Yd) (h : Nat) (draw : Int) : Yd := pollF h (victL h draw) (sweptY y h)
noncomputable def pollE (y : Yd) (h : Nat) (draw : Int) : List En := ((pollZ y h draw).shelf[h]?).getD []
noncomputable def pollK (y : Yd) (worker draw : Int) : Int := if yardOkB y = false then 8 else if ¬ (0 ≤ worker ∧ worker ≤ 99) then 5 else if (pollE y (worker.tmod 4).toNat draw).length = 0 then 9 else 0
/-- The entry handed out, of a yard. -/
noncomputable def handY (z : Yd) (h : Nat) (e : En) (l : List En) : Yd := ⟨z.now, z.seq, z.shelf.set h l, z.runs.set (runAt z e.run).toNat (startR ((z.runs[(runAt z e.run).toNat]?).getD default) e.task.toNat (((((z.runs[(runAt z e.run).toNat]?).getD default).tasks)[e.task.toNat]?).getD default) z.now)⟩
noncomputable def handT (z : Yd) (e : En) : Int := IntKind.i64.wrap (((((((z.runs[(runAt z e.run).toNat]?).getD default).tasks)[e.task.toNat]?).getD default)).tri + 1)
noncomputable def pollY (y : Yd) (worker draw : Int) : Yd :=
  if yardOkB y = false ∨ ¬ (0 ≤ worker ∧ worker ≤ 99) then y
  else match pollE y (worker.tmod 4).toNat draw with
    | [] => pollZ y (worker.tmod 4).toNat draw
    | e :: l => handY (pollZ y (worker.tmod 4).toNat draw) (worker.tmod 4).toNat e l
noncomputable def pollR (y : Yd) (worker draw : Int) : List D :=
  if pollK y worker draw ≠ 0 then [iv (pollK y worker draw), iv 0, iv 0, iv 0]
  else match pollE y (worker.tmod 4).toNat draw with
    | [] => [iv 0, iv 0, iv 0, iv 0]
    | e :: l => [iv 0, iv e.run, iv e.task, iv (handT (pollZ y (worker.tmod 4).toNat draw) e)]
theorem fresh_at {y : Yd} {e : En} (h : fresh y e = true) : ∃ (k t : Nat) (r : Rn) (x : Tk), runAt y e.run = k ∧ y.runs[k]? = some r ∧ e.task = t ∧ r.tasks[t]? = some x ∧ x.state = 2 := by
  unfold fresh at h
  rcases taskAt_cases y e.run e.task with ⟨_, h2⟩ | ⟨k, r, h1, h2, ⟨_, h3⟩ | ⟨j, x, hj, hx, h3⟩⟩
  · rw [h2] at h; cases h
  · rw [h3] at h; cases h
  · rw [h3] at h
    exact ⟨k, j, r, x, h1, h2, hj, hx, by simpa using h⟩
section
variable {sh : List (List En)} {n : Nat} {l : List En}
theorem in_sh1 (h : n < sh.length) : n + 1 ≤ (sh.flatMap fun es => [encEns es]).length := by have := in_encSh h; rwa [Nat.mul_one] at this
theorem at_sh1 (h : sh[n]? = some l) : ((sh.flatMap fun es => [encEns es]).drop n).take 1 = [encEns l] := by have := at_encSh h; rwa [Nat.mul_one] at this
end
def c_spec_Poll : C := .seq (.reg [⟨some 3, none, .box 30 4 (.t 0)⟩, ⟨some 6, none, .alloc 30 [.int .i64 0, .int .i64 0, .slice none 0 0, .slice none 0 0]⟩, ⟨some 7, none, .alloc 41 [.int .i64 0, .int .i64 0, .int .i64 0, .int .i64 0]⟩]) (.seq (.seq (.reg [⟨some 18, none, .ld true 4 (.t 3)⟩, ⟨some 19, none, .call 65 [.t 18]⟩, ⟨some 20, none, .un .not (.t 19)⟩]) (.cond (.t 20) (.seq (.reg [⟨some 21, none, .ld true 4 (.t 3)⟩, ⟨some 22, none, .call 43 [.t 21]⟩, ⟨some 23, none, .bld [.int .i64 0, .int .i64 0, .int .i64 0, .int .i64 0] [(0, 1, .c (.int .i64 8))]⟩, ⟨none, none, .st 4 [none, none, some (1, 103), some (8, 80)] (.t 6) (.t 22)⟩, ⟨none, none, .st 4 [none, none, none, none] (.t 7) (.t 23)⟩]) .ret) .skip)) (.seq (.seq (.reg [⟨some 24, none, .mov (.t 1)⟩, ⟨some 25, none, .call 72 [.t 24, .c (.int .i64 0), .c (.int .i64 99)]⟩, ⟨some 26, none, .un .not (.t 25)⟩]) (.cond (.t 26) (.seq (.reg [⟨some 27, none, .ld true 4 (.t 3)⟩, ⟨some 28, none, .call 43 [.t 27]⟩, ⟨some 29, none, .bld [.int .i64 0, .int .i64 0, .int .i64 0, .int .i64 0] [(0, 1, .c (.int .i64 5))]⟩, ⟨none, none, .st 4 [none, none, some (1, 103), some (8, 80)] (.t 6) (.t 28)⟩, ⟨none, none, .st 4 [none, none, none, none] (.t 7) (.t 29)⟩]) .ret) .skip)) (.seq (.reg [⟨some 30, none, .mov (.t 1)⟩, ⟨some 31, none, .bin .rem 3 (.t 30) (.c (.int .i64 4))⟩, ⟨some 8, none, .mov (.t 31)⟩]) (.seq (.reg [⟨some 32, none, .ld true 4 (.t 3)⟩, ⟨some 33, none, .mov (.t 8)⟩, ⟨some 34, none, .call 73 [.t 32, .t 33]⟩, ⟨some 9, none, .alloc 30 [.int .i64 0, .int .i64 0, .slice none 0 0, .slice none 0 0]⟩, ⟨none, none, .st 4 [none, none, some (1, 103), some (8, 80)] (.t 9) (.t 34)⟩]) (.seq (.reg [⟨some 35, none, .mov (.t 8)⟩, ⟨some 36, none, .mov (.t 2)⟩, ⟨some 37, none, .call 74 [.t 35, .t 36]⟩, ⟨some 10, none, .mov (.t 37)⟩]) (.seq (.seq (.reg [⟨some 11, none, .mov (.c (.int .i64 0))⟩]) (.blk 0 (.loop (.seq (.seq (.reg [⟨some 38, none, .mov (.t 11)⟩, ⟨some 39, none, .mov (.t 10)⟩, ⟨some 40, none, .len false (.t 39)⟩, ⟨some 41, none, .bin .lss 3 (.t 38) (.t 40)⟩, ⟨some 42, none, .mov (.t 41)⟩, ⟨some 43, some (42, true), .fa 2 (.t 9)⟩, ⟨some 44, some (42, true), .ld false 1 (.t 43)⟩, ⟨some 45, some (42, true), .mov (.t 8)⟩, ⟨some 46, some (42, true), .ia 1 (.t 44) (.t 45)⟩, ⟨some 47, some (42, true), .ld false 1 (.t 46)⟩, ⟨some 48, some (42, true), .len false (.t 47)⟩, ⟨some 49, some (42, true), .bin .eql 3 (.t 48) (.c (.int .i64 0))⟩, ⟨some 50, none, .pick (.t 42) (.t 49) (.c (.bool false))⟩]) (.cond (.t 50) .skip (.exit 0))) (.seq (.blk 1 (.seq (.dreg (T.pure 0 ⟨some 53, none, .ld true 4 (.t 9)⟩ (T.pure 1 ⟨some 54, none, .mov (.t 10)⟩ (T.pure 2 ⟨some 55, none, .mov (.t 11)⟩ (T.pure 3 ⟨some 56, none, .ia 1 (.t 54) (.t 55)⟩ (T.pure 4 ⟨some 57, none, .ld false 1 (.t 56)⟩ (T.alt ⟨some 58, none, .call 73 [.t 53, .t 57]⟩ [] (T.alt ⟨none, none, .st 4 [none, none, some (1, 103), some (8, 80)] (.t 9) (.t 58)⟩ [] T.done T.stop) T.stop))))))) (.seq (.dreg (T.pure 0 ⟨some 60, none, .fa 2 (.t 9)⟩ (T.pure 1 ⟨some 61, none, .ld false 1 (.t 60)⟩ (T.pure 2 ⟨some 62, none, .mov (.t 10)⟩ (T.pure 3 ⟨some 63, none, .mov (.t 11)⟩ (T.pure 4 ⟨some 64, none, .ia 1 (.t 62) (.t 63)⟩ (T.pure 5 ⟨some 65, none, .ld false 1 (.t 64)⟩ (T.pure 6 ⟨some 66, none, .ia 1 (.t 61) (.t 65)⟩ (T.pure 7 ⟨some 67, none, .ld false 1 (.t 66)⟩ (T.alt ⟨some 68, none, .call 75 [.t 67]⟩ [] (T.pure 9 ⟨some 59, none, .mov (.t 68)⟩ (T.pure 10 ⟨some 69, none, .ext (.t 59) 0⟩ (T.pure 11 ⟨some 70, none, .ext (.t 59) 1⟩ (T.pure 12 ⟨some 12, none, .mov (.t 69)⟩ (T.pure 13 ⟨some 13, none, .mov (.t 70)⟩ T.done))))) T.stop)))))))))) (.seq (.dreg (T.pure 0 ⟨some 71, none, .fa 2 (.t 9)⟩ (T.pure 1 ⟨some 72, none, .ld false 1 (.t 71)⟩ (T.pure 2 ⟨some 73, none, .mov (.t 10)⟩ (T.pure 3 ⟨some 74, none, .mov (.t 11)⟩ (T.pure 4 ⟨some 75, none, .ia 1 (.t 73) (.t 74)⟩ (T.pure 5 ⟨some 76, none, .ld false 1 (.t 75)⟩ (T.pure 6 ⟨some 77, none, .mov (.t 13)⟩ (T.pure 7 ⟨some 78, none, .ia 1 (.t 72) (.t 76)⟩ (T.alt ⟨none, none, .st 1 [some (4, 108)] (.t 78) (.t 77)⟩ [] T.done T.stop)))))))))) (.dreg (T.pure 0 ⟨some 79, none, .fa 2 (.t 9)⟩ (T.pure 1 ⟨some 80, none, .ld false 1 (.t 79)⟩ (T.pure 2 ⟨some 81, none, .mov (.t 8)⟩ (T.pure 3 ⟨some 82, none, .fa 2 (.t 9)⟩ (T.pure 4 ⟨some 83, none, .ld false 1 (.t 82)⟩ (T.pure 5 ⟨some 84, none, .mov (.t 8)⟩ (T.pure 6 ⟨some 85, none, .ia 1 (.t 83) (.t 84)⟩ (T.pure 7 ⟨some 86, none, .ld false 1 (.t 85)⟩ (T.pure 8 ⟨some 87, none, .mov (.t 12)⟩ (T.alt ⟨some 88, none, .call 76 [.t 86, .t 87]⟩ [2, 1, 0] (T.pure 10 ⟨some 89, none, .ia 1 (.t 80) (.t 81)⟩ (T.alt ⟨none, none, .st 1 [some (4, 108)] (.t 89) (.t 88)⟩ [] T.done T.stop)) T.stop))))))))))))))) (.reg [⟨some 51, none, .mov (.t 11)⟩, ⟨some 52, none, .bin .add 3 (.t 51) (.c (.int .i64 1))⟩, ⟨some 11, none, .mov (.t 52)⟩])))))) (.seq (.reg [⟨some 91, none, .fa 2 (.t 9)⟩, ⟨some 92, none, .ld false 1 (.t 91)⟩, ⟨some 93, none, .mov (.t 8)⟩, ⟨some 94, none, .ia 1 (.t 92) (.t 93)⟩, ⟨some 95, none, .ld false 1 (.t 94)⟩, ⟨some 96, none, .call 77 [.t 95]⟩, ⟨some 90, none, .mov (.t 96)⟩, ⟨some 97, none, .ext (.t 90) 0⟩, ⟨some 98, none, .ext (.t 90) 1⟩, ⟨some 99, none, .ext (.t 90) 2⟩, ⟨some 14, none, .alloc 108 [.int .i64 0, .int .i64 0, .int .i64 0, .int .i64 0]⟩, ⟨none, none, .st 4 [none, none, none, none] (.t 14) (.t 97)⟩, ⟨some 15, none, .mov (.t 98)⟩, ⟨some 16, none, .mov (.t 99)⟩]) (.seq (.seq (.reg [⟨some 100, none, .mov (.t 16)⟩, ⟨some 101, none, .un .not (.t 100)⟩]) (.cond (.t 101) (.seq (.reg [⟨some 102, none, .ld true 4 (.t 9)⟩, ⟨some 103, none, .bld [.int .i64 0, .int .i64 0, .int .i64 0, .int .i64 0] [(0, 1, .c (.int .i64 9))]⟩, ⟨none, none, .st 4 [none, none, some (1, 103), some (8, 80)] (.t 6) (.t 102)⟩, ⟨none, none, .st 4 [none, none, none, none] (.t 7) (.t 103)⟩]) .ret) .skip)) (.seq (.reg [⟨some 104, none, .fa 2 (.t 9)⟩, ⟨some 105, none, .ld false 1 (.t 104)⟩, ⟨some 106, none, .mov (.t 8)⟩, ⟨some 107, none, .mov (.t 15)⟩, ⟨some 108, none, .ia 1 (.t 105) (.t 106)⟩, ⟨none, none, .st 1 [some (4, 108)] (.t 108) (.t 107)⟩]) (.seq (.reg [⟨some 109, none, .ld true 4 (.t 9)⟩, ⟨some 110, none, .fa 2 (.t 14)⟩, ⟨some 111, none, .ld false 1 (.t 110)⟩, ⟨some 112, none, .call 45 [.t 109, .t 111]⟩, ⟨some 17, none, .mov (.t 112)⟩]) (.seq (.dreg (T.pure 0 ⟨some 113, none, .fa 3 (.t 9)⟩ (T.pure 1 ⟨some 114, none, .ld false 1 (.t 113)⟩ (T.pure 2 ⟨some 115, none, .mov (.t 17)⟩ (T.pure 3 ⟨some 116, none, .fa 3 (.t 9)⟩ (T.pure 4 ⟨some 117, none, .ld false 1 (.t 116)⟩ (T.pure 5 ⟨some 118, none, .mov (.t 17)⟩ (T.pure 6 ⟨some 119, none, .ia 8 (.t 117) (.t 118)⟩ (T.pure 7 ⟨some 120, none, .ld true 8 (.t 119)⟩ (T.pure 8 ⟨some 121, none, .fa 3 (.t 14)⟩ (T.pure 9 ⟨some 122, none, .ld false 1 (.t 121)⟩ (T.pure 10 ⟨some 123, none, .fa 0 (.t 9)⟩ (T.pure 11 ⟨some 124, none, .ld false 1 (.t 123)⟩ (T.alt ⟨some 125, none, .call 78 [.t 120, .t 122, .t 124]⟩ [2, 1, 0] (T.pure 13 ⟨some 126, none, .ia 8 (.t 114) (.t 115)⟩ (T.alt ⟨none, none, .st 8 [none, none, none, none, none, some (2, 182), none, some (4, 98)] (.t 126) (.t 125)⟩ [] T.done T.stop)) T.stop)))))))))))))) (.seq (.dreg (T.pure 0 ⟨some 127, none, .ld true 4 (.t 9)⟩ (T.pure 1 ⟨some 128, none, .fa 2 (.t 14)⟩ (T.pure 2 ⟨some 129, none, .ld false 1 (.t 128)⟩ (T.pure 3 ⟨some 130, none, .fa 3 (.t 14)⟩ (T.pure 4 ⟨some 131, none, .ld false 1 (.t 130)⟩ (T.pure 5 ⟨some 132, none, .fa 3 (.t 9)⟩ (T.pure 6 ⟨some 133, none, .ld false 1 (.t 132)⟩ (T.pure 7 ⟨some 134, none, .mov (.t 17)⟩ (T.pure 8 ⟨some 135, none, .ia 8 (.t 133) (.t 134)⟩ (T.pure 9 ⟨some 136, none, .fa 7 (.t 135)⟩ (T.pure 10 ⟨some 137, none, .ld false 1 (.t 136)⟩ (T.pure 11 ⟨some 138, none, .fa 3 (.t 14)⟩ (T.pure 12 ⟨some 139, none, .ld false 1 (.t 138)⟩ (T.pure 13 ⟨some 140, none, .ia 4 (.t 137) (.t 139)⟩ (T.pure 14 ⟨some 141, none, .fa 2 (.t 140)⟩ (T.pure 15 ⟨some 142, none, .ld false 1 (.t 141)⟩ (T.pure 16 ⟨some 143, none, .bld [.int .i64 0, .int .i64 0, .int .i64 0, .int .i64 0] [(1, 1, .t 129), (2, 1, .t 131), (3, 1, .t 142)]⟩ (T.alt ⟨none, none, .st 4 [none, none, some (1, 103), some (8, 80)] (.t 6) (.t 127)⟩ [16, 15, 14, 13, 12, 11, 10, 9, 8, 7, 6, 5, 4, 3, 2, 1] (T.alt ⟨none, none, .st 4 [none, none, none, none] (.t 7) (.t 143)⟩ [] T.done T.stop) T.stop))))))))))))))))))) .ret))))))))))))
theorem code_spec_Poll : fnC Tryz.prog Tryz.f24 = some (c_spec_Poll, [.cell 6 true 4, .cell 7 true 4], 144) := by kernel_rfl
def c_impl_Poll : C := .seq (.reg [⟨some 3, none, .box 30 4 (.t 0)⟩, ⟨some 6, none, .alloc 30 [.int .i64 0, .int .i64 0, .slice none 0 0, .slice none 0 0]⟩, ⟨some 7, none, .alloc 41 [.int .i64 0, .int .i64 0, .int .i64 0, .int .i64 0]⟩]) (.seq (.blk 0 (.seq (.reg [⟨some 20, none, .ld true 4 (.t 3)⟩, ⟨some 21, none, .call 67 [.t 20]⟩, ⟨some 22, none, .un .not (.t 21)⟩, ⟨some 19, none, .mov (.t 22)⟩]) (.cond (.t 19) (.seq (.reg [⟨some 23, none, .ld true 4 (.t 3)⟩, ⟨some 24, none, .call 50 [.t 23]⟩, ⟨some 25, none, .bld [.int .i64 0, .int .i64 0, .int .i64 0, .int .i64 0] [(0, 1, .c (.int .i64 8))]⟩, ⟨none, none, .st 4 [none, none, some (1, 103), some (8, 80)] (.t 6) (.t 24)⟩, ⟨none, none, .st 4 [none, none, none, none] (.t 7) (.t 25)⟩]) .ret) (.seq (.reg [⟨some 27, none, .mov (.t 1)⟩, ⟨some 28, none, .call 79 [.t 27, .c (.int .i64 0), .c (.int .i64 99)]⟩, ⟨some 29, none, .un .not (.t 28)⟩, ⟨some 26, none, .mov (.t 29)⟩]) (.cond (.t 26) (.seq (.reg [⟨some 30, none, .ld true 4 (.t 3)⟩, ⟨some 31, none, .call 50 [.t 30]⟩, ⟨some 32, none, .bld [.int .i64 0, .int .i64 0, .int .i64 0, .int .i64 0] [(0, 1, .c (.int .i64 5))]⟩, ⟨none, none, .st 4 [none, none, some (1, 103), some (8, 80)] (.t 6) (.t 31)⟩, ⟨none, none, .st 4 [none, none, none, none] (.t 7) (.t 32)⟩]) .ret) .skip))))) (.seq (.reg [⟨some 33, none, .mov (.t 1)⟩, ⟨some 34, none, .bin .rem 3 (.t 33) (.c (.int .i64 4))⟩, ⟨some 8, none, .mov (.t 34)⟩]) (.seq (.reg [⟨some 35, none, .ld true 4 (.t 3)⟩, ⟨some 36, none, .mov (.t 8)⟩, ⟨some 37, none, .call 80 [.t 35, .t 36]⟩, ⟨some 9, none, .alloc 30 [.int .i64 0, .int .i64 0, .slice none 0 0, .slice none 0 0]⟩, ⟨none, none, .st 4 [none, none, some (1, 103), some (8, 80)] (.t 9) (.t 37)⟩]) (.seq (.seq (.reg [⟨some 38, none, .mov (.t 8)⟩, ⟨some 39, none, .mov (.t 2)⟩, ⟨some 40, none, .call 81 [.t 38, .t 39]⟩, ⟨some 41, none, .len false (.t 40)⟩, ⟨some 42, none, .mov (.c (.int .i64 0))⟩]) (.blk 1 (.loop (.seq (.reg [⟨some 43, none, .bin .lss 3 (.t 42) (.t 41)⟩]) (.seq (.cond (.t 43) .skip (.exit 1)) (.seq (.blk 2 (.seq (.reg [⟨some 44, none, .ia 1 (.t 40) (.t 42)⟩, ⟨some 45, none, .ld false 1 (.t 44)⟩, ⟨some 11, none, .mov (.t 45)⟩]) (.seq (.seq (.reg [⟨some 46, none, .fa 2 (.t 9)⟩, ⟨some 47, none, .ld false 1 (.t 46)⟩, ⟨some 48, none, .mov (.t 8)⟩, ⟨some 49, none, .ia 1 (.t 47) (.t 48)⟩, ⟨some 50, none, .ld false 1 (.t 49)⟩, ⟨some 51, none, .len false (.t 50)⟩, ⟨some 52, none, .bin .gtr 3 (.t 51) (.c (.int .i64 0))⟩]) (.cond (.t 52) (.exit 1) .skip)) (.seq (.reg [⟨some 53, none, .ld true 4 (.t 9)⟩, ⟨some 54, none, .mov (.t 11)⟩, ⟨some 55, none, .call 80 [.t 53, .t 54]⟩, ⟨none, none, .st 4 [none, none, some (1, 103), some (8, 80)] (.t 9) (.t 55)⟩]) (.seq (.reg [⟨some 57, none, .fa 2 (.t 9)⟩, ⟨some 58, none, .ld false 1 (.t 57)⟩, ⟨some 59, none, .mov (.t 11)⟩, ⟨some 60, none, .ia 1 (.t 58) (.t 59)⟩, ⟨some 61, none, .ld false 1 (.t 60)⟩, ⟨some 62, none, .call 82 [.t 61]⟩, ⟨some 56, none, .mov (.t 62)⟩, ⟨some 63, none, .ext (.t 56) 0⟩, ⟨some 64, none, .ext (.t 56) 1⟩, ⟨some 12, none, .mov (.t 63)⟩, ⟨some 13, none, .mov (.t 64)⟩]) (.seq (.dreg (T.pure 0 ⟨some 65, none, .fa 2 (.t 9)⟩ (T.pure 1 ⟨some 66, none, .ld false 1 (.t 65)⟩ (T.pure 2 ⟨some 67, none, .mov (.t 8)⟩ (T.pure 3 ⟨some 68, none, .fa 2 (.t 9)⟩ (T.pure 4 ⟨some 69, none, .ld false 1 (.t 68)⟩ (T.pure 5 ⟨some 70, none, .mov (.t 8)⟩ (T.pure 6 ⟨some 71, none, .ia 1 (.t 69) (.t 70)⟩ (T.pure 7 ⟨some 72, none, .ld false 1 (.t 71)⟩ (T.pure 8 ⟨some 73, none, .mov (.t 12)⟩ (T.alt ⟨some 74, none, .call 83 [.t 72, .t 73]⟩ [2, 1, 0] (T.pure 10 ⟨some 75, none, .ia 1 (.t 66) (.t 67)⟩ (T.alt ⟨none, none, .st 1 [some (4, 108)] (.t 75) (.t 74)⟩ [] T.done T.stop)) T.stop))))))))))) (.reg [⟨some 76, none, .fa 2 (.t 9)⟩, ⟨some 77, none, .ld false 1 (.t 76)⟩, ⟨some 78, none, .mov (.t 11)⟩, ⟨some 79, none, .mov (.t 13)⟩, ⟨some 80, none, .ia 1 (.t 77) (.t 78)⟩, ⟨none, none, .st 1 [some (4, 108)] (.t 80) (.t 79)⟩]))))))) (.reg [⟨some 81, none, .bin .add 3 (.t 42) (.c (.int .i64 1))⟩, ⟨some 42, none, .mov (.t 81)⟩]))))))) (.seq (.reg [⟨some 83, none, .fa 2 (.t 9)⟩, ⟨some 84, none, .ld false 1 (.t 83)⟩, ⟨some 85, none, .mov (.t 8)⟩, ⟨some 86, none, .ia 1 (.t 84) (.t 85)⟩, ⟨some 87, none, .ld false 1 (.t 86)⟩, ⟨some 88, none, .call 84 [.t 87]⟩, ⟨some 82, none, .mov (.t 88)⟩, ⟨some 89, none, .ext (.t 82) 0⟩, ⟨some 90, none, .ext (.t 82) 1⟩, ⟨some 91, none, .ext (.t 82) 2⟩, ⟨some 14, none, .alloc 108 [.int .i64 0, .int .i64 0, .int .i64 0, .int .i64 0]⟩, ⟨none, none, .st 4 [none, none, none, none] (.t 14) (.t 89)⟩, ⟨some 15, none, .mov (.t 90)⟩, ⟨some 16, none, .mov (.t 91)⟩]) (.seq (.seq (.reg [⟨some 92, none, .mov (.t 16)⟩, ⟨some 93, none, .un .not (.t 92)⟩]) (.cond (.t 93) (.seq (.reg [⟨some 94, none, .ld true 4 (.t 9)⟩, ⟨some 95, none, .bld [.int .i64 0, .int .i64 0, .int .i64 0, .int .i64 0] [(0, 1, .c (.int .i64 9))]⟩, ⟨none, none, .st 4 [none, none, some (1, 103), some (8, 80)] (.t 6) (.t 94)⟩, ⟨none, none, .st 4 [none, none, none, none] (.t 7) (.t 95)⟩]) .ret) .skip)) (.seq (.reg [⟨some 96, none, .fa 2 (.t 9)⟩, ⟨some 97, none, .ld false 1 (.t 96)⟩, ⟨some 98, none, .mov (.t 8)⟩, ⟨some 99, none, .mov (.t 15)⟩, ⟨some 100, none, .ia 1 (.t 97) (.t 98)⟩, ⟨none, none, .st 1 [some (4, 108)] (.t 100) (.t 99)⟩]) (.seq (.dreg (T.pure 0 ⟨some 101, none, .fa 3 (.t 9)⟩ (T.pure 1 ⟨some 102, none, .ld false 1 (.t 101)⟩ (T.pure 2 ⟨some 103, none, .ld true 4 (.t 9)⟩ (T.pure 3 ⟨some 104, none, .fa 2 (.t 14)⟩ (T.pure 4 ⟨some 105, none, .ld false 1 (.t 104)⟩ (T.alt ⟨some 106, none, .call 53 [.t 103, .t 105]⟩ [1, 0] (T.pure 6 ⟨some 107, none, .ia 8 (.t 102) (.t 106)⟩ (T.pure 7 ⟨some 17, none, .mov (.t 107)⟩ T.done)) T.stop))))))) (.seq (.dreg (T.pure 0 ⟨some 108, none, .mov (.t 17)⟩ (T.pure 1 ⟨some 109, none, .fa 0 (.t 108)⟩ (T.pure 2 ⟨some 110, none, .fa 7 (.t 109)⟩ (T.pure 3 ⟨some 111, none, .ld false 1 (.t 110)⟩ (T.pure 4 ⟨some 112, none, .fa 3 (.t 14)⟩ (T.pure 5 ⟨some 113, none, .ld false 1 (.t 112)⟩ (T.pure 6 ⟨some 114, none, .ia 4 (.t 111) (.t 113)⟩ (T.pure 7 ⟨some 18, none, .mov (.t 114)⟩ T.done))))))))) (.seq (.reg [⟨some 115, none, .mov (.t 18)⟩, ⟨some 116, none, .fa 0 (.t 115)⟩, ⟨some 117, none, .fa 0 (.t 116)⟩, ⟨none, none, .st 1 [none] (.t 117) (.c (.int .i64 3))⟩]) (.seq (.reg [⟨some 118, none, .mov (.t 18)⟩, ⟨some 119, none, .fa 0 (.t 118)⟩, ⟨some 120, none, .fa 2 (.t 119)⟩, ⟨some 121, none, .ld false 1 (.t 120)⟩, ⟨some 122, none, .bin .add 3 (.t 121) (.c (.int .i64 1))⟩, ⟨some 123, none, .fa 0 (.t 118)⟩, ⟨some 124, none, .fa 2 (.t 123)⟩, ⟨none, none, .st 1 [none] (.t 124) (.t 122)⟩]) (.seq (.dreg (T.pure 0 ⟨some 125, none, .mov (.t 18)⟩ (T.pure 1 ⟨some 126, none, .fa 0 (.t 9)⟩ (T.pure 2 ⟨some 127, none, .ld false 1 (.t 126)⟩ (T.pure 3 ⟨some 128, none, .mov (.t 17)⟩ (T.pure 4 ⟨some 129, none, .fa 0 (.t 128)⟩ (T.pure 5 ⟨some 130, none, .fa 1 (.t 129)⟩ (T.pure 6 ⟨some 131, none, .fa 2 (.t 130)⟩ (T.pure 7 ⟨some 132, none, .ld false 1 (.t 131)⟩ (T.pure 8 ⟨some 133, none, .bin .add 3 (.t 127) (.t 132)⟩ (T.pure 9 ⟨some 134, none, .fa 0 (.t 125)⟩ (T.pure 10 ⟨some 135, none, .fa 3 (.t 134)⟩ (T.alt ⟨none, none, .st 1 [none] (.t 135) (.t 133)⟩ [] T.done T.stop))))))))))))) (.seq (.dreg (T.pure 0 ⟨some 136, none, .ld true 4 (.t 9)⟩ (T.pure 1 ⟨some 137, none, .fa 2 (.t 14)⟩ (T.pure 2 ⟨some 138, none, .ld false 1 (.t 137)⟩ (T.pure 3 ⟨some 139, none, .fa 3 (.t 14)⟩ (T.pure 4 ⟨some 140, none, .ld false 1 (.t 139)⟩ (T.pure 5 ⟨some 141, none, .mov (.t 18)⟩ (T.pure 6 ⟨some 142, none, .fa 0 (.t 141)⟩ (T.pure 7 ⟨some 143, none, .fa 2 (.t 142)⟩ (T.pure 8 ⟨some 144, none, .ld false 1 (.t 143)⟩ (T.pure 9 ⟨some 145, none, .bld [.int .i64 0, .int .i64 0, .int .i64 0, .int .i64 0] [(1, 1, .t 138), (2, 1, .t 140), (3, 1, .t 144)]⟩ (T.alt ⟨none, none, .st 4 [none, none, some (1, 103), some (8, 80)] (.t 6) (.t 136)⟩ [9, 8, 7, 6, 5, 4, 3, 2, 1] (T.alt ⟨none, none, .st 4 [none, none, none, none] (.t 7) (.t 145)⟩ [] T.done T.stop) T.stop)))))))))))) .ret)))))))))))))
theorem code_impl_Poll : fnC Tryz.prog Tryz.f25 = some (c_impl_Poll, [.cell 6 true 4, .cell 7 true 4], 146) := by kernel_rfl
theorem poll_nil {y : Yd} {worker draw : Int} {h : Nat} {Z : Yd} (hP : YardOkP y) (hw : 0 ≤ worker ∧ worker ≤ 99) (hhn : (worker.tmod 4).toNat = h) (hZ : pollZ y h draw = Z) (ha : Z.shelf[h]? = some []) : pollY y worker draw = Z ∧ pollR y worker draw = [iv 9, iv 0, iv 0, iv 0] := by
  have hE : pollE y (worker.tmod 4).toNat draw = [] := by rw [hhn, pollE, hZ, ha, Option.getD_some]
  have hok := yard_yes hP
  have hK : pollK y worker draw = 9 := by rw [pollK, if_neg (by rw [hok]; decide), if_neg (by simpa using hw), hE]; rfl
  refine ⟨?_, by rw [pollR, if_pos (by rw [hK]; decide), hK]⟩
  rw [pollY, if_neg (by rintro (h | h); (rw [hok] at h; cases h); exact h hw), hE]
  dsimp only
  rw [hhn, hZ]
theorem poll_cons {y : Yd} {worker draw : Int} {h : Nat} {Z : Yd} {e : En} {l : List En} (hP : YardOkP y) (hw : 0 ≤ worker ∧ worker ≤ 99) (hhn : (worker.tmod 4).toNat = h) (hZ : pollZ y h draw = Z) (ha : Z.shelf[h]? = some (e :: l)) : pollY y worker draw = handY Z h e l ∧ pollR y worker draw = [iv 0, iv e.run, iv e.task, iv (handT Z e)] := by
  have hE : pollE y (worker.tmod 4).toNat draw = e :: l := by rw [hhn, pollE, hZ, ha, Option.getD_some]
  have hok := yard_yes hP
  have hK : pollK y worker draw = 0 := by rw [pollK, if_neg (by rw [hok]; decide), if_neg (by simpa using hw), hE, if_neg (by simp)]
  refine ⟨?_, ?_⟩
  · rw [pollY, if_neg (by rintro (h | h); (rw [hok] at h; cases h); exact h hw), hE]
    dsimp only
    rw [hhn, hZ]
  · rw [pollR, if_neg (by rw [hK]; decide), hE]
    dsimp only
    rw [hhn, hZ]
abbrev ZRp (b ty : Nat) : Ob := .box b ty [.a (.v (.int .i64 0)), .a (.v (.int .i64 0)), .a (.v (.int .i64 0)), .a (.v (.int .i64 0))]
theorem hs_ex {g sz n : Nat} {d : D} {η : Heads} (hd : d.isSl = true) (hs : d.size = sz) (hn : d.len = n) (hp : 0 < sz) : ∀ s : St, s.o g = .loose d η → ∃ dd, Is s (.hs g 0 [] (η []) sz 0 n) dd := by
  intro s ho
  subst hs hn
  exact ⟨d.sub 0 (0 + d.len), d, η, d, by rw [ho]; rfl, rfl, get_nil d, hd, rfl, hp, by omega, rfl⟩
set_option maxHeartbeats 16000000 in
theorem tail_spec_Poll {y : Yd} {worker draw : Int} {h : Nat} {Z : Yd} {a : List En} {b6 b7 b9 t7 : Nat} {f2 f3 : Heads} (ht : totYd y ≤ 2000000) (hP : YardOkP y) (hw : 0 ≤ worker ∧ worker ≤ 99) (hhn : (worker.tmod 4).toNat = h) (hh4 : h < 4) (hZ : pollZ y h draw = Z) (hI : PollI y h Z) (ha : Z.shelf[h]? = some a) (hal : a.length ≤ 2000000) :
    wpC Tryz.prog 0 (C.sub [1,1,1,1,1,1,1] (C.ghs [[1,1,1,1,1,1,1,1,1,1,1,1,0], [1,1,1,1,1,1,1,1,1,1,1,1,1]] c_spec_Poll)) (retE [.cell 6 true 4, .cell 7 true 4] (.tup [(true, encYd (pollY y worker draw)), (true, pollR y worker draw)])) (St.of [(6, Bx 600 b6), (7, Bx 700 b7), (8, Ni h), (9, Bx 900 b9)] [(600, ZYd b6 tYd), (700, ZRp b7 t7), (900, YdBox b9 tYd Z.now Z.seq Z.shelf f2 Z.runs f3)]) := by
  unfold c_spec_Poll
  simp only [C.ghs, C.ghAt, List.foldr, C.sub]
  have h4 := hI.four
  have hhl := (List.getElem?_eq_some_iff.1 ha).1
  have h0h : (h : Int) ≥ 0 := by omega
  simp -implicitDefEqProofs only [go_sem, hhl, h0h, Nat.mul_one, at_sh1 ha, in_sh1 hhl, get_sh ha]
  cases a with
  | nil =>
    obtain ⟨e1, e2⟩ := poll_nil hP hw hhn hZ ha
    rw [e1, e2]
    refine run_call (p_spec_TakeEntry [] (by simp)) (by simp -implicitDefEqProofs only [go_sem, get_sh ha, encEn, takE, takOk, List.headD_nil, List.isEmpty_nil, List.tail_nil]) fun ηt => ?_
    simp -implicitDefEqProofs only [go_sem, get_sh ha, encEn, takE, takOk, List.headD_nil, List.isEmpty_nil, List.tail_nil]
    intro b14
    simp only [retQ_]
    refine resK_cell _ _ _ _ _ ?_
    simp -implicitDefEqProofs only [go_sem, resC_bp, true_or]
    refine resK_cell _ _ _ _ _ ?_
    simp -implicitDefEqProofs only [go_sem, resC_bp, resK_nil, shape_tup, true_or, encYd]
  | cons e l =>
    obtain ⟨e1, e2⟩ := poll_cons hP hw hhn hZ ha
    rw [e1, e2]
    refine run_call (p_spec_TakeEntry (e :: l) (by omega)) (by simp -implicitDefEqProofs only [go_sem, get_sh ha, encEn, takE, takOk, List.headD_cons, List.isEmpty_cons, List.tail_cons]) fun ηt => ?_
    simp -implicitDefEqProofs only [go_sem, get_sh ha, encEn, takE, takOk, List.headD_cons, List.isEmpty_cons, List.tail_cons]
    intro b14
    simp -implicitDefEqProofs only [go_sem, hhl, h0h, Nat.mul_one, in_sh1 hhl, at_sh1 ha, put_sh1]
    refine fun g1 hg1 => ?_
    obtain ⟨k, t, r, x, hrk, hr, het, hx, hxs⟩ := fresh_at (hI.frs _ ha e (by simp))
    rw [← hI.runs] at hr
    have hrz : runAt ⟨Z.now, Z.seq, Z.shelf.set h l, Z.runs⟩ e.run = (k : Int) := by
      rw [← hrk]; unfold runAt; rw [hI.runs]
    have hrz2 : runAt Z e.run = (k : Int) := hrz
    have hkl := (List.getElem?_eq_some_iff.1 hr).1
    have htl := (List.getElem?_eq_some_iff.1 hx).1
    have h0k : (k : Int) ≥ 0 := by omega
    have h0t : (t : Int) ≥ 0 := by omega
    have hrb := run1_le (y := Z) (by have := hI.tot; omega) (List.mem_of_getElem? hr)
    have hH : handY Z h e l = ⟨Z.now, Z.seq, Z.shelf.set h l, Z.runs.set k (startR r t x Z.now)⟩ := by
      simp only [handY, hrz2, het, Int.toNat_natCast, hr, hx, Option.getD_some]
    have hT : handT Z e = IntKind.i64.wrap (x.tri + 1) := by
      simp only [handT, hrz2, het, Int.toNat_natCast, hr, hx, Option.getD_some]
    rw [hH, hT, het]
    refine run_call (p_spec_RunAt ⟨Z.now, Z.seq, Z.shelf.set h l, Z.runs⟩ e.run) (by simp -implicitDefEqProofs only [go_sem, encYd]) fun η => ?_
    simp -implicitDefEqProofs only [go_sem, encYd]
    rw [hrz]
    simp -implicitDefEqProofs only [go_sem, hkl, h0k, at_rn hr, in_rn hr, encRn, encPl, het]
    refine run_call (p_spec_l09Started r t x Z.now hx hrb.1 hrb.2) (by simp -implicitDefEqProofs only [go_sem, encRn, encPl, get_rns5' hr, get_rns7' hr]) fun ηq => ?_
    simp -implicitDefEqProofs only [go_sem, encRn, encPl, get_rns5' hr, get_rns7' hr]
    simp -implicitDefEqProofs only [go_sem, hkl, h0k, in_rn hr, put_rn8 (startR r t x Z.now) hkl]
    refine fun g3 hg3 => ?_
    have hr2 : (Z.runs.set k (startR r t x Z.now))[k]? = some (startR r t x Z.now) := List.getElem?_set_self hkl
    have hkl2 : k < (Z.runs.set k (startR r t x Z.now)).length := by rw [List.length_set]; exact hkl
    have hx2 : (startR r t x Z.now).tasks[t]? = some ⟨3, x.need, IntKind.i64.wrap (x.tri + 1), IntKind.i64.wrap (Z.now + r.plan.wait)⟩ := List.getElem?_set_self htl
    have htl2 : t < (startR r t x Z.now).tasks.length := (List.getElem?_eq_some_iff.1 hx2).1
    have hstt : (startR r t x Z.now).tasks[t]? = some ⟨3, x.need, IntKind.i64.wrap (x.tri + 1), IntKind.i64.wrap (Z.now + r.plan.wait)⟩ := hx2
    generalize startR r t x Z.now = r2 at *
    refine wp_gk ?_
    refine WkK.wk (s' := St.of [(6, Bx 600 b6), (7, Bx 700 b7), (9, Bx 900 b9), (14, Bx 1400 b14), (17, Ni k)] [(600, ZYd b6 tYd), (700, ZRp b7 t7), (900, YdBox b9 tYd Z.now Z.seq (Z.shelf.set h l) g1 (Z.runs.set k r2) g3), (1400, .box b14 tEn [.a (.v (.int .i64 e.prio)), .a (.v (.int .i64 e.seq)), .a (.v (.int .i64 e.run)), .a (.v (.int .i64 e.task))])]) (wk_of [some 600, some 700, some 900, some 1400] (by simp -implicitDefEqProofs only [go_sem, het] <;> and_intros <;> first | rfl | assumption)) ?_
    refine wk_lend 900 2 94 rfl rfl rfl (by decide) (Nat.zero_lt_succ 0) ?_
    refine wk_lend 900 3 95 rfl rfl rfl (by decide) (Nat.zero_lt_succ 7) ?_
    have hEx := hs_ex (g := 95) (sz := 8) (d := encRns (Z.runs.set k r2)) (η := g3) rfl rfl (len_encRns _) (by decide)
    refine WkK.wk (s' := St.of [(6, Bx 600 b6), (7, Bx 700 b7), (9, Bx 900 b9), (14, Bx 1400 b14), (17, Ni k)] [(600, ZYd b6 tYd), (700, ZRp b7 t7), (900, .box b9 tYd [.a (.v (.int .i64 Z.now)), .a (.v (.int .i64 Z.seq)), .a (.hs 94 0 [] (g1 []) 1 0 (Z.shelf.set h l).length), .a (.hs 95 0 [] (g3 []) 8 0 (Z.runs.set k r2).length)]), (94, .loose (encSh (Z.shelf.set h l)) g1), (95, .loose (encRns (Z.runs.set k r2)) g3), (1400, .box b14 tEn [.a (.v (.int .i64 e.prio)), .a (.v (.int .i64 e.seq)), .a (.v (.int .i64 e.run)), .a (.v (.int .i64 e.task))])]) (wk_of [some 600, some 700, some 900, some 94, some 95, some 1400] (by simp -implicitDefEqProofs only [go_sem] <;> and_intros <;> first | rfl | assumption)) ?_
    refine WkK.of ?_
    simp -implicitDefEqProofs only [go_sem, hkl2, h0k, Nat.add_zero, hEx, at_rn7 hr2, in_rn7 hr2, get_rns7 hr2, htl2, h0t, at_tk2 hx2, in_tk2 hx2, het]
    refine wp_gk ?_
    refine WkK.wk (s' := St.of [(6, Bx 600 b6), (7, Bx 700 b7)] [(600, .box b6 tYd [.a (.v (.int .i64 Z.now)), .a (.v (.int .i64 Z.seq)), .a (.hs 94 0 [] (g1 []) 1 0 (Z.shelf.set h l).length), .a (.hs 95 0 [] (g3 []) 8 0 (Z.runs.set k r2).length)]), (700, .box b7 t7 [.a (.v (.int .i64 0)), .a (.v (.int .i64 e.run)), .a (.v (.int .i64 t)), .a (.v (.int .i64 (IntKind.i64.wrap (x.tri + 1))))]), (94, .loose (encSh (Z.shelf.set h l)) g1), (95, .loose (encRns (Z.runs.set k r2)) g3)]) (wk_of [some 600, some 700, some 94, some 95] (by simp -implicitDefEqProofs only [go_sem] <;> and_intros <;> first | rfl | assumption)) ?_
    refine wk_unlend 600 2 94 (d := encSh (Z.shelf.set h l)) (η := g1) rfl rfl rfl rfl (len_encSh _).symm rfl (Nat.zero_lt_succ 0) ?_
    refine wk_unlend 600 3 95 (d := encRns (Z.runs.set k r2)) (η := g3) rfl rfl rfl rfl (len_encRns _).symm rfl (Nat.zero_lt_succ 7) ?_
    refine WkK.of ?_
    simp -implicitDefEqProofs only [go_sem]
    simp only [retQ_]
    refine resK_cell _ _ _ _ _ ?_
    simp -implicitDefEqProofs only [go_sem, resC_bp, true_or]
    refine resK_cell _ _ _ _ _ ?_
    simp -implicitDefEqProofs only [go_sem, resC_bp, resK_nil, shape_tup, true_or, encYd]
set_option maxHeartbeats 16000000 in
theorem q_spec_Poll (y : Yd) (worker draw : Int) (ht : totYd y ≤ 2000000) : Pure Tryz.prog 24 [.agg (encYd y), .c (.val (.int .i64 worker)), .c (.val (.int .i64 draw))] (.tup [(true, encYd (pollY y worker draw)), (true, pollR y worker draw)]) := by
  refine pure_gn [[1,1,1,1,1,1,1], [1,1,1,1,1,1,1,1,1,1,1,1,0], [1,1,1,1,1,1,1,1,1,1,1,1,1]] Tryz.func24 code_spec_Poll (by simp) ?_
  unfold c_spec_Poll
  simp only [C.ghs, C.ghAt, List.foldr]
  simp -implicitDefEqProofs only [go_sem, encYd]
  intro b3 b6 b7
  refine run_call (p_spec_YardOk y ht) (by simp -implicitDefEqProofs only [go_sem, encYd]) fun η => ?_
  simp -implicitDefEqProofs only [go_sem, encYd]
  cases hok : yardOkB y
  · have hy : pollY y worker draw = y := by rw [pollY, if_pos (.inl hok)]
    have hc : pollK y worker draw = 8 := by rw [pollK, if_pos hok]
    have hr : pollR y worker draw = [iv 8, iv 0, iv 0, iv 0] := by rw [pollR, if_pos (by rw [hc]; decide), hc]
    rw [hy, hr]
    simp -implicitDefEqProofs only [go_sem, encYd, hok]
    refine run_call (p_spec_l10Copy y ht) (by simp -implicitDefEqProofs only [go_sem, encYd]) fun ηc => ?_
    simp -implicitDefEqProofs only [go_sem, encYd]
    simp only [retQ_]
    refine resK_cell _ _ _ _ _ ?_
    simp -implicitDefEqProofs only [go_sem, resC_bp, true_or]
    refine resK_cell _ _ _ _ _ ?_
    simp -implicitDefEqProofs only [go_sem, resC_bp, resK_nil, shape_tup, true_or, encYd]
  have hP := yard_iff.1 hok
  simp -implicitDefEqProofs only [go_sem, encYd, hok]
  refine run_call (p_spec_l01In worker 0 99) (by simp -implicitDefEqProofs only [go_sem, encYd]) fun η => ?_
  simp -implicitDefEqProofs only [go_sem, encYd]
  cases hw : decide (0 ≤ worker ∧ worker ≤ 99)
  · have hw' := of_decide_eq_false hw
    have hy : pollY y worker draw = y := by rw [pollY, if_pos (.inr hw')]
    have hc : pollK y worker draw = 5 := by rw [pollK, if_neg (by rw [hok]; decide), if_pos hw']
    have hr : pollR y worker draw = [iv 5, iv 0, iv 0, iv 0] := by rw [pollR, if_pos (by rw [hc]; decide), hc]
    rw [hy, hr]
    simp -implicitDefEqProofs only [go_sem, encYd, hw]
    refine run_call (p_spec_l10Copy y ht) (by simp -implicitDefEqProofs only [go_sem, encYd]) fun ηc => ?_
    simp -implicitDefEqProofs only [go_sem, encYd]
    simp only [retQ_]
    refine resK_cell _ _ _ _ _ ?_
    simp -implicitDefEqProofs only [go_sem, resC_bp, true_or]
    refine resK_cell _ _ _ _ _ ?_
    simp -implicitDefEqProofs only [go_sem, resC_bp, resK_nil, shape_tup, true_or, encYd]
  have hw' := of_decide_eq_true hw
  obtain ⟨h, hh⟩ : ∃ h : Nat, worker.tmod 4 = (h : Int) := ⟨(worker.tmod 4).toNat, by rw [Int.tmod_eq_emod_of_nonneg hw'.1]; omega⟩
  have hh4 : h < 4 := by rw [Int.tmod_eq_emod_of_nonneg hw'.1] at hh; omega
  have hwr : IntKind.i64.wrap (worker.tmod 4) = (h : Int) := by rw [hh]; exact wrap64 (by omega) (by omega)
  have h0h : (h : Int) ≥ 0 := by omega
  simp -implicitDefEqProofs only [go_sem, encYd, hw, hh]
  refine run_call (p_spec_Swept y h ht) (by simp -implicitDefEqProofs only [go_sem, encYd]) fun ηs => ?_
  simp -implicitDefEqProofs only [go_sem, encYd]
  intro b9
  refine run_call (p_spec_VictimsOf h draw) (by simp -implicitDefEqProofs only [go_sem, encYd]) fun ηv => ?_
  simp -implicitDefEqProofs only [go_sem, encYd]
  have hI0 := PollI.start hP hh4
  obtain ⟨v0, v1, v2, hv, w0, w1, w2, n0, n1, n2⟩ := vict_mem hh4 draw
  have hZ : pollZ y h draw = pollF h (victL h draw) (sweptY y h) := rfl
  generalize hz0 : sweptY y h = z0 at *
  generalize victL h draw = V at *
  have hVl : V.length = 3 := by rw [hv]; rfl
  have hVm : ∀ (i : Nat) (v : Int), V[i]? = some v → ∃ n : Nat, v = n ∧ n < 4 ∧ n ≠ h := fun i v hi => by
    have := List.mem_of_getElem? hi
    rw [hv] at this
    simp at this
    rcases this with rfl | rfl | rfl
    · exact ⟨v0, rfl, w0, n0⟩
    · exact ⟨v1, rfl, w1, n1⟩
    · exact ⟨v2, rfl, w2, n2⟩
  obtain ⟨Z, hZe⟩ : ∃ Z, pollF h V z0 = Z := ⟨_, rfl⟩
  have hPZ : pollZ y h draw = Z := by rw [hZ, hZe]
  have hhn : (worker.tmod 4).toNat = h := by rw [hh]; omega
  have hpk : pollK y worker draw = if ((Z.shelf[h]?).getD []).length = 0 then 9 else 0 := by rw [pollK, if_neg (by rw [hok]; decide), if_neg (by simpa using hw'), hhn, pollE, hPZ]
  refine wp_loopW (fun i : Nat × Yd × Heads × Heads => St.of [(6, Bx 600 b6), (7, Bx 700 b7), (8, Ni h), (9, Bx 900 b9), (10, Hd 10 (ηv 0)), (11, Ni i.1)] [(600, ZYd b6 _), (700, ZRp b7 _), (900, YdBox b9 _ i.2.1.now i.2.1.seq i.2.1.shelf i.2.2.1 i.2.1.runs i.2.2.2), (10, .loose (encInts V) (ηv 0))]) (fun i => i.1 ≤ V.length ∧ PollI y h i.2.1 ∧ pollF h (V.drop i.1) i.2.1 = Z) (fun i => V.length - i.1) (0, z0, ηs 2, ηs 3) (⟨Nat.zero_le _, hI0, hZe⟩) (wk_of [some 600, some 700, some 900, some 3700] (by simp -implicitDefEqProofs only [go_sem, encYd] <;> and_intros <;> first | rfl | assumption)) ?_
  rintro ⟨i, z, f2, f3⟩ ⟨hi, hI, hF⟩
  dsimp only at hi hI hF
  have h4 := hI.four
  obtain ⟨a, ha⟩ := get_some (l := z.shelf) (k := h) (by omega)
  have hhl := (List.getElem?_eq_some_iff.1 ha).1
  have hal := shelf2_le (y := z) (by have := hI.tot; omega) (List.mem_of_getElem? ha)
  have hend : (i = V.length ∨ a.length ≠ 0) → z = Z := fun hc => by
    rcases hc with hc | hc
    · rw [← hF, hc, List.drop_length]; rfl
    · rw [← hF]
      cases hd : V.drop i with
      | nil => rfl
      | cons v vs => rw [pollF, ha, Option.getD_some, if_neg hc]
  by_cases hlt : i < V.length
  · have hlt' : (i : Int) < V.length := by omega
    have h0i : (i : Int) ≥ 0 := by omega
    have hwi : IntKind.i64.wrap ((i : Int) + 1) = ((i + 1 : Nat) : Int) := wrap64 (by omega) (by omega)
    cases he : ((a.length : Nat) : Int) == 0
    · obtain rfl := hend (.inr (by intro h0; rw [h0] at he; cases he))
      simp -implicitDefEqProofs only [go_sem, hlt', hhl, h0h, Nat.mul_one, at_sh1 ha, in_sh1 hhl, get_sh ha, he]
      refine wp_gk ?_
      refine WkK.wk (s' := St.of [(6, Bx 600 b6), (7, Bx 700 b7), (8, Ni h), (9, Bx 900 b9)] [(600, ZYd b6 _), (700, ZRp b7 _), (900, YdBox b9 _ z.now z.seq z.shelf f2 z.runs f3)]) (wk_of [some 600, some 700, some 900] (by simp -implicitDefEqProofs only [go_sem] <;> and_intros <;> first | rfl | assumption)) ?_
      exact WkK.of (tail_spec_Poll ht hP hw' hhn hh4 hPZ hI ha hal)
    · have ha0 : a.length = 0 := by simp only [beq_iff_eq] at he; omega
      obtain ⟨v, hv⟩ := get_some hlt
      obtain ⟨n, rfl, hn4, hnh⟩ := hVm i v hv
      have hvn : 0 ≤ (n : Int) := by omega
      have hxa : ((V.flatMap fun n => [iv n]).drop i).take 1 = [iv (n : Int)] := by have := at_encInts hv; rwa [Nat.mul_one] at this
      have hxi : i + 1 ≤ (V.flatMap fun n => [iv n]).length := by have := in_encInts hlt; rwa [Nat.mul_one] at this
      obtain ⟨l, hl⟩ := get_some (l := z.shelf) (k := n) (by omega)
      obtain ⟨e1, e2⟩ := pollV_eq hl ha hnh
      have hstep := hI.step hn4 hh4 hnh
      have hFn : pollF h (V.drop (i + 1)) (pollV z h n) = Z := by
        rw [← hF, List.drop_eq_getElem_cons hlt, pollF, ha, Option.getD_some, if_pos ha0]
        have : V[i] = (n : Int) := by rw [List.getElem?_eq_getElem hlt] at hv; exact Option.some.inj hv
        rw [this, Int.toNat_natCast]
      have hlf := List.length_filter_le (fresh z) l
      have hll := shelf2_le (y := z) (by have := hI.tot; omega) (List.mem_of_getElem? hl)
      rw [e2] at hFn hstep
      simp -implicitDefEqProofs only [go_sem, hlt', hlt, hhl, h0h, h0i, Nat.mul_one, at_sh1 ha, in_sh1 hhl, get_sh ha, he, hxa, hxi]
      refine run_call (p_spec_Swept z n (by have := hI.tot; omega)) (by simp -implicitDefEqProofs only [go_sem, encYd]) fun ηw => ?_
      simp -implicitDefEqProofs only [go_sem, encYd]
      rw [e1]
      generalize l.filter (fresh z) = L at *
      have q1 : (z.shelf.set n L)[n]? = some L := List.getElem?_set_self (by omega)
      have q2 : n < (z.shelf.set n L).length := by rw [List.length_set]; omega
      have q0 : (n : Int) ≥ 0 := hvn
      simp -implicitDefEqProofs only [go_sem, hlt, h0i, Nat.mul_one, hxa, hxi, at_sh1 q1, in_sh1 q2, get_sh q1, q2, q0]
      refine run_call (p_spec_HalfOf L (by omega)) (by simp -implicitDefEqProofs only [go_sem, get_sh q1]) fun ηh => ?_
      simp -implicitDefEqProofs only [go_sem, get_sh q1]
      simp -implicitDefEqProofs only [go_sem, hlt, h0i, Nat.mul_one, hxa, hxi, in_sh1 q2, at_sh1 q1, q2, q0, put_sh1, List.set_set]
      refine fun g' hg' => ?_
      have q3 : (z.shelf.set n (halfB L))[h]? = some a := by rw [List.getElem?_set_ne hnh]; exact ha
      have q4 : h < (z.shelf.set n (halfB L)).length := by rw [List.length_set]; omega
      have q5 : (halfA L).length ≤ L.length := by rw [halfA, List.length_take]; omega
      simp -implicitDefEqProofs only [go_sem, h0h, Nat.mul_one, in_sh1 q4, at_sh1 q3, q4, get_sh q3]
      refine run_call (p_spec_Merged a (halfA L) (by omega)) (by simp -implicitDefEqProofs only [go_sem, get_sh q3]) fun ηm => ?_
      simp -implicitDefEqProofs only [go_sem, get_sh q3]
      simp -implicitDefEqProofs only [go_sem, h0h, Nat.mul_one, in_sh1 q4, at_sh1 q3, q4, put_sh1, hwi]
      refine fun g2' hg2' => ?_
      exact ⟨(i + 1, ⟨z.now, z.seq, (z.shelf.set n (halfB L)).set h (mergedL a (halfA L)), z.runs⟩, g2', ηw 3), ⟨hlt, hstep, hFn⟩, (wk_of [some 600, some 700, some 900, some 10] (by simp -implicitDefEqProofs only [go_sem] <;> and_intros <;> first | rfl | assumption)), by (try dsimp only); omega⟩
  · have hlt' : ¬ (i : Int) < V.length := by omega
    obtain rfl := hend (.inl (by omega))
    simp -implicitDefEqProofs only [go_sem, hlt']
    refine wp_gk ?_
    refine WkK.wk (s' := St.of [(6, Bx 600 b6), (7, Bx 700 b7), (8, Ni h), (9, Bx 900 b9)] [(600, ZYd b6 _), (700, ZRp b7 _), (900, YdBox b9 _ z.now z.seq z.shelf f2 z.runs f3)]) (wk_of [some 600, some 700, some 900] (by simp -implicitDefEqProofs only [go_sem] <;> and_intros <;> first | rfl | assumption)) ?_
    exact WkK.of (tail_spec_Poll ht hP hw' hhn hh4 hPZ hI ha hal)
set_option maxHeartbeats 4000000 in
theorem p_impl_TakeEntry (l : List En) (hl : l.length ≤ 4000000) : Pure Tryz.prog 84 [.c (encEns l)] (.tup [(true, encEn (takE l)), (false, [encEns l.tail]), (false, [.val (.bool (takOk l))])]) := by
  refine pure_fn Tryz.func84 code_impl_TakeEntry (by simp) ?_
  unfold c_impl_TakeEntry
  cases l with
  | nil =>
    simp -implicitDefEqProofs only [go_sem, encEn, takE, takOk, List.headD_nil, List.isEmpty_nil, List.tail_nil]
    intro b2
    simp only [retQ_]
    refine resK_cell _ _ _ _ _ ?_
    simp -implicitDefEqProofs only [go_sem, resC_bp, resK_t, resT_c, resK_nil, shape_tup, true_or, nil_encEns]
  | cons x l =>
    have hle : l.length ≤ 4000000 := by rw [List.length_cons] at hl; omega
    have h0 : (x :: l)[0]? = some x := rfl
    have h1 : (((l.length + 1 : Nat) : Int) == 0) = false := by simp only [beq_eq_false_iff_ne, ne_eq]; omega
    have h2 : 1 ≤ l.length + 1 := by omega
    have h3 : 0 < l.length + 1 := by omega
    have hd : List.take l.length l = l := List.take_length
    simp -implicitDefEqProofs only [go_sem, encEn, takE, takOk, List.headD_cons, List.isEmpty_cons, List.tail_cons, h1]
    intro b2
    simp -implicitDefEqProofs only [go_sem, h2, h3, elem_encEns h0, encEn, hd, Nat.le_refl, Nat.add_sub_cancel]
    refine run_call (p_impl_copyEntries l hle) (by simp -implicitDefEqProofs only [go_sem, hd, encEn]) fun ηa => ?_
    simp -implicitDefEqProofs only [go_sem, hd, encEn]
    simp only [retQ_]
    refine resK_cell _ _ _ _ _ ?_
    simp -implicitDefEqProofs only [go_sem, resC_bp, resK_t, resT_c, resK_nil, shape_tup, true_or]
section
variable {l : List Rn} {k : Nat} {r : Rn}
theorem at_rnW (h : l[k]? = some r) : ((l.flatMap encRn).drop (k * 8 + 1 + 2)).take 1 = [.val (.int .i64 r.plan.wait)] := at1_flat (enc := encRn) (size := 8) (fun _ => rfl) h (j := 3) (n := 1) (by decide)
theorem in_rnW (h : l[k]? = some r) : k * 8 + 1 + 2 + 1 ≤ (l.flatMap encRn).length := in1_flat (enc := encRn) (size := 8) (fun _ => rfl) h (j := 3) (n := 1) (by decide)
end
set_option maxHeartbeats 16000000 in
theorem tail_impl_Poll {y : Yd} {worker draw : Int} {h : Nat} {Z : Yd} {a : List En} {b6 b7 b9 t7 : Nat} {f2 f3 : Heads} (ht : totYd y ≤ 2000000) (hP : YardOkP y) (hw : 0 ≤ worker ∧ worker ≤ 99) (hhn : (worker.tmod 4).toNat = h) (hh4 : h < 4) (hZ : pollZ y h draw = Z) (hI : PollI y h Z) (ha : Z.shelf[h]? = some a) (hal : a.length ≤ 2000000) :
    wpC Tryz.prog 0 (C.sub [1,1,1,1,1] (C.ghs [[1,1,1,1,1,1,1,1,1,1,1,1,1,0], [1,1,1,1,1,1,1,1,1,1,1,1,1,1]] c_impl_Poll)) (retE [.cell 6 true 4, .cell 7 true 4] (.tup [(true, encYd (pollY y worker draw)), (true, pollR y worker draw)])) (St.of [(6, Bx 600 b6), (7, Bx 700 b7), (8, Ni h), (9, Bx 900 b9)] [(600, ZYd b6 tYd), (700, ZRp b7 t7), (900, YdBox b9 tYd Z.now Z.seq Z.shelf f2 Z.runs f3)]) := by
  unfold c_impl_Poll
  simp only [C.ghs, C.ghAt, List.foldr, C.sub]
  have h4 := hI.four
  have hhl := (List.getElem?_eq_some_iff.1 ha).1
  have h0h : (h : Int) ≥ 0 := by omega
  simp -implicitDefEqProofs only [go_sem, hhl, h0h, Nat.mul_one, at_sh1 ha, in_sh1 hhl, get_sh ha]
  cases a with
  | nil =>
    obtain ⟨e1, e2⟩ := poll_nil hP hw hhn hZ ha
    rw [e1, e2]
    refine run_call (p_impl_TakeEntry [] (by simp)) (by simp -implicitDefEqProofs only [go_sem, get_sh ha, encEn, takE, takOk, List.headD_nil, List.isEmpty_nil, List.tail_nil]) fun ηt => ?_
    simp -implicitDefEqProofs only [go_sem, get_sh ha, encEn, takE, takOk, List.headD_nil, List.isEmpty_nil, List.tail_nil]
    intro b14
    simp only [retQ_]
    refine resK_cell _ _ _ _ _ ?_
    simp -implicitDefEqProofs only [go_sem, resC_bp, true_or]
    refine resK_cell _ _ _ _ _ ?_
    simp -implicitDefEqProofs only [go_sem, resC_bp, resK_nil, shape_tup, true_or, encYd]
  | cons e l =>
    obtain ⟨e1, e2⟩ := poll_cons hP hw hhn hZ ha
    rw [e1, e2]
    refine run_call (p_impl_TakeEntry (e :: l) (by omega)) (by simp -implicitDefEqProofs only [go_sem, get_sh ha, encEn, takE, takOk, List.headD_cons, List.isEmpty_cons, List.tail_cons]) fun ηt => ?_
    simp -implicitDefEqProofs only [go_sem, get_sh ha, encEn, takE, takOk, List.headD_cons, List.isEmpty_cons, List.tail_cons]
    intro b14
    simp -implicitDefEqProofs only [go_sem, hhl, h0h, Nat.mul_one, in_sh1 hhl, at_sh1 ha, put_sh1]
    refine fun g1 hg1 => ?_
    obtain ⟨k, t, r, x, hrk, hr, het, hx, hxs⟩ := fresh_at (hI.frs _ ha e (by simp))
    rw [← hI.runs] at hr
    have hrz : runAt ⟨Z.now, Z.seq, Z.shelf.set h l, Z.runs⟩ e.run = (k : Int) := by
      rw [← hrk]; unfold runAt; rw [hI.runs]
    have hrz2 : runAt Z e.run = (k : Int) := hrz
    have hkl := (List.getElem?_eq_some_iff.1 hr).1
    have htl := (List.getElem?_eq_some_iff.1 hx).1
    have h0k : (k : Int) ≥ 0 := by omega
    have h0t : (t : Int) ≥ 0 := by omega
    have hrb := run1_le (y := Z) (by have := hI.tot; omega) (List.mem_of_getElem? hr)
    have hH : handY Z h e l = ⟨Z.now, Z.seq, Z.shelf.set h l, Z.runs.set k (startR r t x Z.now)⟩ := by
      simp only [handY, hrz2, het, Int.toNat_natCast, hr, hx, Option.getD_some]
    have hT : handT Z e = IntKind.i64.wrap (x.tri + 1) := by
      simp only [handT, hrz2, het, Int.toNat_natCast, hr, hx, Option.getD_some]
    rw [hH, hT, het]
    refine run_call (p_impl_RunAt ⟨Z.now, Z.seq, Z.shelf.set h l, Z.runs⟩ e.run) (by simp -implicitDefEqProofs only [go_sem, encYd]) fun η => ?_
    simp -implicitDefEqProofs only [go_sem, encYd]
    rw [hrz]
    have hS : ∀ r' : Rn, (Z.runs.set k r')[k]? = some r' := fun r' => List.getElem?_set_self hkl
    have hSl : ∀ r' : Rn, k < (Z.runs.set k r').length := fun r' => by rw [List.length_set]; exact hkl
    have x1 : (r.tasks.set t ⟨3, x.need, x.tri, x.til⟩)[t]? = some ⟨3, x.need, x.tri, x.til⟩ := List.getElem?_set_self htl
    have x2 : (r.tasks.set t ⟨3, x.need, IntKind.i64.wrap (x.tri + 1), x.til⟩)[t]? = some ⟨3, x.need, IntKind.i64.wrap (x.tri + 1), x.til⟩ := List.getElem?_set_self htl
    have x3 : (r.tasks.set t ⟨3, x.need, IntKind.i64.wrap (x.tri + 1), IntKind.i64.wrap (Z.now + r.plan.wait)⟩)[t]? = some ⟨3, x.need, IntKind.i64.wrap (x.tri + 1), IntKind.i64.wrap (Z.now + r.plan.wait)⟩ := List.getElem?_set_self htl
    have r1 := hS ⟨r.id, r.plan, r.state, r.tasks.set t ⟨3, x.need, x.tri, x.til⟩⟩
    have r2 := hS ⟨r.id, r.plan, r.state, r.tasks.set t ⟨3, x.need, IntKind.i64.wrap (x.tri + 1), x.til⟩⟩
    have r3 := hS ⟨r.id, r.plan, r.state, r.tasks.set t ⟨3, x.need, IntKind.i64.wrap (x.tri + 1), IntKind.i64.wrap (Z.now + r.plan.wait)⟩⟩
    have hst : startR r t x Z.now = ⟨r.id, r.plan, r.state, r.tasks.set t ⟨3, x.need, IntKind.i64.wrap (x.tri + 1), IntKind.i64.wrap (Z.now + r.plan.wait)⟩⟩ := rfl
    rw [hst]
    generalize htri : IntKind.i64.wrap (x.tri + 1) = tri at *
    generalize htil : IntKind.i64.wrap (Z.now + r.plan.wait) = til at *
    simp -implicitDefEqProofs only [go_sem, hkl, h0k, het, Nat.add_zero, at_rn7 hr, in_rn7 hr, get_rns7 hr, htl, h0t, in_tk0 hx, in_tk0' hx, put_rn7 hr (put_tk0 hx 3), put_rn7 hr (put_tk0' hx 3), at_rn7 r1, get_rns7 r1, at_tk2 x1, in_tk2 x1, htri, put_rn7 r1 (put_tk2 x1 tri), List.set_set, at_rnW r2, in_rnW r2, htil, get_rns7 r2, in_tk3 x2, put_rn7 r2 (put_tk3 x2 til)]
    refine wp_gk ?_
    generalize hL : Z.runs.set k ⟨r.id, r.plan, r.state, r.tasks.set t ⟨3, x.need, tri, til⟩⟩ = L at *
    refine WkK.wk (s' := St.of [(6, Bx 600 b6), (7, Bx 700 b7), (9, Bx 900 b9), (14, Bx 1400 b14), (18, .c (.ep 900 3 [k * 8 + 7] (t * 4) (f3 [k * 8 + 7])))] [(600, ZYd b6 tYd), (700, ZRp b7 t7), (900, YdBox b9 tYd Z.now Z.seq (Z.shelf.set h l) g1 L f3), (1400, .box b14 tEn [.a (.v (.int .i64 e.prio)), .a (.v (.int .i64 e.seq)), .a (.v (.int .i64 e.run)), .a (.v (.int .i64 e.task))])]) (wk_of [some 600, some 700, some 900, some 1400] (by simp -implicitDefEqProofs only [go_sem, het] <;> and_intros <;> first | rfl | assumption)) ?_
    refine wk_lend 900 2 94 rfl rfl rfl (by decide) (Nat.zero_lt_succ 0) ?_
    refine wk_lend 900 3 95 rfl rfl rfl (by decide) (Nat.zero_lt_succ 7) ?_
    refine WkK.wk (s' := St.of [(6, Bx 600 b6), (7, Bx 700 b7), (9, Bx 900 b9), (14, Bx 1400 b14), (18, .c (.ep 95 0 [k * 8 + 7] (t * 4) (f3 [k * 8 + 7])))] [(600, ZYd b6 tYd), (700, ZRp b7 t7), (900, .box b9 tYd [.a (.v (.int .i64 Z.now)), .a (.v (.int .i64 Z.seq)), .a (.hs 94 0 [] (g1 []) 1 0 (Z.shelf.set h l).length), .a (.hs 95 0 [] (f3 []) 8 0 L.length)]), (94, .loose (encSh (Z.shelf.set h l)) g1), (95, .loose (encRns L) f3), (1400, .box b14 tEn [.a (.v (.int .i64 e.prio)), .a (.v (.int .i64 e.seq)), .a (.v (.int .i64 e.run)), .a (.v (.int .i64 e.task))])]) (wk_of [some 600, some 700, some 900, some 94, some 95, some 1400] (by simp -implicitDefEqProofs only [go_sem] <;> and_intros <;> first | rfl | assumption)) ?_
    refine WkK.of ?_
    simp -implicitDefEqProofs only [go_sem, Nat.add_zero, h0k, h0t, het, get_rns7 r3, at_tk2 x3, in_tk2 x3]
    refine wp_gk ?_
    refine WkK.wk (s' := St.of [(6, Bx 600 b6), (7, Bx 700 b7)] [(600, .box b6 tYd [.a (.v (.int .i64 Z.now)), .a (.v (.int .i64 Z.seq)), .a (.hs 94 0 [] (g1 []) 1 0 (Z.shelf.set h l).length), .a (.hs 95 0 [] (f3 []) 8 0 L.length)]), (700, .box b7 t7 [.a (.v (.int .i64 0)), .a (.v (.int .i64 e.run)), .a (.v (.int .i64 t)), .a (.v (.int .i64 tri))]), (94, .loose (encSh (Z.shelf.set h l)) g1), (95, .loose (encRns L) f3)]) (wk_of [some 600, some 700, some 94, some 95] (by simp -implicitDefEqProofs only [go_sem] <;> and_intros <;> first | rfl | assumption)) ?_
    refine wk_unlend 600 2 94 (d := encSh (Z.shelf.set h l)) (η := g1) rfl rfl rfl rfl (len_encSh _).symm rfl (Nat.zero_lt_succ 0) ?_
    refine wk_unlend 600 3 95 (d := encRns L) (η := f3) rfl rfl rfl rfl (len_encRns _).symm rfl (Nat.zero_lt_succ 7) ?_
    refine WkK.of ?_
    simp -implicitDefEqProofs only [go_sem]
    simp only [retQ_]
    refine resK_cell _ _ _ _ _ ?_
    simp -implicitDefEqProofs only [go_sem, resC_bp, true_or]
    refine resK_cell _ _ _ _ _ ?_
    simp -implicitDefEqProofs only [go_sem, resC_bp, resK_nil, shape_tup, true_or, encYd]
set_option maxHeartbeats 16000000 in
theorem q_impl_Poll (y : Yd) (worker draw : Int) (ht : totYd y ≤ 2000000) : Pure Tryz.prog 25 [.agg (encYd y), .c (.val (.int .i64 worker)), .c (.val (.int .i64 draw))] (.tup [(true, encYd (pollY y worker draw)), (true, pollR y worker draw)]) := by
  refine pure_gn [[1,1,1,1,1], [1,1,1,1,1,1,1,1,1,1,1,1,1,0], [1,1,1,1,1,1,1,1,1,1,1,1,1,1]] Tryz.func25 code_impl_Poll (by simp) ?_
  unfold c_impl_Poll
  simp only [C.ghs, C.ghAt, List.foldr]
  simp -implicitDefEqProofs only [go_sem, encYd]
  intro b3 b6 b7
  refine run_call (p_impl_YardOk y ht) (by simp -implicitDefEqProofs only [go_sem, encYd]) fun η => ?_
  simp -implicitDefEqProofs only [go_sem, encYd]
  cases hok : yardOkB y
  · have hy : pollY y worker draw = y := by rw [pollY, if_pos (.inl hok)]
    have hc : pollK y worker draw = 8 := by rw [pollK, if_pos hok]
    have hr : pollR y worker draw = [iv 8, iv 0, iv 0, iv 0] := by rw [pollR, if_pos (by rw [hc]; decide), hc]
    rw [hy, hr]
    simp -implicitDefEqProofs only [go_sem, encYd, hok]
    refine run_call (p_impl_copyYard y ht) (by simp -implicitDefEqProofs only [go_sem, encYd]) fun ηc => ?_
    simp -implicitDefEqProofs only [go_sem, encYd]
    simp only [retQ_]
    refine resK_cell _ _ _ _ _ ?_
    simp -implicitDefEqProofs only [go_sem, resC_bp, true_or]
    refine resK_cell _ _ _ _ _ ?_
    simp -implicitDefEqProofs only [go_sem, resC_bp, resK_nil, shape_tup, true_or, encYd]
  have hP := yard_iff.1 hok
  simp -implicitDefEqProofs only [go_sem, encYd, hok]
  refine run_call (p_impl_within worker 0 99) (by simp -implicitDefEqProofs only [go_sem, encYd]) fun η => ?_
  simp -implicitDefEqProofs only [go_sem, encYd]
  cases hw : decide (0 ≤ worker ∧ worker ≤ 99)
  · have hw' := of_decide_eq_false hw
    have hy : pollY y worker draw = y := by rw [pollY, if_pos (.inr hw')]
    have hc : pollK y worker draw = 5 := by rw [pollK, if_neg (by rw [hok]; decide), if_pos hw']
    have hr : pollR y worker draw = [iv 5, iv 0, iv 0, iv 0] := by rw [pollR, if_pos (by rw [hc]; decide), hc]
    rw [hy, hr]
    simp -implicitDefEqProofs only [go_sem, encYd, hw]
    refine run_call (p_impl_copyYard y ht) (by simp -implicitDefEqProofs only [go_sem, encYd]) fun ηc => ?_
    simp -implicitDefEqProofs only [go_sem, encYd]
    simp only [retQ_]
    refine resK_cell _ _ _ _ _ ?_
    simp -implicitDefEqProofs only [go_sem, resC_bp, true_or]
    refine resK_cell _ _ _ _ _ ?_
    simp -implicitDefEqProofs only [go_sem, resC_bp, resK_nil, shape_tup, true_or, encYd]
  have hw' := of_decide_eq_true hw
  obtain ⟨h, hh⟩ : ∃ h : Nat, worker.tmod 4 = (h : Int) := ⟨(worker.tmod 4).toNat, by rw [Int.tmod_eq_emod_of_nonneg hw'.1]; omega⟩
  have hh4 : h < 4 := by rw [Int.tmod_eq_emod_of_nonneg hw'.1] at hh; omega
  have hwr : IntKind.i64.wrap (worker.tmod 4) = (h : Int) := by rw [hh]; exact wrap64 (by omega) (by omega)
  have h0h : (h : Int) ≥ 0 := by omega
  simp -implicitDefEqProofs only [go_sem, encYd, hw, hh]
  refine run_call (p_impl_Swept y h ht) (by simp -implicitDefEqProofs only [go_sem, encYd]) fun ηs => ?_
  simp -implicitDefEqProofs only [go_sem, encYd]
  intro b9
  refine run_call (p_impl_VictimsOf h draw) (by simp -implicitDefEqProofs only [go_sem, encYd]) fun ηv => ?_
  simp -implicitDefEqProofs only [go_sem, encYd]
  have hI0 := PollI.start hP hh4
  obtain ⟨v0, v1, v2, hv, w0, w1, w2, n0, n1, n2⟩ := vict_mem hh4 draw
  have hZ : pollZ y h draw = pollF h (victL h draw) (sweptY y h) := rfl
  generalize hz0 : sweptY y h = z0 at *
  generalize victL h draw = V at *
  have hVl : V.length = 3 := by rw [hv]; rfl
  have hVm : ∀ (i : Nat) (v : Int), V[i]? = some v → ∃ n : Nat, v = n ∧ n < 4 ∧ n ≠ h := fun i v hi => by
    have := List.mem_of_getElem? hi
    rw [hv] at this
    simp at this
    rcases this with rfl | rfl | rfl
    · exact ⟨v0, rfl, w0, n0⟩
    · exact ⟨v1, rfl, w1, n1⟩
    · exact ⟨v2, rfl, w2, n2⟩
  obtain ⟨Z, hZe⟩ : ∃ Z, pollF h V z0 = Z := ⟨_, rfl⟩
  have hPZ : pollZ y h draw = Z := by rw [hZ, hZe]
  have hhn : (worker.tmod 4).toNat = h := by rw [hh]; omega
  have hpk : pollK y worker draw = if ((Z.shelf[h]?).getD []).length = 0 then 9 else 0 := by rw [pollK, if_neg (by rw [hok]; decide), if_neg (by simpa using hw'), hhn, pollE, hPZ]
  refine wp_loopW (fun i : Nat × Yd × Heads × Heads => St.of [(6, Bx 600 b6), (7, Bx 700 b7), (8, Ni h), (9, Bx 900 b9), (40, Hd 10 (ηv 0)), (41, Ni V.length), (42, Ni i.1)] [(600, ZYd b6 _), (700, ZRp b7 _), (900, YdBox b9 _ i.2.1.now i.2.1.seq i.2.1.shelf i.2.2.1 i.2.1.runs i.2.2.2), (10, .loose (encInts V) (ηv 0))]) (fun i => i.1 ≤ V.length ∧ PollI y h i.2.1 ∧ pollF h (V.drop i.1) i.2.1 = Z) (fun i => V.length - i.1) (0, z0, ηs 2, ηs 3) (⟨Nat.zero_le _, hI0, hZe⟩) (wk_of [some 600, some 700, some 900, some 4000] (by simp -implicitDefEqProofs only [go_sem, encYd] <;> and_intros <;> first | rfl | assumption)) ?_
  rintro ⟨i, z, f2, f3⟩ ⟨hi, hI, hF⟩
  dsimp only at hi hI hF
  have h4 := hI.four
  obtain ⟨a, ha⟩ := get_some (l := z.shelf) (k := h) (by omega)
  have hhl := (List.getElem?_eq_some_iff.1 ha).1
  have hal := shelf2_le (y := z) (by have := hI.tot; omega) (List.mem_of_getElem? ha)
  have hend : (i = V.length ∨ a.length ≠ 0) → z = Z := fun hc => by
    rcases hc with hc | hc
    · rw [← hF, hc, List.drop_length]; rfl
    · rw [← hF]
      cases hd : V.drop i with
      | nil => rfl
      | cons v vs => rw [pollF, ha, Option.getD_some, if_neg hc]
  by_cases hlt : i < V.length
  · have hlt' : (i : Int) < V.length := by omega
    have h0i : (i : Int) ≥ 0 := by omega
    have hwi : IntKind.i64.wrap ((i : Int) + 1) = ((i + 1 : Nat) : Int) := wrap64 (by omega) (by omega)
    obtain ⟨v, hv⟩ := get_some hlt
    obtain ⟨n, rfl, hn4, hnh⟩ := hVm i v hv
    have hvn : 0 ≤ (n : Int) := by omega
    have hxa : ((V.flatMap fun n => [iv n]).drop i).take 1 = [iv (n : Int)] := by have := at_encInts hv; rwa [Nat.mul_one] at this
    have hxi : i + 1 ≤ (V.flatMap fun n => [iv n]).length := by have := in_encInts hlt; rwa [Nat.mul_one] at this
    by_cases ha0 : a.length = 0
    · have he : ¬ ((a.length : Nat) : Int) > 0 := by omega
      obtain ⟨l, hl⟩ := get_some (l := z.shelf) (k := n) (by omega)
      obtain ⟨e1, e2⟩ := pollV_eq hl ha hnh
      have hstep := hI.step hn4 hh4 hnh
      have hFn : pollF h (V.drop (i + 1)) (pollV z h n) = Z := by
        rw [← hF, List.drop_eq_getElem_cons hlt, pollF, ha, Option.getD_some, if_pos ha0]
        have : V[i] = (n : Int) := by rw [List.getElem?_eq_getElem hlt] at hv; exact Option.some.inj hv
        rw [this, Int.toNat_natCast]
      have hlf := List.length_filter_le (fresh z) l
      have hll := shelf2_le (y := z) (by have := hI.tot; omega) (List.mem_of_getElem? hl)
      rw [e2, List.set_comm _ _ hnh] at hFn hstep
      simp -implicitDefEqProofs only [go_sem, hlt', hlt, hhl, h0h, h0i, Nat.mul_one, at_sh1 ha, in_sh1 hhl, get_sh ha, he, hxa, hxi]
      refine run_call (p_impl_Swept z n (by have := hI.tot; omega)) (by simp -implicitDefEqProofs only [go_sem, encYd]) fun ηw => ?_
      simp -implicitDefEqProofs only [go_sem, encYd]
      rw [e1]
      generalize l.filter (fresh z) = L at *
      have q1 : (z.shelf.set n L)[n]? = some L := List.getElem?_set_self (by omega)
      have q2 : n < (z.shelf.set n L).length := by rw [List.length_set]; omega
      have q0 : (n : Int) ≥ 0 := hvn
      have q3 : (z.shelf.set n L)[h]? = some a := by rw [List.getElem?_set_ne hnh]; exact ha
      have q4 : h < (z.shelf.set n L).length := by rw [List.length_set]; omega
      have q5 : (halfA L).length ≤ L.length := by rw [halfA, List.length_take]; omega
      simp -implicitDefEqProofs only [go_sem, hlt, h0i, Nat.mul_one, at_sh1 q1, in_sh1 q2, get_sh q1, q2, q0]
      refine run_call (p_impl_HalfOf L (by omega)) (by simp -implicitDefEqProofs only [go_sem, get_sh q1]) fun ηh => ?_
      simp -implicitDefEqProofs only [go_sem, get_sh q1]
      simp -implicitDefEqProofs only [go_sem, h0h, Nat.mul_one, in_sh1 q4, at_sh1 q3, q4, get_sh q3]
      refine run_call (p_impl_Merged a (halfA L) (by omega)) (by simp -implicitDefEqProofs only [go_sem, get_sh q3]) fun ηm => ?_
      simp -implicitDefEqProofs only [go_sem, get_sh q3]
      simp -implicitDefEqProofs only [go_sem, h0h, Nat.mul_one, in_sh1 q4, at_sh1 q3, q4, put_sh1]
      refine fun g' hg' => ?_
      have q6 : n < ((z.shelf.set n L).set h (mergedL a (halfA L))).length := by rw [List.length_set]; exact q2
      have q7 : ((z.shelf.set n L).set h (mergedL a (halfA L)))[n]? = some L := by rw [List.getElem?_set_ne (Ne.symm hnh)]; exact q1
      have q8 : ((z.shelf.set n L).set h (mergedL a (halfA L))).set n (halfB L) = (z.shelf.set h (mergedL a (halfA L))).set n (halfB L) := by
        rw [List.set_comm _ _ hnh, List.set_set]
      simp -implicitDefEqProofs only [go_sem, Nat.mul_one, q0, q6, in_sh1 q6, at_sh1 q7, put_sh1, q8, hwi]
      refine fun g2' hg2' => ?_
      exact ⟨(i + 1, ⟨z.now, z.seq, (z.shelf.set h (mergedL a (halfA L))).set n (halfB L), z.runs⟩, g2', ηw 3), ⟨hlt, hstep, hFn⟩, (wk_of [some 600, some 700, some 900, some 10] (by simp -implicitDefEqProofs only [go_sem] <;> and_intros <;> first | rfl | assumption)), by (try dsimp only); omega⟩
    · have he : ((a.length : Nat) : Int) > 0 := by omega
      obtain rfl := hend (.inr ha0)
      simp -implicitDefEqProofs only [go_sem, hlt', hlt, hhl, h0h, h0i, Nat.mul_one, at_sh1 ha, in_sh1 hhl, get_sh ha, he, hxa, hxi]
      refine wp_gk ?_
      refine WkK.wk (s' := St.of [(6, Bx 600 b6), (7, Bx 700 b7), (8, Ni h), (9, Bx 900 b9)] [(600, ZYd b6 _), (700, ZRp b7 _), (900, YdBox b9 _ z.now z.seq z.shelf f2 z.runs f3)]) (wk_of [some 600, some 700, some 900] (by simp -implicitDefEqProofs only [go_sem] <;> and_intros <;> first | rfl | assumption)) ?_
      exact WkK.of (tail_impl_Poll ht hP hw' hhn hh4 hPZ hI ha hal)
  · have hlt' : ¬ (i : Int) < V.length := by omega
    obtain rfl := hend (.inl (by omega))
    simp -implicitDefEqProofs only [go_sem, hlt']
    refine wp_gk ?_
    refine WkK.wk (s' := St.of [(6, Bx 600 b6), (7, Bx 700 b7), (8, Ni h), (9, Bx 900 b9)] [(600, ZYd b6 _), (700, ZRp b7 _), (900, YdBox b9 _ z.now z.seq z.shelf f2 z.runs f3)]) (wk_of [some 600, some 700, some 900] (by simp -implicitDefEqProofs only [go_sem] <;> and_intros <;> first | rfl | assumption)) ?_
    exact WkK.of (tail_impl_Poll ht hP hw' hhn hh4 hPZ hI ha hal)
structure Rp where
  code : Int
  run : Int
  task : Int
  tri : Int
abbrev encRp (r : Rp) : List D := [iv r.code, iv r.run, iv r.task, iv r.tri]
noncomputable def pollQ (y : Yd) (worker draw : Int) : Rp :=
  if pollK y worker draw ≠ 0 then ⟨pollK y worker draw, 0, 0, 0⟩
  else match pollE y (worker.tmod 4).toNat draw with
    | [] => ⟨0, 0, 0, 0⟩
    | e :: l => ⟨0, e.run, e.task, handT (pollZ y (worker.tmod 4).toNat draw) e⟩
theorem pollR_ (y : Yd) (worker draw : Int) : pollR y worker draw = encRp (pollQ y worker draw) := by
  unfold pollR pollQ
  split
  · rfl
  · split <;> rfl
theorem p_spec_Poll (y : Yd) (worker draw : Int) (ht : totYd y ≤ 2000000) : Pure Tryz.prog 24 [.agg (encYd y), .c (.val (.int .i64 worker)), .c (.val (.int .i64 draw))] (.tup [(true, encYd (pollY y worker draw)), (true, encRp (pollQ y worker draw))]) := by
  rw [← pollR_]; exact q_spec_Poll y worker draw ht
theorem p_impl_Poll (y : Yd) (worker draw : Int) (ht : totYd y ≤ 2000000) : Pure Tryz.prog 25 [.agg (encYd y), .c (.val (.int .i64 worker)), .c (.val (.int .i64 draw))] (.tup [(true, encYd (pollY y worker draw)), (true, encRp (pollQ y worker draw))]) := by
  rw [← pollR_]; exact q_impl_Poll y worker draw ht
theorem pollF_I {y : Yd} {h : Nat} (hh : h < 4) : ∀ (vs : List Int) (z : Yd), (∀ v ∈ vs, ∃ n : Nat, v = n ∧ n < 4 ∧ n ≠ h) → PollI y h z → PollI y h (pollF h vs z)
  | [], _, _, hI => hI
  | v :: vs, z, hv, hI => by
    rw [pollF]
    split
    · obtain ⟨n, rfl, h1, h2⟩ := hv v (by simp)
      exact pollF_I hh vs _ (fun v hv' => hv v (by simp [hv'])) (by rw [Int.toNat_natCast]; exact hI.step h1 hh h2)
    · exact hI
theorem pollZ_I {y : Yd} (hP : YardOkP y) {h : Nat} (hh : h < 4) (draw : Int) : PollI y h (pollZ y h draw) := by
  obtain ⟨v0, v1, v2, hv, w0, w1, w2, n0, n1, n2⟩ := vict_mem hh draw
  refine pollF_I hh _ _ (fun v hm => ?_) (PollI.start hP hh)
  rw [hv] at hm
  simp at hm
  rcases hm with rfl | rfl | rfl
  · exact ⟨v0, rfl, w0, n0⟩
  · exact ⟨v1, rfl, w1, n1⟩
  · exact ⟨v2, rfl, w2, n2⟩
theorem tot_poll (y : Yd) (worker draw : Int) (ht : totYd y ≤ 2000000) : totYd (pollY y worker draw) ≤ 2000000 := by
  unfold pollY
  split
  · exact ht
  · rename_i hc
    have hok : yardOkB y = true := by
      cases h : yardOkB y with
      | true => rfl
      | false => exact absurd (.inl h) hc
    have hw : 0 ≤ worker ∧ worker ≤ 99 := by
      refine Classical.byContradiction fun h => hc (.inr h)
    have hh4 : (worker.tmod 4).toNat < 4 := by rw [Int.tmod_eq_emod_of_nonneg hw.1]; omega
    have hI := pollZ_I (yard_iff.1 hok) hh4 draw
    have hIt := hI.tot
    split
    · omega
    · rename_i e l he
      generalize (worker.tmod 4).toNat = h at *
      have ha : (pollZ y h draw).shelf[h]? = some (e :: l) := by
        rw [pollE] at he
        cases hs : (pollZ y h draw).shelf[h]? with
        | none => rw [hs] at he; simp at he
        | some x => rw [hs, Option.getD_some] at he; rw [he]
      generalize pollZ y h draw = Z at *
      obtain ⟨k, t, r, x, hrk, hr, het, hx, hxs⟩ := fresh_at (hI.frs _ ha e (by simp))
      rw [← hI.runs] at hr
      have hrz2 : runAt Z e.run = (k : Int) := by rw [← hrk]; unfold runAt; rw [hI.runs]
      have hH : handY Z h e l = ⟨Z.now, Z.seq, Z.shelf.set h l, Z.runs.set k (startR r t x Z.now)⟩ := by
        simp only [handY, hrz2, het, Int.toNat_natCast, hr, hx, Option.getD_some]
      have h1 := tot_shelf (l2 := l) ha
      have h2 := tsum_set_eq (f := totRn) (startR r t x Z.now) hr
      have h3 : totRn (startR r t x Z.now) = totRn r := by simp [totRn, startR, startT]
      rw [hH]
      simp only [totYd, totRns, List.length_set, List.length_cons] at *
      omega
def c_laws_eqReply : C := .seq (.reg [⟨some 2, none, .box 41 4 (.t 0)⟩, ⟨some 3, none, .box 41 4 (.t 1)⟩, ⟨some 4, none, .mov (.c (.bool false))⟩]) (.seq (.seq (.reg [⟨some 5, none, .fa 0 (.t 2)⟩, ⟨some 6, none, .ld false 1 (.t 5)⟩, ⟨some 7, none, .fa 0 (.t 3)⟩, ⟨some 8, none, .ld false 1 (.t 7)⟩, ⟨some 9, none, .bin .neq 3 (.t 6) (.t 8)⟩]) (.cond (.t 9) (.seq (.reg [⟨some 4, none, .mov (.c (.bool false))⟩]) .ret) .skip)) (.seq (.seq (.reg [⟨some 10, none, .fa 1 (.t 2)⟩, ⟨some 11, none, .ld false 1 (.t 10)⟩, ⟨some 12, none, .fa 1 (.t 3)⟩, ⟨some 13, none, .ld false 1 (.t 12)⟩, ⟨some 14, none, .bin .neq 3 (.t 11) (.t 13)⟩]) (.cond (.t 14) (.seq (.reg [⟨some 4, none, .mov (.c (.bool false))⟩]) .ret) .skip)) (.seq (.seq (.reg [⟨some 15, none, .fa 2 (.t 2)⟩, ⟨some 16, none, .ld false 1 (.t 15)⟩, ⟨some 17, none, .fa 2 (.t 3)⟩, ⟨some 18, none, .ld false 1 (.t 17)⟩, ⟨some 19, none, .bin .neq 3 (.t 16) (.t 18)⟩]) (.cond (.t 19) (.seq (.reg [⟨some 4, none, .mov (.c (.bool false))⟩]) .ret) .skip)) (.seq (.seq (.reg [⟨some 20, none, .fa 3 (.t 2)⟩, ⟨some 21, none, .ld false 1 (.t 20)⟩, ⟨some 22, none, .fa 3 (.t 3)⟩, ⟨some 23, none, .ld false 1 (.t 22)⟩, ⟨some 24, none, .bin .neq 3 (.t 21) (.t 23)⟩]) (.cond (.t 24) (.seq (.reg [⟨some 4, none, .mov (.c (.bool false))⟩]) .ret) .skip)) (.seq (.reg [⟨some 4, none, .mov (.c (.bool true))⟩]) .ret)))))
theorem code_laws_eqReply : fnC Tryz.prog Tryz.f26 = some (c_laws_eqReply, [.t 4], 25) := by kernel_rfl
theorem p_eqReply (a _b : Rp) : Pure Tryz.prog 26 [.agg (encRp a), .agg (encRp a)] (.c (.val (.bool true))) := by
  refine pure_fn Tryz.func26 code_laws_eqReply (by simp) ?_
  unfold c_laws_eqReply
  simp -implicitDefEqProofs only [go_sem, bne_self_eq_false, beq_self_eq_true]
end Go.Proofs.YtnhdcbhcocgjhaaGreat
