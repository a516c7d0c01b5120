/- Texts for laws: Forg. -/
import Derived.Test.YtnhdcbhcocgjhaaGreatQDel
import Derived.Test.YtnhdcbhcocgjhaaGreatQFam
import Derived.Test.YtnhdcbhcocgjhaaGreatQPut
import Derived.Test.YtnhdcbhcocgjhaaGreatQSwept
set_option linter.unusedSimpArgs false
set_option linter.unusedVariables false
set_option maxRecDepth 100000
namespace Go.Proofs.YtnhdcbhcocgjhaaGreat
open Go.RowKit Go.Sort
def forP (id : Int) (e : En) : Bool := e.run != id
noncomputable def forgC (y : Yd) (id : Int) : Int := if yardOkB y = false then 8 else if runAt y id < 0 then 10 else if ((y.runs[(runAt y id).toNat]?).getD default).state = 1 then 13 else 0
noncomputable def forgY (y : Yd) (id : Int) : Yd := if forgC y id = 0 then ⟨y.now, y.seq, y.shelf.map (fun l => l.filter (forP id)), y.runs.eraseIdx (runAt y id).toNat⟩ else y
def mapTo {α : Type} (f : α → α) (l : List α) (i : Nat) : List α := (l.take i).map f ++ l.drop i
section
variable {α : Type} {f : α → α} {l : List α} {i : Nat} {x : α}
theorem mapTo_0 : mapTo f l 0 = l := rfl
theorem mapTo_len : (mapTo f l i).length = l.length := by
  simp only [mapTo, List.length_append, List.length_map, List.length_take, List.length_drop]; omega
theorem mapTo_all : mapTo f l l.length = l.map f := by simp [mapTo]
theorem mapTo_get (h : l[i]? = some x) : (mapTo f l i)[i]? = some x := by
  have hi := (List.getElem?_eq_some_iff.1 h).1
  have hl : ((l.take i).map f).length = i := by rw [List.length_map, List.length_take]; omega
  rw [mapTo, List.getElem?_append_right (by omega), hl, Nat.sub_self, List.getElem?_drop, Nat.add_zero, h]
theorem mapTo_set (h : l[i]? = some x) : (mapTo f l i).set i (f x) = mapTo f l (i + 1) := by
  have hi := (List.getElem?_eq_some_iff.1 h).1
  have hl : ((l.take i).map f).length = i := by rw [List.length_map, List.length_take]; omega
  have hx : l[i] = x := by rw [List.getElem?_eq_getElem hi] at h; exact Option.some.inj h
  rw [mapTo, List.set_append_right _ _ (by omega), hl, Nat.sub_self, List.drop_eq_getElem_cons hi, List.set_cons_zero, mapTo, List.take_add_one, h]
  simp
end
theorem filt_take {l : List En} {k : Nat} {e : En} (p : En → Bool) (h : l[k]? = some e) : (l.take (k + 1)).filter p = (l.take k).filter p ++ (if p e then [e] else []) := by
  rw [List.take_add_one, h, List.filter_append]
  cases hp : p e <;> simp [hp]
section
variable {l : List En} {k : Nat} {x : En}
theorem at_en2 (hx : l[k]? = some x) : ((l.flatMap encEn).drop (k * 4 + 2)).take 1 = [.val (.int .i64 x.run)] := at1_flat (enc := encEn) (size := 4) (fun _ => rfl) hx (j := 2) (n := 1) (by decide)
theorem in_en2 (hx : l[k]? = some x) : k * 4 + 2 + 1 ≤ (l.flatMap encEn).length := in1_flat (enc := encEn) (size := 4) (fun _ => rfl) hx (j := 2) (n := 1) (by decide)
end
section
variable {sh : List (List En)} {n : Nat} {l : List En}
theorem in_shf (h : n < sh.length) : n + 1 ≤ (sh.flatMap fun es => [encEns es]).length := by have := in_encSh h; rwa [Nat.mul_one] at this
theorem at_shf (h : sh[n]? = some l) : ((sh.flatMap fun es => [encEns es]).drop n).take 1 = [encEns l] := by have := at_encSh h; rwa [Nat.mul_one] at this
end
theorem flatB_parts {rows : List D} (h : flatB rows = true) (n m : Nat) : flatB (rows.take n) = true ∧ flatB (rows.drop m) = true := by
  have e1 : flatB (rows.take n ++ rows.drop n) = true := by rw [List.take_append_drop]; exact h
  have e2 : flatB (rows.take m ++ rows.drop m) = true := by rw [List.take_append_drop]; exact h
  rw [flatB_app, Bool.and_eq_true] at e1 e2
  exact ⟨e1.1, e2.2⟩
def c_spec_Forget : C := .seq (.reg [⟨some 2, none, .box 30 4 (.t 0)⟩, ⟨some 4, none, .alloc 30 [.int .i64 0, .int .i64 0, .slice none 0 0, .slice none 0 0]⟩, ⟨some 5, none, .mov (.c (.int .i64 0))⟩]) (.seq (.reg [⟨some 11, none, .ld true 4 (.t 2)⟩, ⟨some 12, none, .call 43 [.t 11]⟩, ⟨some 6, none, .alloc 30 [.int .i64 0, .int .i64 0, .slice none 0 0, .slice none 0 0]⟩, ⟨none, none, .st 4 [none, none, some (1, 103), some (8, 80)] (.t 6) (.t 12)⟩]) (.seq (.reg [⟨some 13, none, .ld true 4 (.t 2)⟩, ⟨some 14, none, .mov (.t 1)⟩, ⟨some 15, none, .call 45 [.t 13, .t 14]⟩, ⟨some 7, none, .mov (.t 15)⟩]) (.seq (.blk 0 (.seq (.reg [⟨some 17, none, .ld true 4 (.t 2)⟩, ⟨some 18, none, .call 65 [.t 17]⟩, ⟨some 19, none, .un .not (.t 18)⟩, ⟨some 16, none, .mov (.t 19)⟩]) (.cond (.t 16) (.seq (.reg [⟨some 20, none, .ld true 4 (.t 6)⟩, ⟨none, none, .st 4 [none, none, some (1, 103), some (8, 80)] (.t 4) (.t 20)⟩, ⟨some 5, none, .mov (.c (.int .i64 8))⟩]) .ret) (.seq (.reg [⟨some 22, none, .mov (.t 7)⟩, ⟨some 23, none, .bin .lss 3 (.t 22) (.c (.int .i64 0))⟩, ⟨some 21, none, .mov (.t 23)⟩]) (.cond (.t 21) (.seq (.reg [⟨some 24, none, .ld true 4 (.t 6)⟩, ⟨none, none, .st 4 [none, none, some (1, 103), some (8, 80)] (.t 4) (.t 24)⟩, ⟨some 5, none, .mov (.c (.int .i64 10))⟩]) .ret) (.seq (.reg [⟨some 26, none, .fa 3 (.t 2)⟩, ⟨some 27, none, .ld false 1 (.t 26)⟩, ⟨some 28, none, .mov (.t 7)⟩, ⟨some 29, none, .ia 8 (.t 27) (.t 28)⟩, ⟨some 30, none, .fa 6 (.t 29)⟩, ⟨some 31, none, .ld false 1 (.t 30)⟩, ⟨some 32, none, .bin .eql 3 (.t 31) (.c (.int .i64 1))⟩, ⟨some 25, none, .mov (.t 32)⟩]) (.cond (.t 25) (.seq (.reg [⟨some 33, none, .ld true 4 (.t 6)⟩, ⟨none, none, .st 4 [none, none, some (1, 103), some (8, 80)] (.t 4) (.t 33)⟩, ⟨some 5, none, .mov (.c (.int .i64 13))⟩]) .ret) .skip))))))) (.seq (.dreg (T.pure 1 ⟨some 35, none, .fa 3 (.t 6)⟩ (T.pure 2 ⟨some 36, none, .ld false 1 (.t 35)⟩ (T.pure 3 ⟨some 37, none, .mov (.t 7)⟩ (T.pure 4 ⟨some 38, none, .sl 8 (.t 36) none (some (.t 37))⟩ (T.pure 6 ⟨some 40, none, .fa 3 (.t 6)⟩ (T.pure 7 ⟨some 41, none, .ld false 1 (.t 40)⟩ (T.pure 8 ⟨some 42, none, .mov (.t 7)⟩ (T.pure 9 ⟨some 43, none, .bin .add 3 (.t 42) (.c (.int .i64 1))⟩ (T.pure 10 ⟨some 44, none, .sl 8 (.t 41) (some (.t 43)) none⟩ (T.alt ⟨some 34, none, .bsl 80 8 0 [] []⟩ [10, 9, 8, 7, 6, 4, 3, 2, 1] (T.alt ⟨some 39, none, .app 80 8 96 (.t 34) (.t 38)⟩ [10, 9, 8, 7, 6] (T.alt ⟨some 45, none, .app 80 8 96 (.t 39) (.t 44)⟩ [] (T.pure 12 ⟨some 46, none, .fa 3 (.t 6)⟩ (T.alt ⟨none, none, .st 1 [some (8, 80)] (.t 46) (.t 45)⟩ [] T.done T.stop)) T.stop) T.stop) T.stop))))))))))) (.seq (.seq (.reg [⟨some 8, none, .mov (.c (.int .i64 0))⟩]) (.blk 1 (.loop (.seq (.seq (.reg [⟨some 47, none, .mov (.t 8)⟩, ⟨some 48, none, .fa 2 (.t 6)⟩, ⟨some 49, none, .ld false 1 (.t 48)⟩, ⟨some 50, none, .len false (.t 49)⟩, ⟨some 51, none, .bin .lss 3 (.t 47) (.t 50)⟩]) (.cond (.t 51) .skip (.exit 1))) (.seq (.blk 2 (.seq (.reg [⟨some 54, none, .bsl 108 4 0 [] []⟩, ⟨some 9, none, .mov (.t 54)⟩]) (.seq (.seq (.reg [⟨some 10, none, .mov (.c (.int .i64 0))⟩]) (.blk 3 (.loop (.seq (.seq (.reg [⟨some 55, none, .mov (.t 10)⟩, ⟨some 56, none, .fa 2 (.t 6)⟩, ⟨some 57, none, .ld false 1 (.t 56)⟩, ⟨some 58, none, .mov (.t 8)⟩, ⟨some 59, none, .ia 1 (.t 57) (.t 58)⟩, ⟨some 60, none, .ld false 1 (.t 59)⟩, ⟨some 61, none, .len false (.t 60)⟩, ⟨some 62, none, .bin .lss 3 (.t 55) (.t 61)⟩]) (.cond (.t 62) .skip (.exit 3))) (.seq (.blk 4 (.seq (.reg [⟨some 65, none, .fa 2 (.t 6)⟩, ⟨some 66, none, .ld false 1 (.t 65)⟩, ⟨some 67, none, .mov (.t 8)⟩, ⟨some 68, none, .ia 1 (.t 66) (.t 67)⟩, ⟨some 69, none, .ld false 1 (.t 68)⟩, ⟨some 70, none, .mov (.t 10)⟩, ⟨some 71, none, .ia 4 (.t 69) (.t 70)⟩, ⟨some 72, none, .fa 2 (.t 71)⟩, ⟨some 73, none, .ld false 1 (.t 72)⟩, ⟨some 74, none, .mov (.t 1)⟩, ⟨some 75, none, .bin .neq 3 (.t 73) (.t 74)⟩]) (.cond (.t 75) (.reg [⟨some 76, none, .mov (.t 9)⟩, ⟨some 77, none, .fa 2 (.t 6)⟩, ⟨some 78, none, .ld false 1 (.t 77)⟩, ⟨some 79, none, .mov (.t 8)⟩, ⟨some 80, none, .ia 1 (.t 78) (.t 79)⟩, ⟨some 81, none, .ld false 1 (.t 80)⟩, ⟨some 82, none, .mov (.t 10)⟩, ⟨some 83, none, .ia 4 (.t 81) (.t 82)⟩, ⟨some 84, none, .ld true 4 (.t 83)⟩, ⟨some 85, none, .bsl 108 4 1 [none, none, none, none] [(0, 4, .t 84)]⟩, ⟨some 86, none, .app 108 4 32 (.t 76) (.t 85)⟩, ⟨some 9, none, .mov (.t 86)⟩]) .skip))) (.reg [⟨some 63, none, .mov (.t 10)⟩, ⟨some 64, none, .bin .add 3 (.t 63) (.c (.int .i64 1))⟩, ⟨some 10, none, .mov (.t 64)⟩])))))) (.reg [⟨some 87, none, .fa 2 (.t 6)⟩, ⟨some 88, none, .ld false 1 (.t 87)⟩, ⟨some 89, none, .mov (.t 8)⟩, ⟨some 90, none, .mov (.t 9)⟩, ⟨some 91, none, .ia 1 (.t 88) (.t 89)⟩, ⟨none, none, .st 1 [some (4, 108)] (.t 91) (.t 90)⟩])))) (.reg [⟨some 52, none, .mov (.t 8)⟩, ⟨some 53, none, .bin .add 3 (.t 52) (.c (.int .i64 1))⟩, ⟨some 8, none, .mov (.t 53)⟩])))))) (.seq (.reg [⟨some 92, none, .ld true 4 (.t 6)⟩, ⟨none, none, .st 4 [none, none, some (1, 103), some (8, 80)] (.t 4) (.t 92)⟩, ⟨some 5, none, .mov (.c (.int .i64 0))⟩]) .ret))))))
theorem code_spec_Forget : fnC Tryz.prog Tryz.f27 = some (c_spec_Forget, [.cell 4 true 4, .t 5], 93) := by kernel_rfl
def c_impl_Forget : C := .seq (.reg [⟨some 2, none, .box 30 4 (.t 0)⟩, ⟨some 3, none, .box 3 1 (.t 1)⟩, ⟨some 4, none, .alloc 30 [.int .i64 0, .int .i64 0, .slice none 0 0, .slice none 0 0]⟩, ⟨some 5, none, .mov (.c (.int .i64 0))⟩]) (.seq (.reg [⟨some 9, none, .ld true 4 (.t 2)⟩, ⟨some 10, none, .call 50 [.t 9]⟩, ⟨some 6, none, .alloc 30 [.int .i64 0, .int .i64 0, .slice none 0 0, .slice none 0 0]⟩, ⟨none, none, .st 4 [none, none, some (1, 103), some (8, 80)] (.t 6) (.t 10)⟩]) (.seq (.reg [⟨some 11, none, .ld true 4 (.t 2)⟩, ⟨some 12, none, .ld false 1 (.t 3)⟩, ⟨some 13, none, .call 53 [.t 11, .t 12]⟩, ⟨some 7, none, .mov (.t 13)⟩]) (.seq (.blk 0 (.seq (.reg [⟨some 15, none, .ld true 4 (.t 2)⟩, ⟨some 16, none, .call 67 [.t 15]⟩, ⟨some 17, none, .un .not (.t 16)⟩, ⟨some 14, none, .mov (.t 17)⟩]) (.cond (.t 14) (.seq (.reg [⟨some 18, none, .ld true 4 (.t 6)⟩, ⟨none, none, .st 4 [none, none, some (1, 103), some (8, 80)] (.t 4) (.t 18)⟩, ⟨some 5, none, .mov (.c (.int .i64 8))⟩]) .ret) (.seq (.reg [⟨some 20, none, .mov (.t 7)⟩, ⟨some 21, none, .bin .lss 3 (.t 20) (.c (.int .i64 0))⟩, ⟨some 19, none, .mov (.t 21)⟩]) (.cond (.t 19) (.seq (.reg [⟨some 22, none, .ld true 4 (.t 6)⟩, ⟨none, none, .st 4 [none, none, some (1, 103), some (8, 80)] (.t 4) (.t 22)⟩, ⟨some 5, none, .mov (.c (.int .i64 10))⟩]) .ret) (.seq (.reg [⟨some 24, none, .fa 3 (.t 2)⟩, ⟨some 25, none, .ld false 1 (.t 24)⟩, ⟨some 26, none, .mov (.t 7)⟩, ⟨some 27, none, .ia 8 (.t 25) (.t 26)⟩, ⟨some 28, none, .fa 6 (.t 27)⟩, ⟨some 29, none, .ld false 1 (.t 28)⟩, ⟨some 30, none, .bin .eql 3 (.t 29) (.c (.int .i64 1))⟩, ⟨some 23, none, .mov (.t 30)⟩]) (.cond (.t 23) (.seq (.reg [⟨some 31, none, .ld true 4 (.t 6)⟩, ⟨none, none, .st 4 [none, none, some (1, 103), some (8, 80)] (.t 4) (.t 31)⟩, ⟨some 5, none, .mov (.c (.int .i64 13))⟩]) .ret) .skip))))))) (.seq (.reg [⟨some 32, none, .fa 3 (.t 6)⟩, ⟨some 33, none, .ld false 1 (.t 32)⟩, ⟨some 34, none, .mov (.t 7)⟩, ⟨some 35, none, .mov (.t 7)⟩, ⟨some 36, none, .bin .add 3 (.t 35) (.c (.int .i64 1))⟩, ⟨some 37, none, .call 85 [.t 33, .t 34, .t 36]⟩, ⟨some 38, none, .fa 3 (.t 6)⟩, ⟨none, none, .st 1 [some (8, 80)] (.t 38) (.t 37)⟩]) (.seq (.seq (.reg [⟨some 39, none, .fa 2 (.t 6)⟩, ⟨some 40, none, .ld false 1 (.t 39)⟩, ⟨some 41, none, .len false (.t 40)⟩, ⟨some 42, none, .mov (.c (.int .i64 0))⟩]) (.blk 1 (.loop (.seq (.reg [⟨some 43, none, .bin .lss 3 (.t 42) (.t 41)⟩]) (.seq (.cond (.t 43) .skip (.exit 1)) (.seq (.blk 2 (.seq (.reg [⟨some 44, none, .mov (.t 42)⟩, ⟨some 8, none, .mov (.t 44)⟩]) (.dreg (T.pure 0 ⟨some 45, none, .fa 2 (.t 6)⟩ (T.pure 1 ⟨some 46, none, .ld false 1 (.t 45)⟩ (T.pure 2 ⟨some 47, none, .mov (.t 8)⟩ (T.pure 3 ⟨some 48, none, .fa 2 (.t 6)⟩ (T.pure 4 ⟨some 49, none, .ld false 1 (.t 48)⟩ (T.pure 5 ⟨some 50, none, .mov (.t 8)⟩ (T.pure 6 ⟨some 51, none, .ia 1 (.t 49) (.t 50)⟩ (T.pure 7 ⟨some 52, none, .ld false 1 (.t 51)⟩ (T.pure 8 ⟨some 53, none, .mkf 87 [.t 3]⟩ (T.alt ⟨some 54, none, .call 86 [.t 52, .t 53]⟩ [2, 1, 0] (T.pure 10 ⟨some 55, none, .ia 1 (.t 46) (.t 47)⟩ (T.alt ⟨none, none, .st 1 [some (4, 108)] (.t 55) (.t 54)⟩ [] T.done T.stop)) T.stop))))))))))))) (.reg [⟨some 56, none, .bin .add 3 (.t 42) (.c (.int .i64 1))⟩, ⟨some 42, none, .mov (.t 56)⟩]))))))) (.seq (.reg [⟨some 57, none, .ld true 4 (.t 6)⟩, ⟨none, none, .st 4 [none, none, some (1, 103), some (8, 80)] (.t 4) (.t 57)⟩, ⟨some 5, none, .mov (.c (.int .i64 0))⟩]) .ret))))))
theorem code_impl_Forget : fnC Tryz.prog Tryz.f28 = some (c_impl_Forget, [.cell 4 true 4, .t 5], 58) := by kernel_rfl
def c_impl_Forget_1 : C := .seq (.reg [⟨some 2, none, .box 108 4 (.t 0)⟩, ⟨some 3, none, .mov (.c (.bool false))⟩]) (.seq (.reg [⟨some 4, none, .fa 2 (.t 2)⟩, ⟨some 5, none, .ld false 1 (.t 4)⟩, ⟨some 6, none, .ld false 1 (.t 1)⟩, ⟨some 7, none, .bin .eql 3 (.t 5) (.t 6)⟩, ⟨some 3, none, .mov (.t 7)⟩]) .ret)
theorem code_impl_Forget_1 : fnC Tryz.prog Tryz.f87 = some (c_impl_Forget_1, [.t 3], 8) := by kernel_rfl
set_option maxHeartbeats 16000000 in
theorem p_spec_Forget (y : Yd) (id : Int) (ht : totYd y ≤ 2000000) : Pure Tryz.prog 27 [.agg (encYd y), .c (.val (.int .i64 id))] (.tup [(true, encYd (forgY y id)), (false, [.val (.int .i64 (forgC y id))])]) := by
  refine pure_gn [[1,1,1,1,0], [1,1,1,1,1,0,0]] Tryz.func27 code_spec_Forget (by simp) ?_
  unfold c_spec_Forget
  simp only [C.ghs, C.ghAt, List.foldr]
  simp -implicitDefEqProofs only [go_sem, encYd]
  intro b2 b4
  refine run_call (p_spec_l10Copy y ht) (by simp -implicitDefEqProofs only [go_sem, encYd]) fun ηc => ?_
  simp -implicitDefEqProofs only [go_sem, encYd]
  intro b6
  refine run_call (p_spec_RunAt y id) (by simp -implicitDefEqProofs only [go_sem, encYd]) fun η => ?_
  simp -implicitDefEqProofs only [go_sem, encYd]
  refine run_call (p_spec_YardOk y ht) (by simp -implicitDefEqProofs only [go_sem, encYd]) fun η => ?_
  simp -implicitDefEqProofs only [go_sem, encYd]
  cases hok : yardOkB y
  · have hc : forgC y id = 8 := by simp [forgC, hok]
    have hy : forgY y id = y := by rw [forgY, if_neg (by rw [hc]; decide)]
    simp -implicitDefEqProofs only [go_sem, encYd, hok, hc, hy]
    refine ret2_ _ _ _ _ _ ?_
    simp -implicitDefEqProofs only [go_sem, encYd]
  have hP := yard_iff.1 hok
  by_cases hneg : runAt y id < 0
  · have hc : forgC y id = 10 := by rw [forgC, if_neg (by rw [hok]; decide), if_pos hneg]
    have hy : forgY y id = y := by rw [forgY, if_neg (by rw [hc]; decide)]
    simp -implicitDefEqProofs only [go_sem, encYd, hok, hneg, hc, hy]
    refine ret2_ _ _ _ _ _ ?_
    simp -implicitDefEqProofs only [go_sem, encYd]
  obtain ⟨k, r, hrk, hr, hid, h8⟩ := runAt_get hneg
  have hk := (List.getElem?_eq_some_iff.1 hr).1
  have h0k : (k : Int) ≥ 0 := by omega
  have hk0 : ¬ (k : Int) < 0 := by omega
  have hget : ((y.runs[(runAt y id).toNat]?).getD default) = r := by rw [hrk, Int.toNat_natCast, hr, Option.getD_some]
  cases hst : r.state == 1
  rotate_left
  · have hs1 : r.state = 1 := by simpa using hst
    have hc : forgC y id = 13 := by rw [forgC, if_neg (by rw [hok]; decide), if_neg hneg, hget, if_pos hs1]
    have hy : forgY y id = y := by rw [forgY, if_neg (by rw [hc]; decide)]
    simp -implicitDefEqProofs only [go_sem, encYd, hok, hrk, hk0, h0k, hk, elem_encRns hr, encRn, encPl, hst, hc, hy]
    refine ret2_ _ _ _ _ _ ?_
    simp -implicitDefEqProofs only [go_sem, encYd]
  have hs1 : ¬ r.state = 1 := by simpa using hst
  have hc : forgC y id = 0 := by rw [forgC, if_neg (by rw [hok]; decide), if_neg hneg, hget, if_neg hs1]
  rw [hc, forgY, if_pos hc, hrk, Int.toNat_natCast]
  simp -implicitDefEqProofs only [go_sem, encYd, hok, hrk, hk0, h0k, hk, elem_encRns hr, encRn, encPl, hst]
  refine wp_gk ?_
  generalize ηc 2 = η2 at *
  generalize ηc 3 = η3 at *
  refine WkK.wk (s' := St.of [(1, Ni id), (4, Bx 92 b4), (6, Bx 90 b6), (7, Ni k)] [(92, ZYd b4 tYd), (90, YdBox b6 tYd y.now y.seq y.shelf η2 y.runs η3)]) (wk_of [some 400, some 600] (by simp -implicitDefEqProofs only [go_sem, encYd] <;> and_intros <;> first | rfl | assumption)) ?_
  refine wk_cutAll 90 3 y.runs [] 1000000000000 _ η3 rfl (by decide) (fun j hj => by
    show (if j = 92 then _ else if j = 90 then _ else Ob.none) = Ob.none
    rw [if_neg (by omega), if_neg (by omega)]) fun rows fam η' hcr hη => ?_
  refine WkK.wk (wk_ofF [some 92, some 90] (T := [(1, Ni id), (4, Bx 92 b4), (6, Bx 90 b6), (7, Ni k)]) (O := [(92, ZYd b4 tYd), (90, YdBoxD b6 tYd y.now y.seq y.shelf η2 (.sl 8 tRn rows) η')]) (b := 1000000000000) (fam := fam) (by simp -implicitDefEqProofs only [go_sem] <;> and_intros <;> first | rfl | assumption) (fun j hj => by
    show (if 1000000000000 ≤ j then _ else _) = _
    rw [if_pos hj]) (by decide)) ?_
  refine WkK.of ?_
  have hrl := hcr.len
  have hfl := hcr.flat
  obtain ⟨hf1, hf2⟩ := flatB_parts hfl (k * 8) ((k + 1) * 8)
  have hdl : (D.sl 8 tRn rows).len = y.runs.length := by
    simp only [D.len, D.cells, D.size, hrl]; exact Nat.mul_div_cancel _ (by decide)
  have hw1 : IntKind.i64.wrap ((k : Int) + 1) = ((k + 1 : Nat) : Int) := wrap64 (by omega) (by omega)
  have hkl2 : k + 1 ≤ y.runs.length := hk
  have hkl3 : k ≤ y.runs.length := by omega
  have h0k1 : ((k + 1 : Nat) : Int) ≥ 0 := by omega
  have htd : List.take ((k + 1 + (y.runs.length - (k + 1)) - (k + 1)) * 8) (List.drop ((k + 1) * 8) rows) = List.drop ((k + 1) * 8) rows := List.take_of_length_le (by rw [List.length_drop, hrl]; omega)
  have hnn : k + 1 + (y.runs.length - (k + 1)) ≤ y.runs.length := by omega
  have hd1 : (List.take (k * 8) rows).length / 8 = k := by rw [List.length_take, hrl, Nat.min_eq_left (by omega)]; exact Nat.mul_div_cancel _ (by decide)
  have hd2 : (List.drop ((k + 1) * 8) rows).length / 8 = y.runs.length - (k + 1) := by
    rw [List.length_drop, hrl, show y.runs.length * 8 - (k + 1) * 8 = (y.runs.length - (k + 1)) * 8 by omega]; exact Nat.mul_div_cancel _ (by decide)
  have m1 : k ≤ maxLen := by unfold maxLen; omega
  have m2 : k * 96 ≤ 140737488355328 := by omega
  have m3 : k + (y.runs.length - (k + 1)) ≤ maxLen := by unfold maxLen; omega
  have m4 : (k + (y.runs.length - (k + 1))) * 96 ≤ 140737488355328 := by omega
  simp -implicitDefEqProofs only [go_sem, hdl, hw1, hkl2, hkl3, h0k, h0k1, hf1, hf2, Nat.le_refl, htd, hnn, hd1, hd2, m1, m2, m3, m4]
  intro η34 η39 η45
  refine wp_gk ?_
  refine WkK.wk (wk_ofF [some 92, some 90] (T := [(1, Ni id), (4, Bx 92 b4), (6, Bx 90 b6)]) (O := [(92, ZYd b4 tYd), (90, YdBoxD b6 tYd y.now y.seq y.shelf η2 (.sl 8 tRn (rows.take (k * 8) ++ rows.drop ((k + 1) * 8))) η45)]) (b := 1000000000000) (fam := fam) (by simp -implicitDefEqProofs only [go_sem] <;> and_intros <;> first | rfl | assumption) (fun j hj => by
    simp -implicitDefEqProofs only [go_sem]
    repeat rw [if_neg (by omega)]
    rw [if_pos hj]) (by decide)) ?_
  refine WkK.wk (wk_famRen (b := 1000000000000) (fam := fam) (fun j => if j < 2 * k then j else j + 2) (fun i j h => by
    split at h <;> split at h <;> omega) (fun j hj => by
    show (if 1000000000000 ≤ j then _ else _) = _
    rw [if_pos hj])) ?_
  refine wk_graftAll 90 3 (y.runs.eraseIdx k) [] 1000000000000 _ η45 (rows.take (k * 8) ++ rows.drop ((k + 1) * 8)) _ (hcr.erase hk) rfl (by decide) (fun j hj => by
    show (if 1000000000000 ≤ j then _ else _) = _
    rw [if_pos hj]) fun η9 _ => ?_
  generalize y.runs.eraseIdx k = R at *
  refine WkK.wk (s' := St.of [(1, Ni id), (4, Bx 92 b4), (6, Bx 90 b6)] [(92, ZYd b4 tYd), (90, YdBox b6 tYd y.now y.seq y.shelf η2 R η9)]) (wk_of [some 92, some 90] (by simp -implicitDefEqProofs only [go_sem] <;> and_intros <;> first | rfl | assumption)) ?_
  refine WkK.of ?_
  have hsl : y.shelf.length = 4 := hP.four
  simp -implicitDefEqProofs only [go_sem]
  refine wp_loopW (fun i : Nat × Heads => St.of [(1, Ni id), (4, Bx 92 b4), (6, Bx 90 b6), (8, Ni i.1)] [(92, ZYd b4 tYd), (90, YdBox b6 tYd y.now y.seq (mapTo (fun l => l.filter (forP id)) y.shelf i.1) i.2 R η9)]) (fun i => i.1 ≤ y.shelf.length) (fun i => y.shelf.length - i.1) (0, η2) (by (try dsimp only); first | omega | (simp; done) | (and_intros <;> first | omega | simp)) (wk_of [some 92, some 90] (by simp -implicitDefEqProofs only [go_sem, mapTo_0] <;> and_intros <;> first | rfl | assumption)) ?_
  rintro ⟨n, η⟩ hn
  dsimp only at hn
  have hml := mapTo_len (f := fun l => List.filter (forP id) l) (l := y.shelf) (i := n)
  by_cases hlt : n < y.shelf.length
  · obtain ⟨l, hl⟩ := get_some hlt
    have hSi := mapTo_get (f := fun l => List.filter (forP id) l) hl
    have hSs := mapTo_set (f := fun l => List.filter (forP id) l) hl
    have hll := shelf2_le ht (List.mem_of_getElem? hl)
    have hwi : IntKind.i64.wrap ((n : Int) + 1) = ((n + 1 : Nat) : Int) := wrap64 (by omega) (by omega)
    have h0i : (n : Int) ≥ 0 := by omega
    generalize hS : mapTo (fun l => List.filter (forP id) l) y.shelf n = S at *
    have hli : n < S.length := by omega
    have hlt' : (n : Int) < S.length := by omega
    simp -implicitDefEqProofs only [go_sem, hlt']
    intro ηe
    refine wp_loopW (fun i : Nat × Heads => St.of [(1, Ni id), (4, Bx 92 b4), (6, Bx 90 b6), (8, Ni n), (9, Hd 9 i.2), (10, Ni i.1)] [(92, ZYd b4 tYd), (90, YdBox b6 tYd y.now y.seq S η R η9), (9, .loose (encEns ((l.take i.1).filter (forP id))) i.2)]) (fun i => i.1 ≤ l.length) (fun i => l.length - i.1) (0, ηe) (by (try dsimp only); first | omega | (simp; done) | (and_intros <;> first | omega | simp)) (wk_of [some 92, some 90, some 5400] (by simp -implicitDefEqProofs only [go_sem, List.take_zero, List.filter_nil, nil_encEns] <;> and_intros <;> first | rfl | assumption)) ?_
    rintro ⟨j, η8⟩ hj
    dsimp only at hj
    by_cases hjt : j < l.length
    · have hjt' : (j : Int) < l.length := by omega
      have h0j : (j : Int) ≥ 0 := by omega
      obtain ⟨e, he⟩ := get_some hjt
      have hwj : IntKind.i64.wrap ((j : Int) + 1) = ((j + 1 : Nat) : Int) := wrap64 (by omega) (by omega)
      have hft := filt_take (forP id) he
      have hFl : ((l.take j).filter (forP id)).length ≤ l.length := Nat.le_trans (List.length_filter_le _ _) (by rw [List.length_take]; omega)
      generalize (l.take j).filter (forP id) = F at *
      have n1 : F.length + 1 ≤ maxLen := by unfold maxLen; omega
      have n2 : (F.length + 1) * 32 ≤ 140737488355328 := by omega
      cases hc2 : e.run != id
      · have hp : forP id e = false := hc2
        rw [hp, if_neg (by decide), List.append_nil] at hft
        simp -implicitDefEqProofs only [go_sem, hli, h0i, Nat.mul_one, at_shf hSi, in_shf hli, get_sh hSi, hjt', hjt, h0j, at_en2 he, in_en2 he, hc2, hwj]
        exact ⟨(j + 1, η8), by (try dsimp only); first | omega | assumption | (and_intros <;> first | omega | assumption), (wk_of [some 92, some 90, some 9] (by simp -implicitDefEqProofs only [go_sem, hft] <;> and_intros <;> first | rfl | assumption)), by (try dsimp only); omega⟩
      · have hp : forP id e = true := hc2
        rw [hp, if_pos rfl] at hft
        simp -implicitDefEqProofs only [go_sem, hli, h0i, Nat.mul_one, at_shf hSi, in_shf hli, get_sh hSi, hjt', hjt, h0j, at_en2 he, in_en2 he, hc2, hwj, at_en he, in_en he, encEn, n1, n2, ens_sn, fold_encEns']
        intro ηx ηy
        exact ⟨(j + 1, ηy), by (try dsimp only); first | omega | assumption | (and_intros <;> first | omega | assumption), (wk_of [some 92, some 90, some 8600] (by simp -implicitDefEqProofs only [go_sem, hft] <;> and_intros <;> first | rfl | assumption)), by (try dsimp only); omega⟩
    · have hjt' : ¬ (j : Int) < l.length := by omega
      obtain rfl : j = l.length := by omega
      rw [List.take_length]
      simp -implicitDefEqProofs only [go_sem, hli, h0i, Nat.mul_one, at_shf hSi, in_shf hli, get_sh hSi, hjt', put_sh1, hSs, hwi]
      refine fun g' hg' => ?_
      exact ⟨(n + 1, g'), by (try dsimp only); first | omega | assumption | (and_intros <;> first | omega | assumption), (wk_of [some 92, some 90] (by simp -implicitDefEqProofs only [go_sem] <;> and_intros <;> first | rfl | assumption)), by (try dsimp only); omega⟩
  · have hlt' : ¬ (n : Int) < (mapTo (fun l => List.filter (forP id) l) y.shelf n).length := by omega
    obtain rfl : n = y.shelf.length := by omega
    simp -implicitDefEqProofs only [go_sem, hlt']
    rw [mapTo_all]
    refine ret2_ _ _ _ _ _ ?_
    simp -implicitDefEqProofs only [go_sem, encYd]
set_option maxHeartbeats 1000000 in
theorem p_ForgC (id : Int) (e : En) : Pure Tryz.prog 87 [.agg (encEn e), .ptr [iv id]] (.c (.val (.bool (!forP id e)))) := by
  refine pure_fn Tryz.func87 code_impl_Forget_1 (by simp) ?_
  unfold c_impl_Forget_1
  have hb : (!forP id e) = (e.run == id) := by simp [forP, bne]
  simp -implicitDefEqProofs only [go_sem, encEn, hb]
set_option maxHeartbeats 16000000 in
theorem p_impl_Forget (y : Yd) (id : Int) (ht : totYd y ≤ 2000000) : Pure Tryz.prog 28 [.agg (encYd y), .c (.val (.int .i64 id))] (.tup [(true, encYd (forgY y id)), (false, [.val (.int .i64 (forgC y id))])]) := by
  refine pure_gn [[1,1,1,1,0], [1,1,1,1,1,0,0]] Tryz.func28 code_impl_Forget (by simp) ?_
  unfold c_impl_Forget
  simp only [C.ghs, C.ghAt, List.foldr]
  simp -implicitDefEqProofs only [go_sem, encYd]
  intro b2 b3 b4
  refine run_call (p_impl_copyYard y ht) (by simp -implicitDefEqProofs only [go_sem, encYd]) fun ηc => ?_
  simp -implicitDefEqProofs only [go_sem, encYd]
  intro b6
  refine run_call (p_impl_RunAt y id) (by simp -implicitDefEqProofs only [go_sem, encYd]) fun η => ?_
  simp -implicitDefEqProofs only [go_sem, encYd]
  refine run_call (p_impl_YardOk y ht) (by simp -implicitDefEqProofs only [go_sem, encYd]) fun η => ?_
  simp -implicitDefEqProofs only [go_sem, encYd]
  cases hok : yardOkB y
  · have hc : forgC y id = 8 := by simp [forgC, hok]
    have hy : forgY y id = y := by rw [forgY, if_neg (by rw [hc]; decide)]
    simp -implicitDefEqProofs only [go_sem, encYd, hok, hc, hy]
    refine ret2_ _ _ _ _ _ ?_
    simp -implicitDefEqProofs only [go_sem, encYd]
  have hP := yard_iff.1 hok
  by_cases hneg : runAt y id < 0
  · have hc : forgC y id = 10 := by rw [forgC, if_neg (by rw [hok]; decide), if_pos hneg]
    have hy : forgY y id = y := by rw [forgY, if_neg (by rw [hc]; decide)]
    simp -implicitDefEqProofs only [go_sem, encYd, hok, hneg, hc, hy]
    refine ret2_ _ _ _ _ _ ?_
    simp -implicitDefEqProofs only [go_sem, encYd]
  obtain ⟨k, r, hrk, hr, hid, h8⟩ := runAt_get hneg
  have hk := (List.getElem?_eq_some_iff.1 hr).1
  have h0k : (k : Int) ≥ 0 := by omega
  have hk0 : ¬ (k : Int) < 0 := by omega
  have hget : ((y.runs[(runAt y id).toNat]?).getD default) = r := by rw [hrk, Int.toNat_natCast, hr, Option.getD_some]
  cases hst : r.state == 1
  rotate_left
  · have hs1 : r.state = 1 := by simpa using hst
    have hc : forgC y id = 13 := by rw [forgC, if_neg (by rw [hok]; decide), if_neg hneg, hget, if_pos hs1]
    have hy : forgY y id = y := by rw [forgY, if_neg (by rw [hc]; decide)]
    simp -implicitDefEqProofs only [go_sem, encYd, hok, hrk, hk0, h0k, hk, elem_encRns hr, encRn, encPl, hst, hc, hy]
    refine ret2_ _ _ _ _ _ ?_
    simp -implicitDefEqProofs only [go_sem, encYd]
  have hs1 : ¬ r.state = 1 := by simpa using hst
  have hc : forgC y id = 0 := by rw [forgC, if_neg (by rw [hok]; decide), if_neg hneg, hget, if_neg hs1]
  rw [hc, forgY, if_pos hc, hrk, Int.toNat_natCast]
  simp -implicitDefEqProofs only [go_sem, encYd, hok, hrk, hk0, h0k, hk, elem_encRns hr, encRn, encPl, hst]
  refine wp_gk ?_
  generalize ηc 2 = η2 at *
  generalize ηc 3 = η3 at *
  refine WkK.wk (s' := St.of [(3, Bx 91 b3), (4, Bx 92 b4), (6, Bx 90 b6), (7, Ni k)] [(91, .box b3 tInt [.a (.v (.int .i64 id))]), (92, ZYd b4 tYd), (90, YdBox b6 tYd y.now y.seq y.shelf η2 y.runs η3)]) (wk_of [some 300, some 400, some 600] (by simp -implicitDefEqProofs only [go_sem, encYd] <;> and_intros <;> first | rfl | assumption)) ?_
  refine wk_cutAll 90 3 y.runs [] 1000000000000 _ η3 rfl (by decide) (fun j hj => by
    show (if j = 91 then _ else if j = 92 then _ else if j = 90 then _ else Ob.none) = Ob.none
    rw [if_neg (by omega), if_neg (by omega), if_neg (by omega)]) fun rows fam η' hcr hη => ?_
  refine WkK.wk (wk_ofF [some 91, some 92, some 90] (T := [(3, Bx 91 b3), (4, Bx 92 b4), (6, Bx 90 b6), (7, Ni k)]) (O := [(91, .box b3 tInt [.a (.v (.int .i64 id))]), (92, ZYd b4 tYd), (90, YdBoxD b6 tYd y.now y.seq y.shelf η2 (.sl 8 tRn rows) η')]) (b := 1000000000000) (fam := fam) (by simp -implicitDefEqProofs only [go_sem] <;> and_intros <;> first | rfl | assumption) (fun j hj => by
    show (if 1000000000000 ≤ j then _ else _) = _
    rw [if_pos hj]) (by decide)) ?_
  refine wk_cut0 90 3 95 (d := .sl 8 tRn rows) (η := η') rfl rfl (by decide) fun hone => ?_
  refine WkK.wk (wk_ofF [some 91, some 92, some 90, some 95] (T := [(3, Bx 91 b3), (4, Bx 92 b4), (6, Bx 90 b6), (7, Ni k)]) (O := [(91, .box b3 tInt [.a (.v (.int .i64 id))]), (92, ZYd b4 tYd), (90, .box b6 tYd [.a (.v (.int .i64 y.now)), .a (.v (.int .i64 y.seq)), .own (encSh y.shelf) η2, .a (.v (η' []))]), (95, .loose (.sl 8 tRn rows) η')]) (b := 1000000000000) (fam := fam) (by simp -implicitDefEqProofs only [go_sem] <;> and_intros <;> first | rfl | assumption) (fun j hj => by
    simp -implicitDefEqProofs only [go_sem]
    repeat rw [if_neg (by omega)]
    rw [if_pos hj]) (by decide)) ?_
  refine WkK.of ?_
  have hrl := hcr.len
  have hfl := hcr.flat
  obtain ⟨hf1, hf2⟩ := flatB_parts hfl (k * 8) ((k + 1) * 8)
  have hdl : (D.sl 8 tRn rows).len = y.runs.length := by
    simp only [D.len, D.cells, D.size, hrl]; exact Nat.mul_div_cancel _ (by decide)
  have hw1 : IntKind.i64.wrap ((k : Int) + 1) = (k : Int) + 1 := wrap64 (by omega) (by omega)
  have hkl2 : k + 1 ≤ y.runs.length := hk
  have hkl3 : k ≤ y.runs.length := by omega
  have h0k1 : ((k + 1 : Nat) : Int) ≥ 0 := by omega
  have htd : List.take ((k + 1 + (y.runs.length - (k + 1)) - (k + 1)) * 8) (List.drop ((k + 1) * 8) rows) = List.drop ((k + 1) * 8) rows := List.take_of_length_le (by rw [List.length_drop, hrl]; omega)
  have hnn : k + 1 + (y.runs.length - (k + 1)) ≤ y.runs.length := by omega
  have hd1 : (List.take (k * 8) rows).length / 8 = k := by rw [List.length_take, hrl, Nat.min_eq_left (by omega)]; exact Nat.mul_div_cancel _ (by decide)
  have hd2 : (List.drop ((k + 1) * 8) rows).length / 8 = y.runs.length - (k + 1) := by
    rw [List.length_drop, hrl, show y.runs.length * 8 - (k + 1) * 8 = (y.runs.length - (k + 1)) * 8 by omega]; exact Nat.mul_div_cancel _ (by decide)
  have m1 : k ≤ maxLen := by unfold maxLen; omega
  have m2 : k * 96 ≤ 140737488355328 := by omega
  have m3 : k + (y.runs.length - (k + 1)) ≤ maxLen := by unfold maxLen; omega
  have m4 : (k + (y.runs.length - (k + 1))) * 96 ≤ 140737488355328 := by omega
  have hf3 : flatB (rows.take (k * 8) ++ rows.drop ((k + 1) * 8)) = true := by rw [flatB_app, hf1, hf2]; rfl
  simp -implicitDefEqProofs only [go_sem, hw1]
  refine run_turn (R := fun rt o' => rt = .c (.sl 8 tRn (rows.take (k * 8) ++ rows.drop ((k + 1) * 8))) ∧ o' 90 = .box b6 tYd [.a (.v (.int .i64 y.now)), .a (.v (.int .i64 y.seq)), .own (encSh y.shelf) η2, .a (.v (η' []))] ∧ o' 91 = .box b3 tInt [.a (.v (.int .i64 id))] ∧ o' 92 = ZYd b4 tYd ∧ ∀ j, 1000000000000 ≤ j → o' j = fam (j - 1000000000000)) (by
    simp -implicitDefEqProofs only [go_sem]
    refine (t_Delete rows y.runs.length k hfl hf3 hrl hk (g := 95) (η := η') (by simp -implicitDefEqProofs only [go_sem])).mono fun rt o' h => ?_
    obtain ⟨h1, rfl⟩ := h
    refine ⟨h1, by simp -implicitDefEqProofs only [go_sem], by simp -implicitDefEqProofs only [go_sem], by simp -implicitDefEqProofs only [go_sem], fun j hj => ?_⟩
    simp -implicitDefEqProofs only [go_sem]
    repeat rw [if_neg (by omega)]
    rw [if_pos hj]) fun rt o' hR η37 => ?_
  obtain ⟨rfl, j90, j91, j92, jF⟩ := hR
  simp -implicitDefEqProofs only [go_sem, j90]
  refine wp_gk ?_
  refine WkK.wk (wk_ofF [some 91, some 92, some 90] (T := [(3, Bx 91 b3), (4, Bx 92 b4), (6, Bx 90 b6)]) (O := [(91, .box b3 tInt [.a (.v (.int .i64 id))]), (92, ZYd b4 tYd), (90, YdBoxD b6 tYd y.now y.seq y.shelf η2 (.sl 8 tRn (rows.take (k * 8) ++ rows.drop ((k + 1) * 8))) (η37 0))]) (b := 1000000000000) (fam := fam) (by simp -implicitDefEqProofs only [go_sem, j90, j91, j92] <;> and_intros <;> first | rfl | assumption) (fun j hj => by
    simp -implicitDefEqProofs only [go_sem]
    repeat rw [if_neg (by omega)]
    exact jF j hj) (by decide)) ?_
  refine WkK.wk (wk_famRen (b := 1000000000000) (fam := fam) (fun j => if j < 2 * k then j else j + 2) (fun i j h => by
    split at h <;> split at h <;> omega) (fun j hj => by
    show (if 1000000000000 ≤ j then _ else _) = _
    rw [if_pos hj])) ?_
  refine wk_graftAll 90 3 (y.runs.eraseIdx k) [] 1000000000000 _ (η37 0) (rows.take (k * 8) ++ rows.drop ((k + 1) * 8)) _ (hcr.erase hk) rfl (by decide) (fun j hj => by
    show (if 1000000000000 ≤ j then _ else _) = _
    rw [if_pos hj]) fun η9 _ => ?_
  generalize y.runs.eraseIdx k = R at *
  refine WkK.wk (s' := St.of [(3, Bx 91 b3), (4, Bx 92 b4), (6, Bx 90 b6)] [(91, .box b3 tInt [.a (.v (.int .i64 id))]), (92, ZYd b4 tYd), (90, YdBox b6 tYd y.now y.seq y.shelf η2 R η9)]) (wk_of [some 91, some 92, some 90] (by simp -implicitDefEqProofs only [go_sem] <;> and_intros <;> first | rfl | assumption)) ?_
  refine WkK.of ?_
  have hsl : y.shelf.length = 4 := hP.four
  simp -implicitDefEqProofs only [go_sem]
  refine wp_loopW (fun i : Nat × Heads => St.of [(3, Bx 91 b3), (4, Bx 92 b4), (6, Bx 90 b6), (41, Ni y.shelf.length), (42, Ni i.1)] [(91, .box b3 tInt [.a (.v (.int .i64 id))]), (92, ZYd b4 tYd), (90, YdBox b6 tYd y.now y.seq (mapTo (fun l => l.filter (forP id)) y.shelf i.1) i.2 R η9)]) (fun i => i.1 ≤ y.shelf.length) (fun i => y.shelf.length - i.1) (0, η2) (by (try dsimp only); first | omega | (simp; done) | (and_intros <;> first | omega | simp)) (wk_of [some 91, some 92, some 90] (by simp -implicitDefEqProofs only [go_sem, mapTo_0] <;> and_intros <;> first | rfl | assumption)) ?_
  rintro ⟨n, η⟩ hnl
  dsimp only at hnl
  have hml := mapTo_len (f := fun l => List.filter (forP id) l) (l := y.shelf) (i := n)
  by_cases hlt : n < y.shelf.length
  · have hlt' : (n : Int) < y.shelf.length := by omega
    obtain ⟨l, hl⟩ := get_some hlt
    have hSi := mapTo_get (f := fun l => List.filter (forP id) l) hl
    have hSs := mapTo_set (f := fun l => List.filter (forP id) l) hl
    have hll := shelf1_le' ht (List.mem_of_getElem? hl)
    have hwn : IntKind.i64.wrap ((n : Int) + 1) = ((n + 1 : Nat) : Int) := wrap64 (by omega) (by omega)
    have h0n : (n : Int) ≥ 0 := by omega
    generalize hS : mapTo (fun l => List.filter (forP id) l) y.shelf n = S at *
    have hn : n < S.length := by omega
    have hi1 := in_shf hn
    have ha1 := at_shf hSi
    simp -implicitDefEqProofs only [go_sem, hlt', hn, h0n, elem_encSh hSi, ha1, hi1, Nat.mul_one]
    refine run_inl (inl_cut ?_)
    refine inl_fn (β := 7000000) Tryz.func86 code_slices_DeleteFunc_impl_Entry_impl_Entry_ (by simp) ?_
    unfold c_slices_DeleteFunc_impl_Entry_impl_Entry_
    simp -implicitDefEqProofs only [go_sem]
    refine run_call (p_IndexFuncEn l _ [iv id] (fun e => !forP id e) (fun x => p_ForgC id x) hll) (by simp -implicitDefEqProofs only [go_sem, get_sh hSi]) fun ηq => ?_
    simp -implicitDefEqProofs only [go_sem]
    have hcut : ∀ (L : List En) (m : Nat), m ≤ L.length → (L.flatMap encEn).take (m * 4) = (L.take m).flatMap encEn := fun L m hm => by
      have e1 : L.flatMap encEn = (L.take m).flatMap encEn ++ (L.drop m).flatMap encEn := by rw [← List.flatMap_append, List.take_append_drop]
      rw [e1, List.take_left' (by rw [len_flat enc4, List.length_take, Nat.min_eq_left hm])]
    rcases findI_cases (fun e => !forP id e) l with ⟨h1, h2⟩ | ⟨i0, x0, h1, h2, h3, h4⟩
    · have hfl : l.filter (forP id) = l := List.filter_eq_self.2 fun e he => by have := h2 e he; simpa using this
      rw [hfl] at hSs
      simp -implicitDefEqProofs only [go_sem, h1, beq_self_eq_true]
      refine ⟨90, 2, n, 777, l.length, 4, tEn, tEnS, l.flatMap encEn, _, η, .inr ⟨rfl, (len_flat enc4 l).symm⟩, by simp -implicitDefEqProofs only [go_sem]; rfl, get_shc hSi, by simp -implicitDefEqProofs only [go_sem], by decide, by decide, by rw [len_flat enc4]; exact Nat.le_refl _, fun η2' η'' hη2 => ?_⟩
      rw [hcut l l.length (Nat.le_refl _), List.take_length]
      simp -implicitDefEqProofs only [go_sem, holeO_, fold_hole, hη2, sl_hole, sz_hole, len_hole, hn, h0n, Nat.mul_one, cells_hole, hi1, put_hole _ l hn, fold_encEns', hwn]
      refine ⟨hn, fun g' hg' => ?_⟩
      exact ⟨(n + 1, g'), by (try dsimp only); first | omega | assumption | (and_intros <;> first | omega | assumption), (wk_of [some 91, some 92, some 90] (by simp -implicitDefEqProofs only [go_sem, holeO_, hSs] <;> and_intros <;> first | rfl | assumption)), by (try dsimp only); omega⟩
    · have hi0 := (List.getElem?_eq_some_iff.1 h2).1
      have hne : ((i0 : Int) == -1) = false := by simp
      have hw0 : IntKind.i64.wrap ((i0 : Int) + 1) = ((i0 + 1 : Nat) : Int) := wrap64 (by omega) (by omega)
      have hset0 := set_same hSi
      simp -implicitDefEqProofs only [go_sem, h1, hne, hw0]
      refine wp_loopW (fun i : Nat × Nat × List En => St.of [(0, .c (.h 90 2 [n] (η [n]))), (1, .fn 87 [.bp 91 0 b3]), (5, Ni i.1), (6, Ni i.2.1)] [(91, .box b3 tInt [.a (.v (.int .i64 id))]), (92, ZYd b4 tYd), (90, YdBox b6 tYd y.now y.seq (S.set n i.2.2) η R η9)]) (fun i => DelI (fun e => !forP id e) l i.2.2 i.1 i.2.1) (fun i => l.length - i.2.1) (i0, i0 + 1, l) (del_0 h2 h3 h4) (wk_of [some 91, some 92, some 90] (by simp -implicitDefEqProofs only [go_sem, hset0] <;> and_intros <;> first | rfl | assumption)) ?_
      rintro ⟨i, j, L⟩ hd
      dsimp only at hd
      have hL : (S.set n L)[n]? = some L := List.getElem?_set_self hn
      have hLl := hd.len
      have hij := hd.ij
      have hjl := hd.jl
      have h0i : (i : Int) ≥ 0 := by omega
      by_cases hjt : j < l.length
      · have hjt' : (j : Int) < l.length := by omega
        have h0j : (j : Int) ≥ 0 := by omega
        obtain ⟨e, he⟩ := get_some hjt
        have heL : L[j]? = some e := by rw [hd.suf j (Nat.le_refl _)]; exact he
        have hiL : i < L.length := by omega
        have hjL : j < L.length := by omega
        obtain ⟨xi, hxi⟩ := get_some hiL
        have hw : IntKind.i64.wrap ((j : Int) + 1) = ((j + 1 : Nat) : Int) := wrap64 (by omega) (by omega)
        have hwi : IntKind.i64.wrap ((i : Int) + 1) = ((i + 1 : Nat) : Int) := wrap64 (by omega) (by omega)
        simp -implicitDefEqProofs only [go_sem, get_sh hL, hLl, hjt, hjt', h0j, at_en heL, in_en heL, encEn]
        intro b7
        refine run_callv (by simp -implicitDefEqProofs only [go_sem]; rfl) (p_ForgC id e) (by simp -implicitDefEqProofs only [go_sem, encEn]) fun η => ?_
        cases hf : forP id e
        · simp -implicitDefEqProofs only [go_sem, encEn, hf, hw]
          exact ⟨(i, j + 1, L), del_no hd he (by simp [hf]), (wk_of [some 91, some 92, some 90] (by simp -implicitDefEqProofs only [go_sem] <;> and_intros <;> first | rfl | assumption)), by (try dsimp only); omega⟩
        · simp -implicitDefEqProofs only [go_sem, encEn, hf, hw, hwi, get_sh hL, hLl, h0i, at_en hxi, in_en hxi, put_shen e hL hiL, List.set_set, (show i < l.length by omega)]
          exact ⟨(i + 1, j + 1, L.set i e), del_yes hd he (by simp [hf]), (wk_of [some 91, some 92, some 90] (by simp -implicitDefEqProofs only [go_sem] <;> and_intros <;> first | rfl | assumption)), by (try dsimp only); omega⟩
      · have hjt' : ¬ (j : Int) < l.length := by omega
        obtain rfl : j = l.length := by omega
        have hde := del_end hd
        have hfe : l.filter (fun e => !!forP id e) = l.filter (forP id) := by simp
        rw [hfe] at hde
        have hin : i ≤ l.length := by omega
        have hpos : 0 < l.length - i := by omega
        have hsum : i + (l.length - i) = l.length := by omega
        have hsum2 : i + (l.length - i) = L.length := by omega
        have hrf : flatB ((List.replicate (l.length - i) zEntry).flatMap encEn) = true := flatB_encEns _
        obtain ⟨L2, hL2⟩ : ∃ L2, L2 = L.take i ++ List.replicate (l.length - i) zEntry := ⟨_, rfl⟩
        have hL2l : L2.length = l.length := by rw [hL2]; simp; omega
        have hL2t : L2.take i = l.filter (forP id) := by rw [hL2, List.take_left' (by rw [List.length_take]; omega), hde]
        have hp2 : D.put [n] (i * 4) ((List.replicate (l.length - i) zEntry).flatMap encEn) (encSh (S.set n L)) = encSh (S.set n L2) := by rw [put_shp hL (clr_en hsum2), List.set_set, hL2]
        have hg2 : (S.set n L2)[n]? = some L2 := List.getElem?_set_self hn
        have hns : n < (S.set n L2).length := by rw [List.length_set]; exact hn
        simp -implicitDefEqProofs only [go_sem, get_sh hL, hLl, hjt', h0i, hin, Nat.le_refl, hpos, hsum, rep_en, flat_part, hrf, hp2, get_sh hg2, hL2l]
        refine ⟨90, 2, n, 777, i, 4, tEn, tEnS, L2.flatMap encEn, _, η, .inl rfl, by simp -implicitDefEqProofs only [go_sem]; rfl, get_shc hg2, by simp -implicitDefEqProofs only [go_sem], by decide, by decide, by rw [len_flat enc4]; omega, fun η2' η'' hη2 => ?_⟩
        rw [hcut L2 i (by omega), hL2t]
        simp -implicitDefEqProofs only [go_sem, holeO_, fold_hole, hη2, sl_hole, sz_hole, len_hole, hns, h0n, Nat.mul_one, cells_hole, put_hole _ (l.filter (forP id)) hns, fold_encEns', List.set_set, List.length_set, hn, hwn]
        refine ⟨hn, fun g' hg' => ?_⟩
        exact ⟨(n + 1, g'), by (try dsimp only); first | omega | assumption | (and_intros <;> first | omega | assumption), (wk_of [some 91, some 92, some 90] (by simp -implicitDefEqProofs only [go_sem, holeO_, hSs] <;> and_intros <;> first | rfl | assumption)), by (try dsimp only); omega⟩
  · have hlt' : ¬ (n : Int) < y.shelf.length := by omega
    obtain rfl : n = y.shelf.length := by omega
    simp -implicitDefEqProofs only [go_sem, hlt']
    rw [mapTo_all]
    refine ret2_ _ _ _ _ _ ?_
    simp -implicitDefEqProofs only [go_sem, encYd]
theorem tsum_le_erase {α : Type} (f : α → Nat) : ∀ (l : List α) (k : Nat), tsum f (l.eraseIdx k) ≤ tsum f l
  | [], _ => by simp [tsum]
  | x :: l, 0 => by simp only [List.eraseIdx_cons_zero, tsum, List.map_cons, List.sum_cons]; omega
  | x :: l, k + 1 => by
    have := tsum_le_erase f l k
    simp only [List.eraseIdx_cons_succ, tsum, List.map_cons, List.sum_cons] at this ⊢
    omega
theorem tot_forg (y : Yd) (id : Int) (ht : totYd y ≤ 2000000) : totYd (forgY y id) ≤ 2000000 := by
  unfold forgY
  split
  · have h1 := tsum_le_erase totRn y.runs (runAt y id).toNat
    have h2 := List.length_eraseIdx_le y.runs (runAt y id).toNat
    have h3 : ∀ l : List (List En), tsum totEnS (l.map fun l => l.filter (forP id)) ≤ tsum totEnS l := by
      intro l
      induction l with
      | nil => exact Nat.le_refl _
      | cons a l ih =>
        have h4 : totEnS (a.filter (forP id)) ≤ totEnS a := List.length_filter_le _ _
        simp only [tsum, List.map_cons, List.sum_cons] at ih ⊢
        omega
    have h5 := h3 y.shelf
    simp only [totYd, totSh, totRns, List.length_map] at ht ⊢
    omega
  · exact ht
end Go.Proofs.YtnhdcbhcocgjhaaGreat
