/- Texts for laws: DatM. -/
import Derived.Test.YtnhdcbhcocgjhaaGreatQCopy
import Derived.Test.YtnhdcbhcocgjhaaGreatQDatZ
set_option linter.unusedSimpArgs false
set_option linter.unusedVariables false
set_option maxRecDepth 100000
namespace Go.Proofs.YtnhdcbhcocgjhaaGreat
open Go.RowKit Go.Sort
def c_laws_markText : C := .seq (.reg [⟨some 2, none, .mov (.c (.string ⟨⟨[]⟩⟩))⟩]) (.seq (.seq (.reg [⟨some 4, none, .mov (.t 0)⟩, ⟨some 5, none, .bin .leq 3 (.t 4) (.c (.int .i64 0))⟩]) (.cond (.t 5) (.seq (.reg [⟨some 2, none, .mov (.c (.string ⟨⟨[109, 48]⟩⟩))⟩]) .ret) .skip)) (.seq (.reg [⟨some 3, none, .mov (.c (.string ⟨⟨[]⟩⟩))⟩]) (.seq (.blk 0 (.loop (.seq (.seq (.reg [⟨some 6, none, .mov (.t 0)⟩, ⟨some 7, none, .bin .gtr 3 (.t 6) (.c (.int .i64 0))⟩]) (.cond (.t 7) .skip (.exit 0))) (.blk 1 (.seq (.reg [⟨some 8, none, .mov (.t 0)⟩, ⟨some 9, none, .bin .rem 3 (.t 8) (.c (.int .i64 10))⟩, ⟨some 10, none, .bin .add 3 (.c (.int .i64 48)) (.t 9)⟩, ⟨some 11, none, .cv (.num .u8) 0 (.t 10)⟩, ⟨some 12, none, .bsl 5 1 1 [none] [(0, 1, .t 11)]⟩, ⟨some 13, none, .cv .text 5 (.t 12)⟩, ⟨some 14, none, .mov (.t 3)⟩, ⟨some 15, none, .bin .add 9 (.t 13) (.t 14)⟩, ⟨some 3, none, .mov (.t 15)⟩]) (.reg [⟨some 16, none, .mov (.t 0)⟩, ⟨some 17, none, .bin .quo 3 (.t 16) (.c (.int .i64 10))⟩, ⟨some 0, none, .mov (.t 17)⟩])))))) (.seq (.reg [⟨some 18, none, .mov (.t 3)⟩, ⟨some 19, none, .bin .add 9 (.c (.string ⟨⟨[109]⟩⟩)) (.t 18)⟩, ⟨some 2, none, .mov (.t 19)⟩]) .ret))))
theorem code_laws_markText : fnC Tryz.prog Tryz.f190 = some (c_laws_markText, [.t 2], 20) := by kernel_rfl
def c_laws_heldFileS : C := .seq (.reg [⟨some 4, none, .mov (.c (.int .i64 0))⟩]) (.seq (.seq (.reg [⟨some 5, none, .mov (.c (.int .i64 0))⟩]) (.blk 0 (.loop (.seq (.seq (.reg [⟨some 6, none, .mov (.t 5)⟩, ⟨some 7, none, .mov (.t 0)⟩, ⟨some 8, none, .len false (.t 7)⟩, ⟨some 9, none, .bin .lss 3 (.t 6) (.t 8)⟩]) (.cond (.t 9) .skip (.exit 0))) (.seq (.blk 1 (.seq (.seq (.dreg (T.pure 0 ⟨some 12, none, .mov (.t 0)⟩ (T.pure 1 ⟨some 13, none, .mov (.t 5)⟩ (T.pure 2 ⟨some 14, none, .ia 3 (.t 12) (.t 13)⟩ (T.pure 3 ⟨some 15, none, .fa 0 (.t 14)⟩ (T.pure 4 ⟨some 16, none, .ld false 1 (.t 15)⟩ (T.pure 5 ⟨some 17, none, .mov (.t 1)⟩ (T.alt ⟨some 18, none, .call 190 [.t 17]⟩ [4, 3, 2, 1, 0] (T.pure 7 ⟨some 19, none, .bin .neq 9 (.t 16) (.t 18)⟩ T.done) T.stop)))))))) (.cond (.t 19) (.seq (.reg [⟨some 4, none, .mov (.c (.int .i64 (-1)))⟩]) .ret) .skip)) (.seq (.reg [⟨some 20, none, .mov (.t 1)⟩, ⟨some 21, none, .bin .add 3 (.t 20) (.c (.int .i64 1))⟩, ⟨some 1, none, .mov (.t 21)⟩]) (.seq (.seq (.dreg (T.pure 0 ⟨some 22, none, .mov (.t 0)⟩ (T.pure 1 ⟨some 23, none, .mov (.t 5)⟩ (T.pure 2 ⟨some 24, none, .ia 3 (.t 22) (.t 23)⟩ (T.pure 3 ⟨some 25, none, .fa 1 (.t 24)⟩ (T.pure 4 ⟨some 26, none, .ld false 1 (.t 25)⟩ (T.pure 5 ⟨some 27, none, .mov (.t 1)⟩ (T.alt ⟨some 28, none, .call 190 [.t 27]⟩ [4, 3, 2, 1, 0] (T.pure 7 ⟨some 29, none, .bin .neq 9 (.t 26) (.t 28)⟩ T.done) T.stop)))))))) (.cond (.t 29) (.seq (.reg [⟨some 4, none, .mov (.c (.int .i64 (-1)))⟩]) .ret) .skip)) (.seq (.reg [⟨some 30, none, .mov (.t 1)⟩, ⟨some 31, none, .bin .add 3 (.t 30) (.c (.int .i64 1))⟩, ⟨some 1, none, .mov (.t 31)⟩]) (.seq (.seq (.reg [⟨some 32, none, .mov (.t 0)⟩, ⟨some 33, none, .mov (.t 5)⟩, ⟨some 34, none, .ia 3 (.t 32) (.t 33)⟩, ⟨some 35, none, .fa 2 (.t 34)⟩, ⟨some 36, none, .ld false 1 (.t 35)⟩, ⟨some 37, none, .mov (.t 1)⟩, ⟨some 38, none, .bin .neq 3 (.t 36) (.t 37)⟩]) (.cond (.t 38) (.seq (.reg [⟨some 4, none, .mov (.c (.int .i64 (-1)))⟩]) .ret) .skip)) (.reg [⟨some 39, none, .mov (.t 1)⟩, ⟨some 40, none, .bin .add 3 (.t 39) (.c (.int .i64 1))⟩, ⟨some 1, none, .mov (.t 40)⟩]))))))) (.reg [⟨some 10, none, .mov (.t 5)⟩, ⟨some 11, none, .bin .add 3 (.t 10) (.c (.int .i64 1))⟩, ⟨some 5, none, .mov (.t 11)⟩])))))) (.seq (.reg [⟨some 41, none, .mov (.t 1)⟩, ⟨some 4, none, .mov (.t 41)⟩]) .ret))
theorem code_laws_heldFileS : fnC Tryz.prog Tryz.f158 = some (c_laws_heldFileS, [.t 4], 42) := by kernel_rfl
def c_laws_heldDisk : C := .seq (.reg [⟨some 2, none, .box 57 1 (.t 0)⟩, ⟨some 4, none, .mov (.c (.int .i64 0))⟩]) (.seq (.reg [⟨some 5, none, .fa 0 (.t 2)⟩, ⟨some 6, none, .ld false 1 (.t 5)⟩, ⟨some 7, none, .mov (.t 1)⟩, ⟨some 8, none, .call 158 [.t 6, .t 7]⟩, ⟨some 1, none, .mov (.t 8)⟩]) (.seq (.seq (.reg [⟨some 9, none, .mov (.t 1)⟩, ⟨some 10, none, .bin .lss 3 (.t 9) (.c (.int .i64 0))⟩]) (.cond (.t 10) (.seq (.reg [⟨some 4, none, .mov (.c (.int .i64 (-1)))⟩]) .ret) .skip)) (.seq (.reg [⟨some 11, none, .mov (.t 1)⟩, ⟨some 4, none, .mov (.t 11)⟩]) .ret)))
theorem code_laws_heldDisk : fnC Tryz.prog Tryz.f98 = some (c_laws_heldDisk, [.t 4], 12) := by kernel_rfl
def c_laws_heldWaitS : C := .seq (.reg [⟨some 4, none, .mov (.c (.int .i64 0))⟩]) (.seq (.seq (.reg [⟨some 5, none, .mov (.c (.int .i64 0))⟩]) (.blk 0 (.loop (.seq (.seq (.reg [⟨some 6, none, .mov (.t 5)⟩, ⟨some 7, none, .mov (.t 0)⟩, ⟨some 8, none, .len false (.t 7)⟩, ⟨some 9, none, .bin .lss 3 (.t 6) (.t 8)⟩]) (.cond (.t 9) .skip (.exit 0))) (.seq (.blk 1 (.seq (.seq (.reg [⟨some 12, none, .mov (.t 0)⟩, ⟨some 13, none, .mov (.t 5)⟩, ⟨some 14, none, .ia 5 (.t 12) (.t 13)⟩, ⟨some 15, none, .fa 0 (.t 14)⟩, ⟨some 16, none, .ld false 1 (.t 15)⟩, ⟨some 17, none, .mov (.t 1)⟩, ⟨some 18, none, .bin .neq 3 (.t 16) (.t 17)⟩]) (.cond (.t 18) (.seq (.reg [⟨some 4, none, .mov (.c (.int .i64 (-1)))⟩]) .ret) .skip)) (.seq (.reg [⟨some 19, none, .mov (.t 1)⟩, ⟨some 20, none, .bin .add 3 (.t 19) (.c (.int .i64 1))⟩, ⟨some 1, none, .mov (.t 20)⟩]) (.seq (.seq (.reg [⟨some 21, none, .mov (.t 0)⟩, ⟨some 22, none, .mov (.t 5)⟩, ⟨some 23, none, .ia 5 (.t 21) (.t 22)⟩, ⟨some 24, none, .fa 1 (.t 23)⟩, ⟨some 25, none, .fa 0 (.t 24)⟩, ⟨some 26, none, .ld false 1 (.t 25)⟩, ⟨some 27, none, .mov (.t 1)⟩, ⟨some 28, none, .bin .neq 3 (.t 26) (.t 27)⟩]) (.cond (.t 28) (.seq (.reg [⟨some 4, none, .mov (.c (.int .i64 (-1)))⟩]) .ret) .skip)) (.seq (.reg [⟨some 29, none, .mov (.t 1)⟩, ⟨some 30, none, .bin .add 3 (.t 29) (.c (.int .i64 1))⟩, ⟨some 1, none, .mov (.t 30)⟩]) (.seq (.seq (.reg [⟨some 31, none, .mov (.t 0)⟩, ⟨some 32, none, .mov (.t 5)⟩, ⟨some 33, none, .ia 5 (.t 31) (.t 32)⟩, ⟨some 34, none, .fa 1 (.t 33)⟩, ⟨some 35, none, .fa 1 (.t 34)⟩, ⟨some 36, none, .ld false 1 (.t 35)⟩, ⟨some 37, none, .mov (.t 1)⟩, ⟨some 38, none, .bin .neq 3 (.t 36) (.t 37)⟩]) (.cond (.t 38) (.seq (.reg [⟨some 4, none, .mov (.c (.int .i64 (-1)))⟩]) .ret) .skip)) (.seq (.reg [⟨some 39, none, .mov (.t 1)⟩, ⟨some 40, none, .bin .add 3 (.t 39) (.c (.int .i64 1))⟩, ⟨some 1, none, .mov (.t 40)⟩]) (.seq (.seq (.reg [⟨some 41, none, .mov (.t 0)⟩, ⟨some 42, none, .mov (.t 5)⟩, ⟨some 43, none, .ia 5 (.t 41) (.t 42)⟩, ⟨some 44, none, .fa 1 (.t 43)⟩, ⟨some 45, none, .fa 2 (.t 44)⟩, ⟨some 46, none, .ld false 1 (.t 45)⟩, ⟨some 47, none, .mov (.t 1)⟩, ⟨some 48, none, .bin .neq 3 (.t 46) (.t 47)⟩]) (.cond (.t 48) (.seq (.reg [⟨some 4, none, .mov (.c (.int .i64 (-1)))⟩]) .ret) .skip)) (.seq (.reg [⟨some 49, none, .mov (.t 1)⟩, ⟨some 50, none, .bin .add 3 (.t 49) (.c (.int .i64 1))⟩, ⟨some 1, none, .mov (.t 50)⟩]) (.seq (.seq (.reg [⟨some 51, none, .mov (.t 0)⟩, ⟨some 52, none, .mov (.t 5)⟩, ⟨some 53, none, .ia 5 (.t 51) (.t 52)⟩, ⟨some 54, none, .fa 1 (.t 53)⟩, ⟨some 55, none, .fa 3 (.t 54)⟩, ⟨some 56, none, .ld false 1 (.t 55)⟩, ⟨some 57, none, .mov (.t 1)⟩, ⟨some 58, none, .bin .neq 3 (.t 56) (.t 57)⟩]) (.cond (.t 58) (.seq (.reg [⟨some 4, none, .mov (.c (.int .i64 (-1)))⟩]) .ret) .skip)) (.reg [⟨some 59, none, .mov (.t 1)⟩, ⟨some 60, none, .bin .add 3 (.t 59) (.c (.int .i64 1))⟩, ⟨some 1, none, .mov (.t 60)⟩]))))))))))) (.reg [⟨some 10, none, .mov (.t 5)⟩, ⟨some 11, none, .bin .add 3 (.t 10) (.c (.int .i64 1))⟩, ⟨some 5, none, .mov (.t 11)⟩])))))) (.seq (.reg [⟨some 61, none, .mov (.t 1)⟩, ⟨some 4, none, .mov (.t 61)⟩]) .ret))
theorem code_laws_heldWaitS : fnC Tryz.prog Tryz.f40 = some (c_laws_heldWaitS, [.t 4], 62) := by kernel_rfl
def c_laws_heldEngine : C := .seq (.reg [⟨some 2, none, .box 60 10 (.t 0)⟩, ⟨some 4, none, .mov (.c (.int .i64 0))⟩]) (.seq (.reg [⟨some 5, none, .fa 0 (.t 2)⟩, ⟨some 6, none, .ld true 4 (.t 5)⟩, ⟨some 7, none, .mov (.t 1)⟩, ⟨some 8, none, .call 17 [.t 6, .t 7]⟩, ⟨some 1, none, .mov (.t 8)⟩]) (.seq (.seq (.reg [⟨some 9, none, .mov (.t 1)⟩, ⟨some 10, none, .bin .lss 3 (.t 9) (.c (.int .i64 0))⟩]) (.cond (.t 10) (.seq (.reg [⟨some 4, none, .mov (.c (.int .i64 (-1)))⟩]) .ret) .skip)) (.seq (.reg [⟨some 11, none, .fa 4 (.t 2)⟩, ⟨some 12, none, .ld true 1 (.t 11)⟩, ⟨some 13, none, .mov (.t 1)⟩, ⟨some 14, none, .call 98 [.t 12, .t 13]⟩, ⟨some 1, none, .mov (.t 14)⟩]) (.seq (.seq (.reg [⟨some 15, none, .mov (.t 1)⟩, ⟨some 16, none, .bin .lss 3 (.t 15) (.c (.int .i64 0))⟩]) (.cond (.t 16) (.seq (.reg [⟨some 4, none, .mov (.c (.int .i64 (-1)))⟩]) .ret) .skip)) (.seq (.reg [⟨some 17, none, .fa 7 (.t 2)⟩, ⟨some 18, none, .ld false 1 (.t 17)⟩, ⟨some 19, none, .mov (.t 1)⟩, ⟨some 20, none, .call 40 [.t 18, .t 19]⟩, ⟨some 1, none, .mov (.t 20)⟩]) (.seq (.seq (.reg [⟨some 21, none, .mov (.t 1)⟩, ⟨some 22, none, .bin .lss 3 (.t 21) (.c (.int .i64 0))⟩]) (.cond (.t 22) (.seq (.reg [⟨some 4, none, .mov (.c (.int .i64 (-1)))⟩]) .ret) .skip)) (.seq (.reg [⟨some 23, none, .mov (.t 1)⟩, ⟨some 4, none, .mov (.t 23)⟩]) .ret)))))))
theorem code_laws_heldEngine : fnC Tryz.prog Tryz.f35 = some (c_laws_heldEngine, [.t 4], 24) := by kernel_rfl
def digF (n : Nat) (out : ByteArray) : ByteArray := if h : n = 0 then out else digF (n / 10) (⟨⟨[UInt8.ofNat (48 + n % 10)]⟩⟩ ++ out)
termination_by n
decreasing_by omega
def mtS (k : Int) : ByteArray := if k ≤ 0 then ⟨⟨[109, 48]⟩⟩ else ⟨⟨[109]⟩⟩ ++ digF k.toNat ⟨⟨[]⟩⟩
theorem tdiv10 (v : Nat) : Int.tdiv (v : Int) 10 = ((v / 10 : Nat) : Int) := rfl
theorem tmod10 (v : Nat) : Int.tmod (v : Int) 10 = ((v % 10 : Nat) : Int) := rfl
theorem bsz_app (a b : ByteArray) : (a ++ b).size = a.size + b.size := ByteArray.size_append
theorem p_markText (k : Int) (hk : k ≤ 1000000000) : Pure Tryz.prog 190 [.c (.val (.int .i64 k))] (.c (.val (.string (mtS k)))) := by
  refine pure_fn Tryz.func190 code_laws_markText (by simp) ?_
  unfold c_laws_markText mtS
  by_cases h0 : k ≤ 0
  · simp -implicitDefEqProofs only [go_sem, h0]
  obtain ⟨K, rfl⟩ := Int.eq_ofNat_of_zero_le (by omega : 0 ≤ k)
  rw [Int.toNat_natCast]
  simp -implicitDefEqProofs only [go_sem, h0]
  have hz : (ByteArray.mk ⟨[]⟩).size = 0 := rfl
  have h1 : (ByteArray.mk ⟨[109]⟩).size = 1 := rfl
  refine wp_loopW (fun i : Nat × ByteArray => St.of [(0, Ni i.1), (3, .c (.v (.string i.2)))] []) (fun i => digF i.1 i.2 = digF K ⟨⟨[]⟩⟩ ∧ i.1 + i.2.size ≤ K) (fun i => i.1) (K, ⟨⟨[]⟩⟩) (⟨rfl, by rw [hz]; omega⟩) (wk_of [] (by simp -implicitDefEqProofs only [go_sem] <;> and_intros <;> first | rfl | assumption)) ?_
  rintro ⟨n, out⟩ ⟨hd, hn⟩
  dsimp only at hd hn
  by_cases hlt : n = 0
  · have hlt' : ¬ (n : Int) > 0 := by omega
    rw [digF, dif_pos hlt] at hd
    have hm : 1 + out.size ≤ maxLen := by unfold maxLen; omega
    rw [← hd]
    simp -implicitDefEqProofs only [go_sem, hlt', h1, hm]
  · have hlt' : (n : Int) > 0 := by omega
    rw [digF, dif_neg hlt] at hd
    have hw : IntKind.i64.wrap (48 + ((n % 10 : Nat) : Int)) = ((48 + n % 10 : Nat) : Int) := by rw [wrap64 (by omega) (by omega)]; omega
    have hw2 : IntKind.i64.wrap ((n / 10 : Nat) : Int) = ((n / 10 : Nat) : Int) := wrap64 (by omega) (by omega)
    have hb := byte_ (v := 48 + n % 10) (by omega)
    generalize hc : UInt8.ofNat (48 + n % 10) = c at *
    have hs1 : (ByteArray.mk ⟨[c]⟩).size = 1 := rfl
    simp -implicitDefEqProofs only [go_sem, hlt', tmod10, tdiv10, hw, hw2]
    intro η2
    refine cvK_text (bs := [c]) rfl rfl (by simp -implicitDefEqProofs only [go_sem, hb, List.map_cons, List.map_nil]) ?_
    have hm : 1 + out.size ≤ maxLen := by unfold maxLen; omega
    simp -implicitDefEqProofs only [go_sem, hs1, hm, hw2, tdiv10]
    exact ⟨(n / 10, ⟨⟨[c]⟩⟩ ++ out), ⟨hd, by rw [bsz_app, hs1]; omega⟩, (wk_of [] (by simp -implicitDefEqProofs only [go_sem] <;> and_intros <;> first | rfl | assumption)), by (try dsimp only); omega⟩
def mkF (k : Int) (j : Nat) : Fl := ⟨mtS (k + 3 * j), mtS (k + 3 * j + 1), k + 3 * j + 2⟩
def mkFls (l : List Fl) (k : Int) : List Fl := (List.range l.length).map (mkF k)
def mkW (k : Int) (j : Nat) : Wt := ⟨k + 5 * j, k + 5 * j + 1, k + 5 * j + 2, k + 5 * j + 3, k + 5 * j + 4⟩
def mkWts (l : List Wt) (k : Int) : List Wt := (List.range l.length).map (mkW k)
theorem mkFls_len (l : List Fl) (k : Int) : (mkFls l k).length = l.length := by simp [mkFls]
theorem mkWts_len (l : List Wt) (k : Int) : (mkWts l k).length = l.length := by simp [mkWts]
theorem mkFls_get {l : List Fl} {k : Int} {j : Nat} (h : j < l.length) : (mkFls l k)[j]? = some (mkF k j) := by simp [mkFls, h]
theorem mkWts_get {l : List Wt} {k : Int} {j : Nat} (h : j < l.length) : (mkWts l k)[j]? = some (mkW k j) := by simp [mkWts, h]
theorem p_heldFileS (l : List Fl) (k : Int) (h0 : 0 ≤ k) (h1 : k + 3 * (l.length : Int) ≤ 1000000000) : Pure Tryz.prog 158 [.c (encFls (mkFls l k)), .c (.val (.int .i64 k))] (.c (.val (.int .i64 (k + 3 * (l.length : Int))))) := by
  refine pure_fn Tryz.func158 code_laws_heldFileS (by simp) ?_
  unfold c_laws_heldFileS
  have hlen := mkFls_len l k
  simp -implicitDefEqProofs only [go_sem]
  refine wp_loopW (fun i : Nat => St.of [(0, Ro (encFls (mkFls l k))), (1, Ni (k + 3 * (i : Int))), (5, Ni i)] []) (fun i => i ≤ l.length) (fun i => l.length - i) 0 (by (try dsimp only); first | omega | (simp; done) | (and_intros <;> first | omega | simp)) (wk_of [] (by simp -implicitDefEqProofs only [go_sem, Int.natCast_zero, Int.mul_zero, Int.add_zero] <;> and_intros <;> first | rfl | assumption)) ?_
  intro n hn
  by_cases hlt : n < l.length
  · have hlt' : (n : Int) < l.length := by omega
    have hlt2 : n < (mkFls l k).length := by omega
    have h0k : (n : Int) ≥ 0 := by omega
    have ha := mkFls_get (k := k) hlt
    have hw : IntKind.i64.wrap ((n : Int) + 1) = ((n + 1 : Nat) : Int) := wrap64 (by omega) (by omega)
    have w1 : IntKind.i64.wrap (k + 3 * (n : Int) + 1) = k + 3 * (n : Int) + 1 := wrap64 (by omega) (by omega)
    have w2 : IntKind.i64.wrap (k + 3 * (n : Int) + 1 + 1) = k + 3 * (n : Int) + 2 := by rw [wrap64 (by omega) (by omega)]; omega
    have w3 : IntKind.i64.wrap (k + 3 * (n : Int) + 2 + 1) = k + 3 * ((n + 1 : Nat) : Int) := by rw [wrap64 (by omega) (by omega)]; omega
    simp -implicitDefEqProofs only [go_sem, hlen, hlt, hlt', hlt2, h0k, elem_encFls ha, encFl, mkF]
    refine run_call (p_markText (k + 3 * (n : Int)) (by omega)) (by simp -implicitDefEqProofs only [go_sem, hlen, hlt, hlt', hlt2, h0k, elem_encFls ha, encFl, mkF, str_beq, decide_true, Bool.not_true, w1]) fun η => ?_
    simp -implicitDefEqProofs only [go_sem, hlen, hlt, hlt', hlt2, h0k, elem_encFls ha, encFl, mkF, str_beq, decide_true, Bool.not_true, w1]
    refine run_call (p_markText (k + 3 * (n : Int) + 1) (by omega)) (by simp -implicitDefEqProofs only [go_sem, hlen, hlt, hlt', hlt2, h0k, elem_encFls ha, encFl, mkF, str_beq, decide_true, Bool.not_true, w1, w2, w3, bne_self_eq_false, hw]) fun η => ?_
    simp -implicitDefEqProofs only [go_sem, hlen, hlt, hlt', hlt2, h0k, elem_encFls ha, encFl, mkF, str_beq, decide_true, Bool.not_true, w1, w2, w3, bne_self_eq_false, hw]
    exact ⟨n + 1, hlt, (wk_of [] (by simp -implicitDefEqProofs only [go_sem] <;> and_intros <;> first | rfl | assumption)), by (try dsimp only); omega⟩
  · have hlt' : ¬ (n : Int) < l.length := by omega
    obtain rfl : n = l.length := by omega
    simp -implicitDefEqProofs only [go_sem, hlen, hlt']
theorem p_heldDisk (l : List Fl) (k : Int) (h0 : 0 ≤ k) (h1 : k + 3 * (l.length : Int) ≤ 1000000000) : Pure Tryz.prog 98 [.agg [encFls (mkFls l k)], .c (.val (.int .i64 k))] (.c (.val (.int .i64 (k + 3 * (l.length : Int))))) := by
  refine pure_fn Tryz.func98 code_laws_heldDisk (by simp) ?_
  unfold c_laws_heldDisk
  have hn : ¬ (k + 3 * (l.length : Int) < 0) := by omega
  simp -implicitDefEqProofs only [go_sem]
  intros
  refine run_call (p_heldFileS l k h0 h1) (by simp -implicitDefEqProofs only [go_sem, hn]) fun η => ?_
  simp -implicitDefEqProofs only [go_sem, hn]
theorem p_heldWaitS (l : List Wt) (k : Int) (h0 : 0 ≤ k) (h1 : k + 5 * (l.length : Int) ≤ 1000000000) : Pure Tryz.prog 40 [.c (encWts (mkWts l k)), .c (.val (.int .i64 k))] (.c (.val (.int .i64 (k + 5 * (l.length : Int))))) := by
  refine pure_fn Tryz.func40 code_laws_heldWaitS (by simp) ?_
  unfold c_laws_heldWaitS
  have hlen := mkWts_len l k
  simp -implicitDefEqProofs only [go_sem]
  refine wp_loopW (fun i : Nat => St.of [(0, Ro (encWts (mkWts l k))), (1, Ni (k + 5 * (i : Int))), (5, Ni i)] []) (fun i => i ≤ l.length) (fun i => l.length - i) 0 (by (try dsimp only); first | omega | (simp; done) | (and_intros <;> first | omega | simp)) (wk_of [] (by simp -implicitDefEqProofs only [go_sem, Int.natCast_zero, Int.mul_zero, Int.add_zero] <;> and_intros <;> first | rfl | assumption)) ?_
  intro n hn
  by_cases hlt : n < l.length
  · have hlt' : (n : Int) < l.length := by omega
    have hlt2 : n < (mkWts l k).length := by omega
    have h0k : (n : Int) ≥ 0 := by omega
    have ha := mkWts_get (k := k) hlt
    have hw : IntKind.i64.wrap ((n : Int) + 1) = ((n + 1 : Nat) : Int) := wrap64 (by omega) (by omega)
    have w1 : IntKind.i64.wrap (k + 5 * (n : Int) + 1) = k + 5 * (n : Int) + 1 := wrap64 (by omega) (by omega)
    have w2 : IntKind.i64.wrap (k + 5 * (n : Int) + 1 + 1) = k + 5 * (n : Int) + 2 := by rw [wrap64 (by omega) (by omega)]; omega
    have w3 : IntKind.i64.wrap (k + 5 * (n : Int) + 2 + 1) = k + 5 * (n : Int) + 3 := by rw [wrap64 (by omega) (by omega)]; omega
    have w4 : IntKind.i64.wrap (k + 5 * (n : Int) + 3 + 1) = k + 5 * (n : Int) + 4 := by rw [wrap64 (by omega) (by omega)]; omega
    have w5 : IntKind.i64.wrap (k + 5 * (n : Int) + 4 + 1) = k + 5 * ((n + 1 : Nat) : Int) := by rw [wrap64 (by omega) (by omega)]; omega
    simp -implicitDefEqProofs only [go_sem, hlen, hlt, hlt', hlt2, h0k, elem_encWts ha, encWt, mkW, w1, w2, w3, w4, w5, bne_self_eq_false, hw]
    exact ⟨n + 1, hlt, (wk_of [] (by simp -implicitDefEqProofs only [go_sem] <;> and_intros <;> first | rfl | assumption)), by (try dsimp only); omega⟩
  · have hlt' : ¬ (n : Int) < l.length := by omega
    obtain rfl : n = l.length := by omega
    simp -implicitDefEqProofs only [go_sem, hlen, hlt']
end Go.Proofs.YtnhdcbhcocgjhaaGreat
