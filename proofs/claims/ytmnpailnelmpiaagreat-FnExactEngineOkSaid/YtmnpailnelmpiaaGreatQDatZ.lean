/- Texts for laws: DatZ. -/
import Derived.Test.YtmnpailnelmpiaaGreatQDatP
import Derived.Test.YtmnpailnelmpiaaGreatQShelf
set_option linter.unusedSimpArgs false
set_option linter.unusedVariables false
set_option maxRecDepth 100000
namespace Go.Proofs.YtmnpailnelmpiaaGreat
open Go.RowKit Go.Sort
def c_laws_szFile : C := .seq (.reg [⟨some 2, none, .box 264 3 (.t 0)⟩, ⟨some 4, none, .mov (.c (.int .i64 0))⟩]) (.seq (.reg [⟨some 5, none, .mov (.t 1)⟩, ⟨some 6, none, .fa 0 (.t 2)⟩, ⟨some 7, none, .ld false 1 (.t 6)⟩, ⟨some 8, none, .len true (.t 7)⟩, ⟨some 9, none, .bin .sub 3 (.t 5) (.t 8)⟩, ⟨some 1, none, .mov (.t 9)⟩]) (.seq (.seq (.reg [⟨some 10, none, .mov (.t 1)⟩, ⟨some 11, none, .bin .lss 3 (.t 10) (.c (.int .i64 0))⟩]) (.cond (.t 11) (.seq (.reg [⟨some 4, none, .mov (.c (.int .i64 (-1)))⟩]) .ret) .skip)) (.seq (.reg [⟨some 12, none, .mov (.t 1)⟩, ⟨some 13, none, .fa 1 (.t 2)⟩, ⟨some 14, none, .ld false 1 (.t 13)⟩, ⟨some 15, none, .len true (.t 14)⟩, ⟨some 16, none, .bin .sub 3 (.t 12) (.t 15)⟩, ⟨some 1, none, .mov (.t 16)⟩]) (.seq (.seq (.reg [⟨some 17, none, .mov (.t 1)⟩, ⟨some 18, none, .bin .lss 3 (.t 17) (.c (.int .i64 0))⟩]) (.cond (.t 18) (.seq (.reg [⟨some 4, none, .mov (.c (.int .i64 (-1)))⟩]) .ret) .skip)) (.seq (.reg [⟨some 19, none, .mov (.t 1)⟩, ⟨some 4, none, .mov (.t 19)⟩]) .ret)))))
theorem code_laws_szFile : fnC Tryz.prog Tryz.f238 = some (c_laws_szFile, [.t 4], 20) := by kernel_rfl
def c_laws_szFileS : C := .seq (.reg [⟨some 4, none, .mov (.c (.int .i64 0))⟩]) (.seq (.reg [⟨some 6, none, .mov (.t 1)⟩, ⟨some 7, none, .mov (.t 0)⟩, ⟨some 8, none, .len false (.t 7)⟩, ⟨some 9, none, .bin .sub 3 (.t 6) (.t 8)⟩, ⟨some 1, none, .mov (.t 9)⟩]) (.seq (.seq (.reg [⟨some 10, none, .mov (.t 1)⟩, ⟨some 11, none, .bin .lss 3 (.t 10) (.c (.int .i64 0))⟩]) (.cond (.t 11) (.seq (.reg [⟨some 4, none, .mov (.c (.int .i64 (-1)))⟩]) .ret) .skip)) (.seq (.seq (.reg [⟨some 5, none, .mov (.c (.int .i64 0))⟩]) (.blk 0 (.loop (.seq (.seq (.reg [⟨some 12, none, .mov (.t 5)⟩, ⟨some 13, none, .mov (.t 0)⟩, ⟨some 14, none, .len false (.t 13)⟩, ⟨some 15, none, .bin .lss 3 (.t 12) (.t 14)⟩]) (.cond (.t 15) .skip (.exit 0))) (.seq (.blk 1 (.seq (.reg [⟨some 18, none, .mov (.t 0)⟩, ⟨some 19, none, .mov (.t 5)⟩, ⟨some 20, none, .ia 3 (.t 18) (.t 19)⟩, ⟨some 21, none, .ld true 3 (.t 20)⟩, ⟨some 22, none, .mov (.t 1)⟩, ⟨some 23, none, .call 238 [.t 21, .t 22]⟩, ⟨some 1, none, .mov (.t 23)⟩]) (.seq (.reg [⟨some 24, none, .mov (.t 1)⟩, ⟨some 25, none, .bin .lss 3 (.t 24) (.c (.int .i64 0))⟩]) (.cond (.t 25) (.seq (.reg [⟨some 4, none, .mov (.c (.int .i64 (-1)))⟩]) .ret) .skip)))) (.reg [⟨some 16, none, .mov (.t 5)⟩, ⟨some 17, none, .bin .add 3 (.t 16) (.c (.int .i64 1))⟩, ⟨some 5, none, .mov (.t 17)⟩])))))) (.seq (.reg [⟨some 26, none, .mov (.t 1)⟩, ⟨some 4, none, .mov (.t 26)⟩]) .ret))))
theorem code_laws_szFileS : fnC Tryz.prog Tryz.f149 = some (c_laws_szFileS, [.t 4], 27) := by kernel_rfl
def c_laws_szDisk : C := .seq (.reg [⟨some 2, none, .box 28 1 (.t 0)⟩, ⟨some 4, none, .mov (.c (.int .i64 0))⟩]) (.seq (.reg [⟨some 5, none, .fa 0 (.t 2)⟩, ⟨some 6, none, .ld false 1 (.t 5)⟩, ⟨some 7, none, .mov (.t 1)⟩, ⟨some 8, none, .call 149 [.t 6, .t 7]⟩, ⟨some 1, none, .mov (.t 8)⟩]) (.seq (.seq (.reg [⟨some 9, none, .mov (.t 1)⟩, ⟨some 10, none, .bin .lss 3 (.t 9) (.c (.int .i64 0))⟩]) (.cond (.t 10) (.seq (.reg [⟨some 4, none, .mov (.c (.int .i64 (-1)))⟩]) .ret) .skip)) (.seq (.reg [⟨some 11, none, .mov (.t 1)⟩, ⟨some 4, none, .mov (.t 11)⟩]) .ret)))
theorem code_laws_szDisk : fnC Tryz.prog Tryz.f70 = some (c_laws_szDisk, [.t 4], 12) := by kernel_rfl
def c_laws_szWaitS : C := .seq (.reg [⟨some 4, none, .mov (.c (.int .i64 0))⟩]) (.seq (.reg [⟨some 5, none, .mov (.t 1)⟩, ⟨some 6, none, .mov (.t 0)⟩, ⟨some 7, none, .len false (.t 6)⟩, ⟨some 8, none, .bin .sub 3 (.t 5) (.t 7)⟩, ⟨some 1, none, .mov (.t 8)⟩]) (.seq (.seq (.reg [⟨some 9, none, .mov (.t 1)⟩, ⟨some 10, none, .bin .lss 3 (.t 9) (.c (.int .i64 0))⟩]) (.cond (.t 10) (.seq (.reg [⟨some 4, none, .mov (.c (.int .i64 (-1)))⟩]) .ret) .skip)) (.seq (.reg [⟨some 11, none, .mov (.t 1)⟩, ⟨some 4, none, .mov (.t 11)⟩]) .ret)))
theorem code_laws_szWaitS : fnC Tryz.prog Tryz.f71 = some (c_laws_szWaitS, [.t 4], 12) := by kernel_rfl
def c_laws_szEngine : C := .seq (.reg [⟨some 2, none, .box 31 10 (.t 0)⟩, ⟨some 4, none, .mov (.c (.int .i64 0))⟩]) (.seq (.reg [⟨some 5, none, .fa 0 (.t 2)⟩, ⟨some 6, none, .ld true 4 (.t 5)⟩, ⟨some 7, none, .mov (.t 1)⟩, ⟨some 8, none, .call 28 [.t 6, .t 7]⟩, ⟨some 1, none, .mov (.t 8)⟩]) (.seq (.seq (.reg [⟨some 9, none, .mov (.t 1)⟩, ⟨some 10, none, .bin .lss 3 (.t 9) (.c (.int .i64 0))⟩]) (.cond (.t 10) (.seq (.reg [⟨some 4, none, .mov (.c (.int .i64 (-1)))⟩]) .ret) .skip)) (.seq (.reg [⟨some 11, none, .fa 4 (.t 2)⟩, ⟨some 12, none, .ld true 1 (.t 11)⟩, ⟨some 13, none, .mov (.t 1)⟩, ⟨some 14, none, .call 70 [.t 12, .t 13]⟩, ⟨some 1, none, .mov (.t 14)⟩]) (.seq (.seq (.reg [⟨some 15, none, .mov (.t 1)⟩, ⟨some 16, none, .bin .lss 3 (.t 15) (.c (.int .i64 0))⟩]) (.cond (.t 16) (.seq (.reg [⟨some 4, none, .mov (.c (.int .i64 (-1)))⟩]) .ret) .skip)) (.seq (.reg [⟨some 17, none, .fa 7 (.t 2)⟩, ⟨some 18, none, .ld false 1 (.t 17)⟩, ⟨some 19, none, .mov (.t 1)⟩, ⟨some 20, none, .call 71 [.t 18, .t 19]⟩, ⟨some 1, none, .mov (.t 20)⟩]) (.seq (.seq (.reg [⟨some 21, none, .mov (.t 1)⟩, ⟨some 22, none, .bin .lss 3 (.t 21) (.c (.int .i64 0))⟩]) (.cond (.t 22) (.seq (.reg [⟨some 4, none, .mov (.c (.int .i64 (-1)))⟩]) .ret) .skip)) (.seq (.reg [⟨some 23, none, .mov (.t 1)⟩, ⟨some 4, none, .mov (.t 23)⟩]) .ret)))))))
theorem code_laws_szEngine : fnC Tryz.prog Tryz.f11 = some (c_laws_szEngine, [.t 4], 24) := by kernel_rfl
def szOk (x : Fl) : Prop := x.name.size ≤ 9223372036854775807 ∧ x.data.size ≤ 9223372036854775807
theorem p_szFile (x : Fl) (left : Int) (h0 : 0 ≤ left) (h1 : left ≤ 1048576) (hs : szOk x) : Pure Tryz.prog 238 [.agg (encFl x), .c (.val (.int .i64 left))] (.c (.val (.int .i64 (szf (totFl x) left)))) := by
  refine pure_fn Tryz.func238 code_laws_szFile (by simp) ?_
  unfold c_laws_szFile
  obtain ⟨a, b, c⟩ := x
  obtain ⟨ha, hb⟩ := hs
  dsimp only at ha hb
  have hw : IntKind.i64.wrap (left - (a.size : Int)) = left - (a.size : Int) := wrap64 (by omega) (by omega)
  unfold szf totFl
  simp -implicitDefEqProofs only [go_sem, encFl, hw]
  intros
  by_cases h2 : left - (a.size : Int) < 0
  · have h3 : ¬ (((a.size + b.size : Nat) : Int) ≤ left) := by omega
    simp -implicitDefEqProofs only [go_sem, h2, h3]
  have hw2 : IntKind.i64.wrap (left - (a.size : Int) - (b.size : Int)) = left - (a.size : Int) - (b.size : Int) := wrap64 (by omega) (by omega)
  by_cases h4 : left - (a.size : Int) - (b.size : Int) < 0
  · have h3 : ¬ (((a.size + b.size : Nat) : Int) ≤ left) := by omega
    simp -implicitDefEqProofs only [go_sem, h2, h3, hw2, h4]
  · have h3 : (((a.size + b.size : Nat) : Int) ≤ left) := by omega
    have h5 : left - ((a.size + b.size : Nat) : Int) = left - (a.size : Int) - (b.size : Int) := by omega
    simp -implicitDefEqProofs only [go_sem, h2, h3, hw2, h4, h5]
theorem p_szFileS (x : List Fl) (left : Int) (h0 : 0 ≤ left) (h1 : left ≤ 1048576) (hs : ∀ f ∈ x, szOk f) (hx : x.length ≤ 9223372036854775807) : Pure Tryz.prog 149 [.c (encFls x), .c (.val (.int .i64 left))] (.c (.val (.int .i64 (szf (totFls x) left)))) := by
  refine pure_fn Tryz.func149 code_laws_szFileS (by simp) ?_
  unfold c_laws_szFileS
  have hw : IntKind.i64.wrap (left - (x.length : Int)) = left - (x.length : Int) := wrap64 (by omega) (by omega)
  simp -implicitDefEqProofs only [go_sem, hw]
  by_cases h2 : left - (x.length : Int) < 0
  · have h3 : szf (totFls x) left = -1 := by unfold szf totFls; rw [if_neg (by omega)]
    simp -implicitDefEqProofs only [go_sem, h2, h3]
  simp -implicitDefEqProofs only [go_sem, h2]
  refine wp_loopW (fun i : Nat => St.of [(0, Ro (encFls x)), (1, Ni (left - (x.length : Int) - (tsum totFl (x.take i) : Nat))), (5, Ni i)] []) (fun i => i ≤ x.length ∧ (tsum totFl (x.take i) : Int) ≤ left - x.length) (fun i => x.length - i) 0 (⟨Nat.zero_le _, by simp [tsum]; omega⟩) (wk_of [] (by simp -implicitDefEqProofs only [go_sem, List.take_zero, tsum, List.map_nil, List.sum_nil, Int.natCast_zero, Int.sub_zero] <;> and_intros <;> first | rfl | assumption)) ?_
  rintro k ⟨hk, ht⟩
  by_cases hlt : k < x.length
  · have hlt' : (k : Int) < x.length := by omega
    have h0k : (k : Int) ≥ 0 := by omega
    obtain ⟨a, ha⟩ := get_some hlt
    have hw : IntKind.i64.wrap ((k : Int) + 1) = ((k + 1 : Nat) : Int) := wrap64 (by omega) (by omega)
    have hts := tsum_succ (tot := totFl) ha
    have htl := tsum_le totFl x (k + 1)
    simp -implicitDefEqProofs only [go_sem, hlt, hlt', h0k, elem_encFls ha, encFl]
    refine run_call (p_szFile a (left - (x.length : Int) - (tsum totFl (x.take k) : Nat)) (by omega) (by omega) (hs a (List.mem_of_getElem? ha))) (by simp -implicitDefEqProofs only [go_sem, encFl]) fun η => ?_
    simp -implicitDefEqProofs only [go_sem, encFl]
    rcases szf_spec (totFl a) (left - (x.length : Int) - (tsum totFl (x.take k) : Nat)) with ⟨h4, h5⟩ | ⟨h4, h5⟩
    · have h6 : ¬ (left - (x.length : Int) - (tsum totFl (x.take k) : Nat) - (totFl a : Nat) < 0) := by omega
      have h7 : left - (x.length : Int) - (tsum totFl (x.take k) : Nat) - (totFl a : Nat) = left - (x.length : Int) - (tsum totFl (x.take (k + 1)) : Nat) := by omega
      simp -implicitDefEqProofs only [go_sem, h5, h6, hw]
      rw [h7]
      exact ⟨k + 1, ⟨hlt, by omega⟩, (wk_of [] (by simp -implicitDefEqProofs only [go_sem] <;> and_intros <;> first | rfl | assumption)), by (try dsimp only); omega⟩
    · have h6 : szf (totFls x) left = -1 := by unfold szf totFls; rw [if_neg (by omega)]
      have h7 : ((-1 : Int) < 0) = True := by simp
      simp -implicitDefEqProofs only [go_sem, h5, h6, h7]
  · have hlt' : ¬ (k : Int) < x.length := by omega
    obtain rfl : k = x.length := by omega
    rw [List.take_length] at ht
    have h6 : szf (totFls x) left = left - (x.length : Int) - (tsum totFl x : Nat) := by unfold szf totFls; rw [if_pos (by omega)]; omega
    simp -implicitDefEqProofs only [go_sem, hlt', h6, List.take_length]
theorem p_szDisk (x : List Fl) (left : Int) (h0 : 0 ≤ left) (h1 : left ≤ 1048576) (hs : ∀ f ∈ x, szOk f) (hx : x.length ≤ 9223372036854775807) : Pure Tryz.prog 70 [.agg [encFls x], .c (.val (.int .i64 left))] (.c (.val (.int .i64 (szf (totFls x) left)))) := by
  refine pure_fn Tryz.func70 code_laws_szDisk (by simp) ?_
  unfold c_laws_szDisk
  simp -implicitDefEqProofs only [go_sem]
  intros
  refine run_call (p_szFileS x left h0 h1 hs hx) (by simp -implicitDefEqProofs only [go_sem]) fun η => ?_
  simp -implicitDefEqProofs only [go_sem]
  rcases szf_spec (totFls x) left with ⟨h4, h5⟩ | ⟨h4, h5⟩
  · have h6 : ¬ (left - (totFls x : Nat) < 0) := by omega
    simp -implicitDefEqProofs only [go_sem, h5, h6]
  · have h7 : ((-1 : Int) < 0) = True := by simp
    simp -implicitDefEqProofs only [go_sem, h5, h7]
theorem p_szWaitS (x : List Wt) (left : Int) (h0 : 0 ≤ left) (h1 : left ≤ 1048576) (hx : x.length ≤ 9223372036854775807) : Pure Tryz.prog 71 [.c (encWts x), .c (.val (.int .i64 left))] (.c (.val (.int .i64 (szf x.length left)))) := by
  refine pure_fn Tryz.func71 code_laws_szWaitS (by simp) ?_
  unfold c_laws_szWaitS
  have hw : IntKind.i64.wrap (left - (x.length : Int)) = left - (x.length : Int) := wrap64 (by omega) (by omega)
  rcases szf_spec x.length left with ⟨h4, h5⟩ | ⟨h4, h5⟩
  · have h6 : ¬ (left - (x.length : Int) < 0) := by omega
    simp -implicitDefEqProofs only [go_sem, h5, h6, hw]
  · have h6 : left - (x.length : Int) < 0 := by omega
    simp -implicitDefEqProofs only [go_sem, h5, h6, hw]
theorem p_szEngine (x : Eg) (left : Int) (h0 : 0 ≤ left) (h1 : left ≤ 1048576) (hs : ∀ f ∈ x.disk, szOk f) (hx : x.disk.length ≤ 9223372036854775807) (hw : x.waits.length ≤ 9223372036854775807) : Pure Tryz.prog 11 [.agg (encEg x), .c (.val (.int .i64 left))] (.c (.val (.int .i64 (szf (totEg x) left)))) := by
  refine pure_fn Tryz.func11 code_laws_szEngine (by simp) ?_
  unfold c_laws_szEngine
  have h7 : ((-1 : Int) < 0) = True := by simp
  have hT : totEg x = totYd x.yard + totFls x.disk + x.waits.length := rfl
  simp -implicitDefEqProofs only [go_sem, encEg]
  intros
  refine run_call (p_szYard x.yard left h0 h1) (by simp -implicitDefEqProofs only [go_sem, encYd]) fun η => ?_
  simp -implicitDefEqProofs only [go_sem, encYd]
  rcases szf_spec (totYd x.yard) left with ⟨h4, h5⟩ | ⟨h4, h5⟩
  · have h6 : ¬ (left - (totYd x.yard : Nat) < 0) := by omega
    simp -implicitDefEqProofs only [go_sem, h5, h6]
    refine run_call (p_szDisk x.disk (left - (totYd x.yard : Nat)) (by omega) (by omega) hs hx) (by simp -implicitDefEqProofs only [go_sem]) fun η => ?_
    simp -implicitDefEqProofs only [go_sem]
    rcases szf_spec (totFls x.disk) (left - (totYd x.yard : Nat)) with ⟨h8, h9⟩ | ⟨h8, h9⟩
    · have h10 : ¬ (left - (totYd x.yard : Nat) - (totFls x.disk : Nat) < 0) := by omega
      simp -implicitDefEqProofs only [go_sem, h9, h10]
      refine run_call (p_szWaitS x.waits (left - (totYd x.yard : Nat) - (totFls x.disk : Nat)) (by omega) (by omega) hw) (by simp -implicitDefEqProofs only [go_sem]) fun η => ?_
      simp -implicitDefEqProofs only [go_sem]
      rcases szf_spec x.waits.length (left - (totYd x.yard : Nat) - (totFls x.disk : Nat)) with ⟨h11, h12⟩ | ⟨h11, h12⟩
      · have h13 : ¬ (left - (totYd x.yard : Nat) - (totFls x.disk : Nat) - (x.waits.length : Nat) < 0) := by omega
        have h14 : szf (totEg x) left = left - (totYd x.yard : Nat) - (totFls x.disk : Nat) - (x.waits.length : Nat) := by unfold szf; rw [if_pos (by omega)]; omega
        simp -implicitDefEqProofs only [go_sem, h12, h13, h14]
      · have h14 : szf (totEg x) left = -1 := by unfold szf; rw [if_neg (by omega)]
        simp -implicitDefEqProofs only [go_sem, h12, h7, h14]
    · have h14 : szf (totEg x) left = -1 := by unfold szf; rw [if_neg (by omega)]
      simp -implicitDefEqProofs only [go_sem, h9, h7, h14]
  · have h14 : szf (totEg x) left = -1 := by unfold szf; rw [if_neg (by omega)]
    simp -implicitDefEqProofs only [go_sem, h5, h7, h14]
end Go.Proofs.YtmnpailnelmpiaaGreat
