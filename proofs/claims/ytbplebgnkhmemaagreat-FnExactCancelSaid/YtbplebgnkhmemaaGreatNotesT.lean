/- Frames, and notes as one text; both. -/
import Derived.Test.YtbplebgnkhmemaaGreatNoteB
import Derived.Test.YtbplebgnkhmemaaGreatW
import Derived.Laws.Strings
set_option linter.unusedSimpArgs false
set_option linter.unusedVariables false
set_option maxRecDepth 100000
namespace Go.Proofs.YtbplebgnkhmemaaGreat
open Go.RowKit Go.Sort
def c_spec_FourOf : C := .seq (.reg [⟨some 2, none, .mov (.c (.string ⟨⟨[]⟩⟩))⟩]) (.seq (.seq (.reg [⟨some 3, none, .mov (.t 0)⟩, ⟨some 4, none, .call 66 [.t 3, .c (.int .i64 0), .c (.int .i64 4294967295)]⟩, ⟨some 5, none, .un .not (.t 4)⟩]) (.cond (.t 5) (.seq (.reg [⟨some 2, none, .mov (.c (.string ⟨⟨[]⟩⟩))⟩]) .ret) .skip)) (.seq (.reg [⟨some 6, none, .mov (.t 0)⟩, ⟨some 7, none, .bin .quo 3 (.t 6) (.c (.int .i64 16777216))⟩, ⟨some 8, none, .cv (.num .u8) 0 (.t 7)⟩, ⟨some 9, none, .mov (.t 0)⟩, ⟨some 10, none, .bin .quo 3 (.t 9) (.c (.int .i64 65536))⟩, ⟨some 11, none, .bin .rem 3 (.t 10) (.c (.int .i64 256))⟩, ⟨some 12, none, .cv (.num .u8) 0 (.t 11)⟩, ⟨some 13, none, .mov (.t 0)⟩, ⟨some 14, none, .bin .quo 3 (.t 13) (.c (.int .i64 256))⟩, ⟨some 15, none, .bin .rem 3 (.t 14) (.c (.int .i64 256))⟩, ⟨some 16, none, .cv (.num .u8) 0 (.t 15)⟩, ⟨some 17, none, .mov (.t 0)⟩, ⟨some 18, none, .bin .rem 3 (.t 17) (.c (.int .i64 256))⟩, ⟨some 19, none, .cv (.num .u8) 0 (.t 18)⟩, ⟨some 20, none, .bsl 5 1 4 [none, none, none, none] [(0, 1, .t 8), (1, 1, .t 12), (2, 1, .t 16), (3, 1, .t 19)]⟩, ⟨some 21, none, .cv .text 5 (.t 20)⟩, ⟨some 2, none, .mov (.t 21)⟩]) .ret))
theorem code_spec_FourOf : fnC Tryz.prog Tryz.f37 = some (c_spec_FourOf, [.t 2], 22) := by kernel_rfl
def c_impl_FourOf : C := .seq (.reg [⟨some 2, none, .mov (.c (.string ⟨⟨[]⟩⟩))⟩]) (.seq (.seq (.reg [⟨some 3, none, .mov (.t 0)⟩, ⟨some 4, none, .call 42 [.t 3, .c (.int .i64 0), .c (.int .i64 4294967295)]⟩, ⟨some 5, none, .un .not (.t 4)⟩]) (.cond (.t 5) (.seq (.reg [⟨some 2, none, .mov (.c (.string ⟨⟨[]⟩⟩))⟩]) .ret) .skip)) (.seq (.reg [⟨some 6, none, .mov (.t 0)⟩, ⟨some 7, none, .bin .shr 3 (.t 6) (.c (.int .u64 24))⟩, ⟨some 8, none, .cv (.num .u8) 0 (.t 7)⟩, ⟨some 9, none, .mov (.t 0)⟩, ⟨some 10, none, .bin .shr 3 (.t 9) (.c (.int .u64 16))⟩, ⟨some 11, none, .cv (.num .u8) 0 (.t 10)⟩, ⟨some 12, none, .mov (.t 0)⟩, ⟨some 13, none, .bin .shr 3 (.t 12) (.c (.int .u64 8))⟩, ⟨some 14, none, .cv (.num .u8) 0 (.t 13)⟩, ⟨some 15, none, .mov (.t 0)⟩, ⟨some 16, none, .cv (.num .u8) 0 (.t 15)⟩, ⟨some 17, none, .bsl 5 1 4 [none, none, none, none] [(0, 1, .t 8), (1, 1, .t 11), (2, 1, .t 14), (3, 1, .t 16)]⟩, ⟨some 18, none, .cv .text 5 (.t 17)⟩, ⟨some 2, none, .mov (.t 18)⟩]) .ret))
theorem code_impl_FourOf : fnC Tryz.prog Tryz.f43 = some (c_impl_FourOf, [.t 2], 19) := by kernel_rfl
theorem str0 (b : ByteArray) : (b.toList == ByteArray.toList ⟨⟨[]⟩⟩) = decide (b.size = 0) := by
  rw [ByteArray.toList_eq, show ByteArray.toList ⟨⟨[]⟩⟩ = [] from ByteArray.toList_eq _]
  rw [show b.size = b.data.toList.length from by cases b; rfl]
  cases b.data.toList <;> simp
theorem bsize0 {b : ByteArray} (h : b.size = 0) : b = ⟨⟨[]⟩⟩ := by
  obtain ⟨⟨l⟩⟩ := b
  have h' : l.length = 0 := h
  rw [List.eq_nil_of_length_eq_zero h']
/-! ### Four bytes -/
def byteI (v : Int) : UInt8 := UInt8.ofNat (v % 256).toNat
theorem byteI_ (v : Int) : D.val (.int .u8 (IntKind.u8.wrap v)) = byteVal (byteI v) := by
  have h1 : 0 ≤ v % 256 := Int.emod_nonneg _ (by decide)
  have h2 : v % 256 < 256 := Int.emod_lt_of_pos _ (by decide)
  obtain ⟨n, hn⟩ := Int.eq_ofNat_of_zero_le h1
  have hw : IntKind.u8.wrap v = v % 256 := by
    rw [show IntKind.u8.wrap v = v % 2 ^ 8 from by rw [IntKind.wrap_u8]; rfl]; rfl
  rw [hw, byteI, hn, Int.toNat_natCast, byteVal]
  have h3 : n < 256 := by omega
  simp [Nat.mod_eq_of_lt h3]
def fourL (v : Int) : List UInt8 := [byteI (v / 16777216), byteI (v / 65536), byteI (v / 256), byteI v]
def fourS (v : Int) : ByteArray := if 0 ≤ v ∧ v ≤ 4294967295 then ⟨(fourL v).toArray⟩ else ⟨⟨[]⟩⟩
theorem fourS_le (v : Int) : (fourS v).size ≤ 4 := by
  unfold fourS
  split
  · exact Nat.le_refl 4
  · exact Nat.zero_le 4
theorem byteI_mod (v : Int) : byteI (v % 256) = byteI v := by
  unfold byteI; rw [Int.emod_emod_of_dvd _ (Int.dvd_refl 256)]
theorem p_spec_FourOf (v : Int) : Pure Tryz.prog 37 [.c (.val (.int .i64 v))] (.c (.val (.string (fourS v)))) := by
  refine pure_fn Tryz.func37 code_spec_FourOf (by simp) ?_
  unfold c_spec_FourOf
  simp -implicitDefEqProofs only [go_sem]
  refine run_call (p_spec_l01In v 0 4294967295) (by simp -implicitDefEqProofs only [go_sem]) fun η => ?_
  simp -implicitDefEqProofs only [go_sem]
  cases h : decide (0 ≤ v ∧ v ≤ 4294967295)
  · have h' := of_decide_eq_false h
    simp -implicitDefEqProofs only [go_sem, h]
    simp [fourS, h']
  have h' := of_decide_eq_true h
  have q1 : IntKind.i64.wrap (v.tdiv 16777216) = v / 16777216 := by rw [Int.tdiv_eq_ediv_of_nonneg h'.1]; exact wrap64 (by omega) (by omega)
  have q2 : IntKind.i64.wrap (v.tdiv 65536) = v / 65536 := by rw [Int.tdiv_eq_ediv_of_nonneg h'.1]; exact wrap64 (by omega) (by omega)
  have q3 : IntKind.i64.wrap (v.tdiv 256) = v / 256 := by rw [Int.tdiv_eq_ediv_of_nonneg h'.1]; exact wrap64 (by omega) (by omega)
  have r2 : (v / 65536).tmod 256 = v / 65536 % 256 := Int.tmod_eq_emod_of_nonneg (by omega)
  have r3 : (v / 256).tmod 256 = v / 256 % 256 := Int.tmod_eq_emod_of_nonneg (by omega)
  have r4 : v.tmod 256 = v % 256 := Int.tmod_eq_emod_of_nonneg h'.1
  simp -implicitDefEqProofs only [go_sem, h, q1, q2, q3, r2, r3, r4]
  intro η
  refine cvK_text (bs := fourL v) rfl rfl ?_ ?_
  · simp only [fourL, List.map_cons, List.map_nil, byteI_, byteI_mod]
  · simp -implicitDefEqProofs only [go_sem]
    simp [fourS, h']
theorem p_impl_FourOf (v : Int) : Pure Tryz.prog 43 [.c (.val (.int .i64 v))] (.c (.val (.string (fourS v)))) := by
  refine pure_fn Tryz.func43 code_impl_FourOf (by simp) ?_
  unfold c_impl_FourOf
  simp -implicitDefEqProofs only [go_sem]
  refine run_call (p_impl_within v 0 4294967295) (by simp -implicitDefEqProofs only [go_sem]) fun η => ?_
  simp -implicitDefEqProofs only [go_sem]
  cases h : decide (0 ≤ v ∧ v ≤ 4294967295)
  · have h' := of_decide_eq_false h
    simp -implicitDefEqProofs only [go_sem, h]
    simp [fourS, h']
  have h' := of_decide_eq_true h
  have s1 : v.fdiv (2 ^ min 24 64) = v / 16777216 := by rw [show (2 : Int) ^ (min 24 64) = 16777216 from rfl, Int.fdiv_eq_ediv_of_nonneg _ (by decide)]
  have s2 : v.fdiv (2 ^ min 16 64) = v / 65536 := by rw [show (2 : Int) ^ (min 16 64) = 65536 from rfl, Int.fdiv_eq_ediv_of_nonneg _ (by decide)]
  have s3 : v.fdiv (2 ^ min 8 64) = v / 256 := by rw [show (2 : Int) ^ (min 8 64) = 256 from rfl, Int.fdiv_eq_ediv_of_nonneg _ (by decide)]
  simp -implicitDefEqProofs only [go_sem, h, s1, s2, s3]
  intro η
  refine cvK_text (bs := fourL v) rfl rfl ?_ ?_
  · simp only [fourL, List.map_cons, List.map_nil, byteI_, byteI_mod]
  · simp -implicitDefEqProofs only [go_sem]
    simp [fourS, h']
/-! ### One frame -/
def frameS (b : ByteArray) : ByteArray := if 1 ≤ b.size ∧ b.size ≤ 400 then varS b.size ++ fourS (sumS b) ++ b else ⟨⟨[]⟩⟩
theorem frameS_le (b : ByteArray) : (frameS b).size ≤ 409 := by
  unfold frameS
  split
  · have h1 := fourS_le (sumS b)
    have h2 : (varS b.size).size ≤ 5 := varS_le _
    rw [ByteArray.size_append, ByteArray.size_append]; omega
  · exact Nat.zero_le _
/-! ### Frames, one behind the other -/
def stepF (a : Option (List UInt8)) (b : ByteArray) : Option (List UInt8) := match a with
  | none => none
  | some l => if (frameS b).size = 0 ∨ 60000 < l.length + (frameS b).size then none else some (l ++ (frameS b).data.toList)
def outF : Option (List UInt8) → ByteArray
  | none => ⟨⟨[]⟩⟩
  | some l => ⟨l.toArray⟩
def framesS (l : List ByteArray) : ByteArray := outF (l.foldl stepF (some []))
theorem stepF_none (l : List ByteArray) : l.foldl stepF none = none := by
  induction l with
  | nil => rfl
  | cons x l ih => exact ih
theorem framesS_no {l : List ByteArray} {k : Nat} {x : ByteArray} {a : List UInt8} (hx : l[k]? = some x) (ha : (l.take k).foldl stepF (some []) = some a) (h : (frameS x).size = 0 ∨ 60000 < a.length + (frameS x).size) : framesS l = ⟨⟨[]⟩⟩ := by
  have hk := (List.getElem?_eq_some_iff.1 hx).1
  have e : l = l.take (k + 1) ++ l.drop (k + 1) := (List.take_append_drop _ _).symm
  rw [framesS, e, List.foldl_append, foldl_take _ _ hx, ha, stepF, if_pos h, stepF_none]; rfl
theorem stepF_yes {l : List ByteArray} {k : Nat} {x : ByteArray} {a : List UInt8} (hx : l[k]? = some x) (ha : (l.take k).foldl stepF (some []) = some a) (h : ¬ ((frameS x).size = 0 ∨ 60000 < a.length + (frameS x).size)) : (l.take (k + 1)).foldl stepF (some []) = some (a ++ (frameS x).data.toList) := by
  rw [foldl_take _ _ hx, ha, stepF, if_neg h]
abbrev encBs (l : List UInt8) : D := .sl 1 5 (l.map byteVal)
theorem app_encBs (l m : List UInt8) : D.sl 1 5 (l.map byteVal ++ m.map byteVal) = encBs (l ++ m) := by simp [encBs]
theorem len_encBs (l : List UInt8) : (encBs l).len = l.length := by simp [D.len, D.cells, D.size]
/-! ### Notes as one text -/
def notesS (l : List Nt) : ByteArray := if 400 < l.length then ⟨⟨[]⟩⟩ else framesS (l.map noteS)
theorem stepF_zero : ∀ {l : List ByteArray} {x : ByteArray}, x ∈ l → (frameS x).size = 0 → ∀ a, l.foldl stepF a = none
  | [], _, h, _, _ => by simp at h
  | y :: l, x, h, h0, a => by
    rw [List.foldl_cons]
    rcases List.mem_cons.1 h with rfl | h
    · have : stepF a x = none := by
        cases a with
        | none => rfl
        | some a => rw [stepF, if_pos (.inl h0)]
      rw [this, stepF_none]
    · exact stepF_zero h h0 _
theorem framesS_zero {l : List ByteArray} {x : ByteArray} (h : x ∈ l) (h0 : x.size = 0) : framesS l = ⟨⟨[]⟩⟩ := by
  rw [framesS, stepF_zero h (by unfold frameS; rw [if_neg (by omega)]; rfl)]; rfl
theorem nt1_le {l : List Nt} (ht : totNts l ≤ 2000000) {n : Nt} (h : n ∈ l) : totNt n ≤ 2000000 := by
  obtain ⟨k, hk, rfl⟩ := List.getElem_of_mem h
  have h1 := List.getElem?_eq_getElem hk
  have h2 := tsum_succ (tot := totNt) h1
  have h3 := tsum_le totNt l (k + 1)
  simp only [totNts] at ht
  omega
theorem noteS_le (n : Nt) : (noteS n).size ≤ 400 := by
  unfold noteS
  split
  · unfold cutS
    split
    · exact Nat.zero_le _
    · omega
  · exact Nat.zero_le _
end Go.Proofs.YtbplebgnkhmemaaGreat
