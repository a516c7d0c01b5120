/- Texts for laws: Ty. -/
import Derived.Test.YtmnpailnelmpiaaGreatQData
import Derived.Test.YtmnpailnelmpiaaGreatRows
namespace Go.Proofs.YtmnpailnelmpiaaGreat
open Go.RowKit

theorem iEd : (Tryz.prog.info? tEd).map (fun i => (i.zero, i.size, i.bytes)) = some (some (.agg #[.int .i64 0, .int .i64 0]), 2, 16) := by kernel_rfl
theorem slEd : SlT Tryz.prog tEdS tEd 2 16 [.int .i64 0, .int .i64 0] := ⟨by kernel_rfl, info_of iEd, rfl, by decide⟩
theorem szEd : (Tryz.prog.info? tEd).map (·.size) = some 2 := by kernel_rfl
theorem iEn : (Tryz.prog.info? tEn).map (fun i => (i.zero, i.size, i.bytes)) = some (some (.agg #[.int .i64 0, .int .i64 0, .int .i64 0, .int .i64 0]), 4, 32) := by kernel_rfl
theorem slEn : SlT Tryz.prog tEnS tEn 4 32 [.int .i64 0, .int .i64 0, .int .i64 0, .int .i64 0] := ⟨by kernel_rfl, info_of iEn, rfl, by decide⟩
theorem szEn : (Tryz.prog.info? tEn).map (·.size) = some 4 := by kernel_rfl
theorem iTk : (Tryz.prog.info? tTk).map (fun i => (i.zero, i.size, i.bytes)) = some (some (.agg #[.int .i64 0, .int .i64 0, .int .i64 0, .int .i64 0]), 4, 32) := by kernel_rfl
theorem slTk : SlT Tryz.prog tTkS tTk 4 32 [.int .i64 0, .int .i64 0, .int .i64 0, .int .i64 0] := ⟨by kernel_rfl, info_of iTk, rfl, by decide⟩
theorem szTk : (Tryz.prog.info? tTk).map (·.size) = some 4 := by kernel_rfl
theorem iEnS : (Tryz.prog.info? tEnS).map (fun i => (i.zero, i.size, i.bytes)) = some (some (.slice none 0 0), 1, 24) := by kernel_rfl
theorem slEnS : SlT Tryz.prog tSh tEnS 1 24 [.slice none 0 0] := ⟨by kernel_rfl, info_of iEnS, rfl, by decide⟩
theorem iRn : (Tryz.prog.info? tRn).map (fun i => (i.zero, i.size, i.bytes)) = some (some (.agg #[.int .i64 0, .int .i64 0, .int .i64 0, .int .i64 0, .int .i64 0, .slice none 0 0, .int .i64 0, .slice none 0 0]), 8, 96) := by kernel_rfl
theorem slRn : SlT Tryz.prog tRnS tRn 8 96 [.int .i64 0, .int .i64 0, .int .i64 0, .int .i64 0, .int .i64 0, .slice none 0 0, .int .i64 0, .slice none 0 0] := ⟨by kernel_rfl, info_of iRn, rfl, by decide⟩
theorem szRn : (Tryz.prog.info? tRn).map (·.size) = some 8 := by kernel_rfl
theorem encEd_one : ∀ (y : Ed), ∀ d ∈ encEd y, d.one := by intro y d hd; simp [encEd] at hd; rcases hd with rfl | rfl <;> trivial
theorem encEn_one : ∀ (y : En), ∀ d ∈ encEn y, d.one := by intro y d hd; simp [encEn] at hd; rcases hd with rfl | rfl | rfl | rfl <;> trivial
theorem encTk_one : ∀ (y : Tk), ∀ d ∈ encTk y, d.one := by intro y d hd; simp [encTk] at hd; rcases hd with rfl | rfl | rfl | rfl <;> trivial
theorem encRn_one : ∀ (y : Rn), ∀ d ∈ encRn y, d.one := by intro y d hd; simp [encRn, encPl, encEds, encTks] at hd; rcases hd with rfl | rfl | rfl | rfl | rfl | rfl | rfl | rfl <;> trivial
theorem zRn (w : World) : RepL w true (encRn ⟨0, ⟨0, 0, 0, 0, []⟩, 0, []⟩) [.int .i64 0, .int .i64 0, .int .i64 0, .int .i64 0, .int .i64 0, .slice none 0 0, .int .i64 0, .slice none 0 0] [] := rn_mk (r := ⟨0, ⟨0, 0, 0, 0, []⟩, 0, []⟩) (Rep.nil_ w 2 tEd) (Rep.nil_ w 4 tTk)
theorem zEn (w : World) : RepL w true (encEn ⟨0, 0, 0, 0⟩) [.int .i64 0, .int .i64 0, .int .i64 0, .int .i64 0] [] := en_mk w true ⟨0, 0, 0, 0⟩
theorem zTk (w : World) : RepL w true (encTk ⟨0, 0, 0, 0⟩) [.int .i64 0, .int .i64 0, .int .i64 0, .int .i64 0] [] := tk_mk w true ⟨0, 0, 0, 0⟩
theorem zEd (w : World) : RepL w true (encEd ⟨0, 0⟩) [.int .i64 0, .int .i64 0] [] := ed_mk w true ⟨0, 0⟩
theorem zEnS (w : World) : RepL w true [encEns []] [.slice none 0 0] [] := RepL.cons_ (Rep.nil_ w 4 tEn) RepL.nil_
end Go.Proofs.YtmnpailnelmpiaaGreat
