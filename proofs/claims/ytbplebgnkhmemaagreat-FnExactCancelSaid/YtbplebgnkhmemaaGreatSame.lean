/- Equality in the program's own words: slices.Equal, EqualFunc, the same.. functions; of both packages. -/
import Derived.Test.YtbplebgnkhmemaaGreatLaw
import Derived.Laws.StructEq
namespace Go.Proofs.YtbplebgnkhmemaaGreat
open Go.RowKit Go.Sort Go.BigFrame

/-- A cell of an old block stays. -/
theorem cto {w w1 : World} {b o : Nat} {v : Value} (hB : Below w.heap.size w w1) (h : w.cell? ⟨b, o, none⟩ = some v) : w1.cell? ⟨b, o, none⟩ = some v :=
  (hB.cell (p := ⟨b, o, none⟩) (World.block_lt_of_cell? w _ h)).trans h

@[go_sem high] theorem equalEd (w : World) (x y : Ed) : (Op.equalIn 10000 131 (.agg #[.int .i64 x.src, .int .i64 x.dst]) (.agg #[.int .i64 y.src, .int .i64 y.dst])).run Tryz.prog w = .ok (decide (x = y)) w := by
  have u3 := Tryz.underlying3
  have a3 := Tryz.isAgg3
  have z3 := Tryz.sizeOf3
  rw [show (10000 : Nat) = 9999 + 1 from rfl, run_equalIn_agg w 9999 131 _ _ (by kernel_rfl) (by kernel_rfl)]
  simp only [Program.fieldsOf, Tryz.underlying131]
  obtain ⟨xsrc, xdst⟩ := x
  obtain ⟨ysrc, ydst⟩ := y
  go_simp
  by_cases h0 : xsrc = ysrc <;> by_cases h1 : xdst = ydst <;> simp [h0, h1]

@[go_sem high] theorem equalEn (w : World) (x y : En) : (Op.equalIn 10000 107 (.agg #[.int .i64 x.prio, .int .i64 x.seq, .int .i64 x.run, .int .i64 x.task]) (.agg #[.int .i64 y.prio, .int .i64 y.seq, .int .i64 y.run, .int .i64 y.task])).run Tryz.prog w = .ok (decide (x = y)) w := by
  have u3 := Tryz.underlying3
  have a3 := Tryz.isAgg3
  have z3 := Tryz.sizeOf3
  rw [show (10000 : Nat) = 9999 + 1 from rfl, run_equalIn_agg w 9999 107 _ _ (by kernel_rfl) (by kernel_rfl)]
  simp only [Program.fieldsOf, Tryz.underlying107]
  obtain ⟨xprio, xseq, xrun, xtask⟩ := x
  obtain ⟨yprio, yseq, yrun, ytask⟩ := y
  go_simp
  by_cases h0 : xprio = yprio <;> by_cases h1 : xseq = yseq <;> by_cases h2 : xrun = yrun <;> by_cases h3 : xtask = ytask <;> simp [h0, h1, h2, h3]

@[go_sem high] theorem equalTk (w : World) (x y : Tk) : (Op.equalIn 10000 75 (.agg #[.int .i64 x.state, .int .i64 x.need, .int .i64 x.tri, .int .i64 x.til]) (.agg #[.int .i64 y.state, .int .i64 y.need, .int .i64 y.tri, .int .i64 y.til])).run Tryz.prog w = .ok (decide (x = y)) w := by
  have u3 := Tryz.underlying3
  have a3 := Tryz.isAgg3
  have z3 := Tryz.sizeOf3
  rw [show (10000 : Nat) = 9999 + 1 from rfl, run_equalIn_agg w 9999 75 _ _ (by kernel_rfl) (by kernel_rfl)]
  simp only [Program.fieldsOf, Tryz.underlying75]
  obtain ⟨xstate, xneed, xtri, xtil⟩ := x
  obtain ⟨ystate, yneed, ytri, ytil⟩ := y
  go_simp
  by_cases h0 : xstate = ystate <;> by_cases h1 : xneed = yneed <;> by_cases h2 : xtri = ytri <;> by_cases h3 : xtil = ytil <;> simp [h0, h1, h2, h3]









end Go.Proofs.YtbplebgnkhmemaaGreat
