/- '==' and '!=' of structs of ints, in the engine. -/
import Derived.Test.YtbplebgnkhmemaaGreatProg
import Derived.Test.YtbplebgnkhmemaaGreatAb
import Derived.Laws.StructEq
set_option linter.unusedSimpArgs false
set_option linter.unusedVariables false
namespace Go.Proofs.YtbplebgnkhmemaaGreat
open Go.RowKit Go.Sort
theorem eqr_eq {P : Program} {ty : Nat} {xs ys : List Value} {b : Bool} (h : ∀ w, (Op.equalIn 10000 ty (.agg xs.toArray) (.agg ys.toArray)).run P w = .ok b w) (hg : P.eqGuardType P.depth ty = false) : EqR P .eql ty xs ys b := fun w => ⟨by rw [run_eql_struct, h w]; rfl, fun x y => run_eqGuard_agg _ _ _ _ _ _ _ hg⟩
theorem eqr_ne {P : Program} {ty : Nat} {xs ys : List Value} {b : Bool} (h : ∀ w, (Op.equalIn 10000 ty (.agg xs.toArray) (.agg ys.toArray)).run P w = .ok b w) (hg : P.eqGuardType P.depth ty = false) : EqR P .neq ty xs ys (!b) := fun w => ⟨by rw [run_neq_struct, h w]; rfl, fun x y => run_eqGuard_agg _ _ _ _ _ _ _ hg⟩
theorem w_any : Nonempty World := ⟨default⟩
theorem binK_eqr {P : Program} {d : Option Nat} {s : St} {K : St → Prop} {op : BinOp} {ty : Nat} {l m : List A0} {xs ys : List Value} {b : Bool} (hx : valsOf l = some xs) (hy : valsOf m = some ys) (h : EqR P op ty xs ys b) : binK P d s K op ty (.agg l) (.agg m) = K (s.put d (.c (.v (.bool b)))) := by
  apply propext
  constructor
  · rintro ⟨av, (⟨_, _, _, h1, _⟩ | ⟨l', m', xs', ys', b', h1, h2, h3, h4, h5, rfl⟩), h6⟩
    · cases h1
    · cases h1; cases h2
      rw [hx] at h3; rw [hy] at h4; cases h3; cases h4
      obtain ⟨w⟩ := w_any
      have e1 := (h w).1
      rw [(h5 w).1] at e1
      simp at e1; subst e1; exact h6
  · intro hk
    exact ⟨_, .inr ⟨l, m, xs, ys, b, rfl, rfl, hx, hy, h, rfl⟩, hk⟩

theorem eqInEd (w : World) (x y : Ed) : (Op.equalIn 10000 131 (.agg #[.int .i64 x.src, .int .i64 x.dst]) (.agg #[.int .i64 y.src, .int .i64 y.dst])).run Tryz.prog w = .ok (decide (x = y)) w := by
  have u3 := Tryz.underlying3
  have a3 := Tryz.isAgg3
  have z3 := Tryz.sizeOf3
  rw [show (10000 : Nat) = 9999 + 1 from rfl, run_equalIn_agg w 9999 131 _ _ (by kernel_rfl) (by kernel_rfl)]
  simp only [Program.fieldsOf, Tryz.underlying131]
  obtain ⟨xsrc, xdst⟩ := x
  obtain ⟨ysrc, ydst⟩ := y
  go_simp
  by_cases h0 : xsrc = ysrc <;> by_cases h1 : xdst = ydst <;> simp [h0, h1]
theorem binK_eqEd {d : Option Nat} {s : St} {K : St → Prop} (x y : Ed) : binK Tryz.prog d s K .eql 131 (.agg [.v (.int .i64 x.src), .v (.int .i64 x.dst)]) (.agg [.v (.int .i64 y.src), .v (.int .i64 y.dst)]) = K (s.put d (.c (.v (.bool (decide (x = y)))))) := binK_eqr rfl rfl (eqr_eq (fun w => eqInEd w x y) (by kernel_rfl))
theorem binK_neEd {d : Option Nat} {s : St} {K : St → Prop} (x y : Ed) : binK Tryz.prog d s K .neq 131 (.agg [.v (.int .i64 x.src), .v (.int .i64 x.dst)]) (.agg [.v (.int .i64 y.src), .v (.int .i64 y.dst)]) = K (s.put d (.c (.v (.bool (!decide (x = y)))))) := binK_eqr rfl rfl (eqr_ne (fun w => eqInEd w x y) (by kernel_rfl))
attribute [go_sem] binK_eqEd binK_neEd
theorem eqInEn (w : World) (x y : En) : (Op.equalIn 10000 107 (.agg #[.int .i64 x.prio, .int .i64 x.seq, .int .i64 x.run, .int .i64 x.task]) (.agg #[.int .i64 y.prio, .int .i64 y.seq, .int .i64 y.run, .int .i64 y.task])).run Tryz.prog w = .ok (decide (x = y)) w := by
  have u3 := Tryz.underlying3
  have a3 := Tryz.isAgg3
  have z3 := Tryz.sizeOf3
  rw [show (10000 : Nat) = 9999 + 1 from rfl, run_equalIn_agg w 9999 107 _ _ (by kernel_rfl) (by kernel_rfl)]
  simp only [Program.fieldsOf, Tryz.underlying107]
  obtain ⟨xprio, xseq, xrun, xtask⟩ := x
  obtain ⟨yprio, yseq, yrun, ytask⟩ := y
  go_simp
  by_cases h0 : xprio = yprio <;> by_cases h1 : xseq = yseq <;> by_cases h2 : xrun = yrun <;> by_cases h3 : xtask = ytask <;> simp [h0, h1, h2, h3]
theorem binK_eqEn {d : Option Nat} {s : St} {K : St → Prop} (x y : En) : binK Tryz.prog d s K .eql 107 (.agg [.v (.int .i64 x.prio), .v (.int .i64 x.seq), .v (.int .i64 x.run), .v (.int .i64 x.task)]) (.agg [.v (.int .i64 y.prio), .v (.int .i64 y.seq), .v (.int .i64 y.run), .v (.int .i64 y.task)]) = K (s.put d (.c (.v (.bool (decide (x = y)))))) := binK_eqr rfl rfl (eqr_eq (fun w => eqInEn w x y) (by kernel_rfl))
theorem binK_neEn {d : Option Nat} {s : St} {K : St → Prop} (x y : En) : binK Tryz.prog d s K .neq 107 (.agg [.v (.int .i64 x.prio), .v (.int .i64 x.seq), .v (.int .i64 x.run), .v (.int .i64 x.task)]) (.agg [.v (.int .i64 y.prio), .v (.int .i64 y.seq), .v (.int .i64 y.run), .v (.int .i64 y.task)]) = K (s.put d (.c (.v (.bool (!decide (x = y)))))) := binK_eqr rfl rfl (eqr_ne (fun w => eqInEn w x y) (by kernel_rfl))
attribute [go_sem] binK_eqEn binK_neEn
theorem eqInTk (w : World) (x y : Tk) : (Op.equalIn 10000 75 (.agg #[.int .i64 x.state, .int .i64 x.need, .int .i64 x.tri, .int .i64 x.til]) (.agg #[.int .i64 y.state, .int .i64 y.need, .int .i64 y.tri, .int .i64 y.til])).run Tryz.prog w = .ok (decide (x = y)) w := by
  have u3 := Tryz.underlying3
  have a3 := Tryz.isAgg3
  have z3 := Tryz.sizeOf3
  rw [show (10000 : Nat) = 9999 + 1 from rfl, run_equalIn_agg w 9999 75 _ _ (by kernel_rfl) (by kernel_rfl)]
  simp only [Program.fieldsOf, Tryz.underlying75]
  obtain ⟨xstate, xneed, xtri, xtil⟩ := x
  obtain ⟨ystate, yneed, ytri, ytil⟩ := y
  go_simp
  by_cases h0 : xstate = ystate <;> by_cases h1 : xneed = yneed <;> by_cases h2 : xtri = ytri <;> by_cases h3 : xtil = ytil <;> simp [h0, h1, h2, h3]
theorem binK_eqTk {d : Option Nat} {s : St} {K : St → Prop} (x y : Tk) : binK Tryz.prog d s K .eql 75 (.agg [.v (.int .i64 x.state), .v (.int .i64 x.need), .v (.int .i64 x.tri), .v (.int .i64 x.til)]) (.agg [.v (.int .i64 y.state), .v (.int .i64 y.need), .v (.int .i64 y.tri), .v (.int .i64 y.til)]) = K (s.put d (.c (.v (.bool (decide (x = y)))))) := binK_eqr rfl rfl (eqr_eq (fun w => eqInTk w x y) (by kernel_rfl))
theorem binK_neTk {d : Option Nat} {s : St} {K : St → Prop} (x y : Tk) : binK Tryz.prog d s K .neq 75 (.agg [.v (.int .i64 x.state), .v (.int .i64 x.need), .v (.int .i64 x.tri), .v (.int .i64 x.til)]) (.agg [.v (.int .i64 y.state), .v (.int .i64 y.need), .v (.int .i64 y.tri), .v (.int .i64 y.til)]) = K (s.put d (.c (.v (.bool (!decide (x = y)))))) := binK_eqr rfl rfl (eqr_ne (fun w => eqInTk w x y) (by kernel_rfl))
attribute [go_sem] binK_eqTk binK_neTk
end Go.Proofs.YtbplebgnkhmemaaGreat
