/- DeedOk, the program's, and what it calls. -/
import Derived.Test.YtbplebgnkhmemaaDeedOk
set_option linter.unusedSimpArgs false
set_option linter.unusedVariables false
set_option maxRecDepth 100000
namespace Go.Proofs.Ytbplebgnkhmemaa
open Go.RowKit Go.Sort
theorem p_sameDeed (x y : Dd) : Pure Try.prog 140 [.agg (encDd x), .agg (encDd y)] (.c (.val (.bool (decide (x = y))))) := pure2 ⟨_, Try.func140, by kernel_rfl, by kernel_rfl⟩ fun w a b ⟨S, ha⟩ ⟨S2, hb⟩ => iSameDeed_c x y a b S S2 w false false ha hb
/-- The numbers of a deed. -/
def numsL (d : Dd) : List Int :=
  if d.kind = 1 then [d.run, d.plan.prio, d.plan.most, d.plan.wait, d.plan.tasks, d.plan.edges.length] ++ d.plan.edges.flatMap fun e => [e.src, e.dst]
  else if d.kind = 2 then [d.worker, d.draw]
  else if d.kind = 3 ∨ d.kind = 4 then [d.run, d.task, d.tri]
  else if d.kind = 6 ∨ d.kind = 7 then [d.run]
  else []
theorem fl_len (l : List Ed) : (l.flatMap fun e => [e.src, e.dst]).length = 2 * l.length := by
  induction l with
  | nil => rfl
  | cons x l ih => simp only [List.flatMap_cons, List.length_append, ih, List.length_cons, List.length_nil]; omega
set_option maxHeartbeats 4000000 in
theorem p_deedNumbers (d : Dd) (hb : totDd d ≤ 2000000) : Pure Try.prog 101 [.agg (encDd d)] (.c (encInts (numsL d))) := by
  refine pure_fn Try.func101 code_impl_deedNumbers (by simp) ?_
  unfold c_impl_deedNumbers
  obtain ⟨kind, run, plan, task, tri, worker, draw⟩ := d
  have hp : plan.edges.length ≤ 4000000 := by simp only [totDd, totPl] at hb; omega
  by_cases k1 : kind = 1
  · subst k1
    simp -implicitDefEqProofs only [go_sem, encDd, encPl]
    intro b0 η0
    refine wp_loop_ (fun s => ∃ (k g : Nat) (η : Heads), k ≤ plan.edges.length ∧ (g = 2800 ∨ g = 4300) ∧ s.t 31 = .c (.ro (encEds plan.edges)) ∧ s.t 32 = .c (.v (.int .i64 plan.edges.length)) ∧ s.t 33 = .c (.v (.int .i64 k)) ∧ s.t 3 = .c (.h g 0 [] (η [])) ∧
      s.o g = .loose (encInts ([run, plan.prio, plan.most, plan.wait, plan.tasks, (plan.edges.length : Int)] ++ (plan.edges.take k).flatMap fun e => [e.src, e.dst])) η) (fun s => plan.edges.length - s.n 33) ?_ ?_
    · exact ⟨0, 2800, η0, Nat.zero_le _, .inl rfl, by simp -implicitDefEqProofs only [go_sem] <;> rfl, by simp -implicitDefEqProofs only [go_sem] <;> rfl, by simp -implicitDefEqProofs only [go_sem] <;> rfl, by simp -implicitDefEqProofs only [go_sem] <;> rfl, by simp -implicitDefEqProofs only [go_sem] <;> rfl⟩
    · rintro s ⟨k, g, η, hk, hg, h31, h32, h33, h3, hob⟩
      by_cases hlt : k < plan.edges.length
      · have hlt' : (k : Int) < plan.edges.length := by omega
        obtain ⟨x, hx⟩ := get_some hlt
        have hw : IntKind.i64.wrap ((k : Int) + 1) = ((k + 1 : Nat) : Int) := wrap64 (by omega) (by omega)
        generalize hl : [run, plan.prio, plan.most, plan.wait, plan.tasks, (plan.edges.length : Int)] ++ (plan.edges.take k).flatMap (fun e => [e.src, e.dst]) = l at hob
        have hll : l.length = 6 + 2 * k := by rw [← hl, List.length_append, fl_len, List.length_take, Nat.min_eq_left hk]; rfl
        have h1' : l.length + 2 ≤ maxLen := by unfold maxLen; omega
        have h2' : (l.length + 2) * 8 ≤ 140737488355328 := by omega
        have hnext : l ++ [x.src, x.dst] = [run, plan.prio, plan.most, plan.wait, plan.tasks, (plan.edges.length : Int)] ++ (plan.edges.take (k + 1)).flatMap (fun e => [e.src, e.dst]) := by
          rw [← hl, List.take_add_one, hx]; simp
        rcases hg with rfl | rfl
        all_goals
          simp -implicitDefEqProofs only [go_sem, h31, h32, h33, h3, hob, hlt, hlt', elem_encEds hx, encEd, h1', h2', hw, ints_snoc2]
          intro b1 η1 η2
          refine ⟨⟨k + 1, 4300, η2, ?_⟩, ?_⟩
          · and_intros <;> first | rfl | omega | exact .inr rfl | (rw [hnext]; rfl)
          · rw [st_n (k := .i64) (n := ((k + 1 : Nat) : Int)) (by simp -implicitDefEqProofs only [go_sem]), st_n h33]; omega
      · have hlt' : ¬ (k : Int) < plan.edges.length := by omega
        rw [List.take_of_length_le (by omega)] at hob
        rcases hg with rfl | rfl
        · simp -implicitDefEqProofs only [go_sem, h31, h32, h33, h3, hob, hlt']
          rfl
        · simp -implicitDefEqProofs only [go_sem, h31, h32, h33, h3, hob, hlt']
          rfl
  · have g1 : (kind == 1) = false := by simpa using k1
    by_cases k2 : kind = 2
    · subst k2
      simp -implicitDefEqProofs only [go_sem, encDd, encPl]
      intros
      rfl
    · have g2 : (kind == 2) = false := by simpa using k2
      by_cases k3 : kind = 3
      · subst k3
        simp -implicitDefEqProofs only [go_sem, encDd, encPl]
        intros
        rfl
      · have g3 : (kind == 3) = false := by simpa using k3
        by_cases k4 : kind = 4
        · subst k4
          simp -implicitDefEqProofs only [go_sem, encDd, encPl]
          intros
          rfl
        · have g4 : (kind == 4) = false := by simpa using k4
          by_cases k6 : kind = 6
          · subst k6
            simp -implicitDefEqProofs only [go_sem, encDd, encPl]
            intros
            rfl
          · have g6 : (kind == 6) = false := by simpa using k6
            by_cases k7 : kind = 7
            · subst k7
              simp -implicitDefEqProofs only [go_sem, encDd, encPl]
              intros
              rfl
            · have g7 : (kind == 7) = false := by simpa using k7
              have e : numsL ⟨kind, run, plan, task, tri, worker, draw⟩ = [] := by simp [numsL, k1, k2, k3, k4, k6, k7]
              simp -implicitDefEqProofs only [go_sem, encDd, encPl, g1, g2, g3, g4, g6, g7, e]
def zeroPl : Pl := ⟨0, 0, 0, 0, []⟩
/-- A deed with what its kind uses. -/
def usedD (d : Dd) : Dd :=
  if d.kind = 1 then ⟨1, d.run, d.plan, 0, 0, 0, 0⟩
  else if d.kind = 2 then ⟨2, 0, zeroPl, 0, 0, d.worker, d.draw⟩
  else if d.kind = 3 ∨ d.kind = 4 then ⟨d.kind, d.run, zeroPl, d.task, d.tri, 0, 0⟩
  else if d.kind = 6 ∨ d.kind = 7 then ⟨d.kind, d.run, zeroPl, 0, 0, 0, 0⟩
  else ⟨d.kind, 0, zeroPl, 0, 0, 0, 0⟩
def okI (d : Dd) : Bool := decide (1 ≤ d.kind ∧ d.kind ≤ 8) && decide (d.plan.edges.length ≤ 31) && decide (d = usedD d) && (numsL d).all numB
theorem bge (n : Int) (k : Int) : (decide (k < n)) = !decide (n ≤ k) := by
  by_cases h : k < n
  · simp [h, Int.not_le.2 h]
  · simp [h, Int.not_lt.1 h]
/-- The rest of the program's DeedOk: the numbers, one by one. -/
def c_loop : C := match c_impl_DeedOk with
  | .seq _ (.seq _ c) => c
  | c => c
theorem w_DeedOk_end (d : Dd) (hb : totDd d ≤ 2000000) {s : St} {b ty : Nat} (h1 : s.t 1 = .c (.bp 100 0 b)) (ho : s.o 100 = .box b ty ((encDd d).map fun x => .a x.toRo)) : wpC Try.prog 0 c_loop (retE [.t 2] (.c (.val (.bool ((numsL d).all numB))))) s := by
  unfold c_loop c_impl_DeedOk
  have hn : (numsL d).length ≤ 20000000 := by
    have hp : d.plan.edges.length ≤ 2000000 := hb
    unfold numsL
    split
    · rw [List.length_append, fl_len]; simp; omega
    · split
      · simp
      · split
        · simp
        · split <;> simp
  simp -implicitDefEqProofs only [go_sem, h1, ho, encDd, encPl]
  refine run_call (p_deedNumbers d hb) (by simp -implicitDefEqProofs only [go_sem, h1, ho, encDd, encPl]) fun η => ?_
  generalize numsL d = l at *
  simp -implicitDefEqProofs only [go_sem, h1, ho]
  refine wp_loop_ (fun s => ∃ (k : Nat) (η : Heads), k ≤ l.length ∧ (l.take k).all numB = true ∧ s.t 24 = .c (.h 2400 0 [] (η [])) ∧ s.t 25 = .c (.v (.int .i64 l.length)) ∧ s.t 26 = .c (.v (.int .i64 k)) ∧ s.o 2400 = .loose (encInts l) η) (fun s => l.length - s.n 26) ?_ ?_
  · exact ⟨0, η 0, Nat.zero_le _, rfl, by simp -implicitDefEqProofs only [go_sem] <;> rfl, by simp -implicitDefEqProofs only [go_sem] <;> rfl, by simp -implicitDefEqProofs only [go_sem] <;> rfl, by simp -implicitDefEqProofs only [go_sem] <;> rfl⟩
  · rintro s ⟨k, ηo, hk, ha, h24, h25, h26, hob⟩
    by_cases hlt : k < l.length
    · have hlt' : (k : Int) < l.length := by omega
      obtain ⟨x, hx⟩ := get_some hlt
      have hw : IntKind.i64.wrap ((k : Int) + 1) = ((k + 1 : Nat) : Int) := wrap64 (by omega) (by omega)
      simp -implicitDefEqProofs only [go_sem, h24, h25, h26, hob, hlt, hlt', at_encInts hx, in_encInts hlt]
      refine run_call (p_impl_within x 0 1000000000) (by simp -implicitDefEqProofs only [go_sem]) fun η => ?_
      have hd : decide (0 ≤ x ∧ x ≤ 1000000000) = numB x := rfl
      cases h6 : numB x
      · simp -implicitDefEqProofs only [go_sem, hd, h6]
        simp [all_no (f := numB) hx h6]
      simp -implicitDefEqProofs only [go_sem, h24, h25, h26, hob, hd, h6, hw]
      refine ⟨⟨k + 1, ηo, ?_⟩, ?_⟩
      · and_intros <;> first | rfl | omega | exact all_take hx ha h6
      · rw [st_n (k := .i64) (n := ((k + 1 : Nat) : Int)) (by simp -implicitDefEqProofs only [go_sem]), st_n h26]; omega
    · have hlt' : ¬ (k : Int) < l.length := by omega
      rw [List.take_of_length_le (by omega)] at ha
      simp -implicitDefEqProofs only [go_sem, h24, h25, h26, hob, hlt']
      simp [ha]
def c_dA : C := match c_impl_DeedOk with
  | .seq c _ => c
  | c => c
def c_dB : C := match c_impl_DeedOk with
  | .seq _ (.seq c _) => c
  | c => c
set_option maxRecDepth 1000000 in
set_option maxHeartbeats 4000000 in
theorem p_impl_DeedOk0 (d : Dd) (hb : totDd d ≤ 2000000) : Pure Try.prog 100 [.agg (encDd d)] (.c (.val (.bool (okI d)))) := by
  refine pure_fn Try.func100 code_impl_DeedOk (by simp) ?_
  have hend := fun (s : St) (b ty : Nat) => w_DeedOk_end d hb (s := s) (b := b) (ty := ty)
  rw [show c_impl_DeedOk = .seq c_dA (.seq c_dB c_loop) from rfl]
  unfold c_dA c_dB c_impl_DeedOk
  obtain ⟨kind, run, plan, task, tri, worker, draw⟩ := d
  by_cases hk : 1 ≤ kind ∧ kind ≤ 8
  · by_cases hl : plan.edges.length ≤ 31
    · have hl' : ¬ (31 : Int) < plan.edges.length := by omega
      simp -implicitDefEqProofs only [go_sem, encDd, encPl]
      intro b
      refine run_call (p_impl_within kind 1 8) (by simp -implicitDefEqProofs only [go_sem]) fun η => ?_
      simp -implicitDefEqProofs only [go_sem, hk, hl']
      have : kind = 1 ∨ kind = 2 ∨ kind = 3 ∨ kind = 4 ∨ kind = 5 ∨ kind = 6 ∨ kind = 7 ∨ kind = 8 := by omega
      rcases this with rfl | rfl | rfl | rfl | rfl | rfl | rfl | rfl
      · refine run_inl (inl_fn (β := 7000000) Try.func141 code_impl_usedOf (by simp) ?_)
        unfold c_impl_usedOf
        simp -implicitDefEqProofs only [go_sem]
        intros
        have hu : usedD ⟨1, run, plan, task, tri, worker, draw⟩ = ⟨1, run, plan, 0, 0, 0, 0⟩ := by simp [usedD, zeroPl]
        refine run_call (p_sameDeed ⟨1, run, plan, task, tri, worker, draw⟩ ⟨1, run, plan, 0, 0, 0, 0⟩) (by simp -implicitDefEqProofs only [go_sem, encDd, encPl]) fun η2 => ?_
        simp only [← hu]
        cases hs : decide ((⟨1, run, plan, task, tri, worker, draw⟩ : Dd) = usedD ⟨1, run, plan, task, tri, worker, draw⟩)
        · simp -implicitDefEqProofs only [go_sem, hs]
          simp [okI, hs]
        · have e : okI ⟨1, run, plan, task, tri, worker, draw⟩ = (numsL ⟨1, run, plan, task, tri, worker, draw⟩).all numB := by simp only [okI, hs]; simp [hl]
          rw [e]
          simp -implicitDefEqProofs only [go_sem, hs]
          exact hend _ b _ (by simp -implicitDefEqProofs only [go_sem]) (by simp -implicitDefEqProofs only [go_sem, encDd, encPl] <;> rfl)
      · refine run_inl (inl_fn (β := 7000000) Try.func141 code_impl_usedOf (by simp) ?_)
        unfold c_impl_usedOf
        simp -implicitDefEqProofs only [go_sem]
        intros
        have hu : usedD ⟨2, run, plan, task, tri, worker, draw⟩ = ⟨2, 0, ⟨0, 0, 0, 0, []⟩, 0, 0, worker, draw⟩ := by simp [usedD, zeroPl]
        refine run_call (p_sameDeed ⟨2, run, plan, task, tri, worker, draw⟩ ⟨2, 0, ⟨0, 0, 0, 0, []⟩, 0, 0, worker, draw⟩) (by simp -implicitDefEqProofs only [go_sem, encDd, encPl]) fun η2 => ?_
        simp only [← hu]
        cases hs : decide ((⟨2, run, plan, task, tri, worker, draw⟩ : Dd) = usedD ⟨2, run, plan, task, tri, worker, draw⟩)
        · simp -implicitDefEqProofs only [go_sem, hs]
          simp [okI, hs]
        · have e : okI ⟨2, run, plan, task, tri, worker, draw⟩ = (numsL ⟨2, run, plan, task, tri, worker, draw⟩).all numB := by simp only [okI, hs]; simp [hl]
          rw [e]
          simp -implicitDefEqProofs only [go_sem, hs]
          exact hend _ b _ (by simp -implicitDefEqProofs only [go_sem]) (by simp -implicitDefEqProofs only [go_sem, encDd, encPl] <;> rfl)
      · refine run_inl (inl_fn (β := 7000000) Try.func141 code_impl_usedOf (by simp) ?_)
        unfold c_impl_usedOf
        simp -implicitDefEqProofs only [go_sem]
        intros
        have hu : usedD ⟨3, run, plan, task, tri, worker, draw⟩ = ⟨3, run, ⟨0, 0, 0, 0, []⟩, task, tri, 0, 0⟩ := by simp [usedD, zeroPl]
        refine run_call (p_sameDeed ⟨3, run, plan, task, tri, worker, draw⟩ ⟨3, run, ⟨0, 0, 0, 0, []⟩, task, tri, 0, 0⟩) (by simp -implicitDefEqProofs only [go_sem, encDd, encPl]) fun η2 => ?_
        simp only [← hu]
        cases hs : decide ((⟨3, run, plan, task, tri, worker, draw⟩ : Dd) = usedD ⟨3, run, plan, task, tri, worker, draw⟩)
        · simp -implicitDefEqProofs only [go_sem, hs]
          simp [okI, hs]
        · have e : okI ⟨3, run, plan, task, tri, worker, draw⟩ = (numsL ⟨3, run, plan, task, tri, worker, draw⟩).all numB := by simp only [okI, hs]; simp [hl]
          rw [e]
          simp -implicitDefEqProofs only [go_sem, hs]
          exact hend _ b _ (by simp -implicitDefEqProofs only [go_sem]) (by simp -implicitDefEqProofs only [go_sem, encDd, encPl] <;> rfl)
      · refine run_inl (inl_fn (β := 7000000) Try.func141 code_impl_usedOf (by simp) ?_)
        unfold c_impl_usedOf
        simp -implicitDefEqProofs only [go_sem]
        intros
        have hu : usedD ⟨4, run, plan, task, tri, worker, draw⟩ = ⟨4, run, ⟨0, 0, 0, 0, []⟩, task, tri, 0, 0⟩ := by simp [usedD, zeroPl]
        refine run_call (p_sameDeed ⟨4, run, plan, task, tri, worker, draw⟩ ⟨4, run, ⟨0, 0, 0, 0, []⟩, task, tri, 0, 0⟩) (by simp -implicitDefEqProofs only [go_sem, encDd, encPl]) fun η2 => ?_
        simp only [← hu]
        cases hs : decide ((⟨4, run, plan, task, tri, worker, draw⟩ : Dd) = usedD ⟨4, run, plan, task, tri, worker, draw⟩)
        · simp -implicitDefEqProofs only [go_sem, hs]
          simp [okI, hs]
        · have e : okI ⟨4, run, plan, task, tri, worker, draw⟩ = (numsL ⟨4, run, plan, task, tri, worker, draw⟩).all numB := by simp only [okI, hs]; simp [hl]
          rw [e]
          simp -implicitDefEqProofs only [go_sem, hs]
          exact hend _ b _ (by simp -implicitDefEqProofs only [go_sem]) (by simp -implicitDefEqProofs only [go_sem, encDd, encPl] <;> rfl)
      · refine run_inl (inl_fn (β := 7000000) Try.func141 code_impl_usedOf (by simp) ?_)
        unfold c_impl_usedOf
        simp -implicitDefEqProofs only [go_sem]
        intros
        have hu : usedD ⟨5, run, plan, task, tri, worker, draw⟩ = ⟨5, 0, ⟨0, 0, 0, 0, []⟩, 0, 0, 0, 0⟩ := by simp [usedD, zeroPl]
        refine run_call (p_sameDeed ⟨5, run, plan, task, tri, worker, draw⟩ ⟨5, 0, ⟨0, 0, 0, 0, []⟩, 0, 0, 0, 0⟩) (by simp -implicitDefEqProofs only [go_sem, encDd, encPl]) fun η2 => ?_
        simp only [← hu]
        cases hs : decide ((⟨5, run, plan, task, tri, worker, draw⟩ : Dd) = usedD ⟨5, run, plan, task, tri, worker, draw⟩)
        · simp -implicitDefEqProofs only [go_sem, hs]
          simp [okI, hs]
        · have e : okI ⟨5, run, plan, task, tri, worker, draw⟩ = (numsL ⟨5, run, plan, task, tri, worker, draw⟩).all numB := by simp only [okI, hs]; simp [hl]
          rw [e]
          simp -implicitDefEqProofs only [go_sem, hs]
          exact hend _ b _ (by simp -implicitDefEqProofs only [go_sem]) (by simp -implicitDefEqProofs only [go_sem, encDd, encPl] <;> rfl)
      · refine run_inl (inl_fn (β := 7000000) Try.func141 code_impl_usedOf (by simp) ?_)
        unfold c_impl_usedOf
        simp -implicitDefEqProofs only [go_sem]
        intros
        have hu : usedD ⟨6, run, plan, task, tri, worker, draw⟩ = ⟨6, run, ⟨0, 0, 0, 0, []⟩, 0, 0, 0, 0⟩ := by simp [usedD, zeroPl]
        refine run_call (p_sameDeed ⟨6, run, plan, task, tri, worker, draw⟩ ⟨6, run, ⟨0, 0, 0, 0, []⟩, 0, 0, 0, 0⟩) (by simp -implicitDefEqProofs only [go_sem, encDd, encPl]) fun η2 => ?_
        simp only [← hu]
        cases hs : decide ((⟨6, run, plan, task, tri, worker, draw⟩ : Dd) = usedD ⟨6, run, plan, task, tri, worker, draw⟩)
        · simp -implicitDefEqProofs only [go_sem, hs]
          simp [okI, hs]
        · have e : okI ⟨6, run, plan, task, tri, worker, draw⟩ = (numsL ⟨6, run, plan, task, tri, worker, draw⟩).all numB := by simp only [okI, hs]; simp [hl]
          rw [e]
          simp -implicitDefEqProofs only [go_sem, hs]
          exact hend _ b _ (by simp -implicitDefEqProofs only [go_sem]) (by simp -implicitDefEqProofs only [go_sem, encDd, encPl] <;> rfl)
      · refine run_inl (inl_fn (β := 7000000) Try.func141 code_impl_usedOf (by simp) ?_)
        unfold c_impl_usedOf
        simp -implicitDefEqProofs only [go_sem]
        intros
        have hu : usedD ⟨7, run, plan, task, tri, worker, draw⟩ = ⟨7, run, ⟨0, 0, 0, 0, []⟩, 0, 0, 0, 0⟩ := by simp [usedD, zeroPl]
        refine run_call (p_sameDeed ⟨7, run, plan, task, tri, worker, draw⟩ ⟨7, run, ⟨0, 0, 0, 0, []⟩, 0, 0, 0, 0⟩) (by simp -implicitDefEqProofs only [go_sem, encDd, encPl]) fun η2 => ?_
        simp only [← hu]
        cases hs : decide ((⟨7, run, plan, task, tri, worker, draw⟩ : Dd) = usedD ⟨7, run, plan, task, tri, worker, draw⟩)
        · simp -implicitDefEqProofs only [go_sem, hs]
          simp [okI, hs]
        · have e : okI ⟨7, run, plan, task, tri, worker, draw⟩ = (numsL ⟨7, run, plan, task, tri, worker, draw⟩).all numB := by simp only [okI, hs]; simp [hl]
          rw [e]
          simp -implicitDefEqProofs only [go_sem, hs]
          exact hend _ b _ (by simp -implicitDefEqProofs only [go_sem]) (by simp -implicitDefEqProofs only [go_sem, encDd, encPl] <;> rfl)
      · refine run_inl (inl_fn (β := 7000000) Try.func141 code_impl_usedOf (by simp) ?_)
        unfold c_impl_usedOf
        simp -implicitDefEqProofs only [go_sem]
        intros
        have hu : usedD ⟨8, run, plan, task, tri, worker, draw⟩ = ⟨8, 0, ⟨0, 0, 0, 0, []⟩, 0, 0, 0, 0⟩ := by simp [usedD, zeroPl]
        refine run_call (p_sameDeed ⟨8, run, plan, task, tri, worker, draw⟩ ⟨8, 0, ⟨0, 0, 0, 0, []⟩, 0, 0, 0, 0⟩) (by simp -implicitDefEqProofs only [go_sem, encDd, encPl]) fun η2 => ?_
        simp only [← hu]
        cases hs : decide ((⟨8, run, plan, task, tri, worker, draw⟩ : Dd) = usedD ⟨8, run, plan, task, tri, worker, draw⟩)
        · simp -implicitDefEqProofs only [go_sem, hs]
          simp [okI, hs]
        · have e : okI ⟨8, run, plan, task, tri, worker, draw⟩ = (numsL ⟨8, run, plan, task, tri, worker, draw⟩).all numB := by simp only [okI, hs]; simp [hl]
          rw [e]
          simp -implicitDefEqProofs only [go_sem, hs]
          exact hend _ b _ (by simp -implicitDefEqProofs only [go_sem]) (by simp -implicitDefEqProofs only [go_sem, encDd, encPl] <;> rfl)
    · have hl' : (31 : Int) < plan.edges.length := by omega
      simp -implicitDefEqProofs only [go_sem, encDd, encPl]
      intro b
      refine run_call (p_impl_within kind 1 8) (by simp -implicitDefEqProofs only [go_sem]) fun η => ?_
      simp -implicitDefEqProofs only [go_sem, hk, hl']
      simp [okI, hl]
  · simp -implicitDefEqProofs only [go_sem, encDd, encPl]
    intro b
    refine run_call (p_impl_within kind 1 8) (by simp -implicitDefEqProofs only [go_sem]) fun η => ?_
    simp -implicitDefEqProofs only [go_sem, hk]
    have : decide (1 ≤ kind ∧ kind ≤ 8) = false := decide_eq_false hk
    simp only [okI, this, Bool.false_and]
end Go.Proofs.Ytbplebgnkhmemaa
