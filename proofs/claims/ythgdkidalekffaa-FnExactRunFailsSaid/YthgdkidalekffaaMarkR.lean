/- Marks of a run, held. -/
import Derived.Test.YthgdkidalekffaaProg
import Derived.Test.YthgdkidalekffaaMark3
import Derived.Test.YthgdkidalekffaaPu
import Derived.Test.YthgdkidalekffaaLaw
set_option linter.unusedSimpArgs false
set_option linter.unusedVariables false
set_option maxRecDepth 100000
namespace Go.Proofs.Ythgdkidalekffaa
open Go.RowKit Go.Sort
def c_laws_heldRun : C := .seq (.reg [⟨some 2, none, .box 34 8 (.t 0)⟩, ⟨some 4, none, .mov (.c (.int .i64 0))⟩]) (.seq (.reg [⟨some 5, none, .fa 1 (.t 2)⟩, ⟨some 6, none, .ld true 5 (.t 5)⟩, ⟨some 7, none, .mov (.t 1)⟩, ⟨some 8, none, .call 43 [.t 6, .t 7]⟩, ⟨some 1, none, .mov (.t 8)⟩]) (.seq (.seq (.reg [⟨some 9, none, .mov (.t 1)⟩, ⟨some 10, none, .bin .lss 3 (.t 9) (.c (.int .i64 0))⟩]) (.cond (.t 10) (.seq (.reg [⟨some 4, none, .mov (.c (.int .i64 (-1)))⟩]) .ret) .skip)) (.seq (.reg [⟨some 11, none, .fa 7 (.t 2)⟩, ⟨some 12, none, .ld false 1 (.t 11)⟩, ⟨some 13, none, .mov (.t 1)⟩, ⟨some 14, none, .call 44 [.t 12, .t 13]⟩, ⟨some 1, none, .mov (.t 14)⟩]) (.seq (.seq (.reg [⟨some 15, none, .mov (.t 1)⟩, ⟨some 16, none, .bin .lss 3 (.t 15) (.c (.int .i64 0))⟩]) (.cond (.t 16) (.seq (.reg [⟨some 4, none, .mov (.c (.int .i64 (-1)))⟩]) .ret) .skip)) (.seq (.reg [⟨some 17, none, .mov (.t 1)⟩, ⟨some 4, none, .mov (.t 17)⟩]) .ret)))))
theorem code_laws_heldRun : fnC Try.prog Try.f14 = some (c_laws_heldRun, [.t 4], 18) := by kernel_rfl
def c_laws_heldPlan : C := .seq (.reg [⟨some 2, none, .box 31 5 (.t 0)⟩, ⟨some 4, none, .mov (.c (.int .i64 0))⟩]) (.seq (.reg [⟨some 5, none, .fa 4 (.t 2)⟩, ⟨some 6, none, .ld false 1 (.t 5)⟩, ⟨some 7, none, .mov (.t 1)⟩, ⟨some 8, none, .call 89 [.t 6, .t 7]⟩, ⟨some 1, none, .mov (.t 8)⟩]) (.seq (.seq (.reg [⟨some 9, none, .mov (.t 1)⟩, ⟨some 10, none, .bin .lss 3 (.t 9) (.c (.int .i64 0))⟩]) (.cond (.t 10) (.seq (.reg [⟨some 4, none, .mov (.c (.int .i64 (-1)))⟩]) .ret) .skip)) (.seq (.reg [⟨some 11, none, .mov (.t 1)⟩, ⟨some 4, none, .mov (.t 11)⟩]) .ret)))
theorem code_laws_heldPlan : fnC Try.prog Try.f43 = some (c_laws_heldPlan, [.t 4], 12) := by kernel_rfl
def mkPl1 (p : Pl) (k : Int) : Pl := ⟨p.prio, p.most, p.wait, p.tasks, mkR mkEd 2 p.edges.length k⟩
def mkRr (r : Rn) (k : Int) : Rn := ⟨r.id, ⟨r.plan.prio, r.plan.most, r.plan.wait, r.plan.tasks, mkR mkEd 2 r.plan.edges.length k⟩, r.state, mkR mkTk 4 r.tasks.length (k + ((2 * r.plan.edges.length : Nat) : Int))⟩
section
variable (r : Rn) (k : Int)
theorem mkRr_id : (mkRr r k).id = r.id := rfl
theorem mkRr_prio : (mkRr r k).plan.prio = r.plan.prio := rfl
theorem mkRr_most : (mkRr r k).plan.most = r.plan.most := rfl
theorem mkRr_wait : (mkRr r k).plan.wait = r.plan.wait := rfl
theorem mkRr_tasks : (mkRr r k).plan.tasks = r.plan.tasks := rfl
theorem mkRr_state : (mkRr r k).state = r.state := rfl
end
attribute [go_sem] mkRr_id mkRr_prio mkRr_most mkRr_wait mkRr_tasks mkRr_state
def cRr (r : Rn) : Nat := 2 * r.plan.edges.length + 4 * r.tasks.length
open Go.BigFrame in
set_option maxHeartbeats 2000000 in
theorem markPlan_c (p : Pl) (k : Int) (v : Value) (S : List Nat) (B : Nat) (w : World) (ha : AggRep w true (encPl p) v S) (hF : Fresh B S) (h0 : 0 ≤ k) (h1 : k + 2 * (p.edges.length : Int) ≤ 4611686018427387904) :
    Calls Try.prog 41 #[v, .int .i64 k] w fun e w' => e = .returned (.int .i64 (k + 2 * (p.edges.length : Int))) ∧ AggRep w' true (encPl (mkPl1 p k)) v S ∧ Only S w w' := by
  obtain ⟨_, rfl, ha⟩ := ha
  obtain ⟨ev, rfl, ah0⟩ := pl_cells ha
  clear ha
  obtain ⟨A0, n0, m0, rfl⟩ := Rep.form ah0
  go_enter Try.func41, Try.ntmps41
  go_wp2_with (go_at_call 88; refine (markEdgeS_c p.edges k _ S B _ (upA ah0 _) hF h0 h1).mono ?_; rintro e w1 ⟨rfl, hr1, ho1⟩)
  go_ret
  exact ⟨rfl, ⟨_, rfl, pl_mk (p := mkPl1 p k) hr1⟩, (Only.of_below (upB (Below.refl w.heap.size w) _)).trans ho1 (fun t ht => .inl ht)⟩
open Go.BigFrame in
set_option maxHeartbeats 2000000 in
theorem markRun_c (r : Rn) (k : Int) (v : Value) (S : List Nat) (B : Nat) (w : World) (ha : AggRep w true (encRn r) v S) (hF : Fresh B S) (h0 : 0 ≤ k) (h1 : k + (cRr r : Nat) ≤ 2305843009213693952) :
    Calls Try.prog 13 #[v, .int .i64 k] w fun e w' => e = .returned (.int .i64 (k + (cRr r : Nat))) ∧ AggRep w' true (encRn (mkRr r k)) v S ∧ Only S w w' := by
  obtain ⟨_, rfl, ha⟩ := ha
  obtain ⟨sv, rv, S1, S2, rfl, ah0, ah1, rfl⟩ := rn_cells ha
  clear ha
  have hcy : (cRr r : Int) = 2 * (r.plan.edges.length : Int) + 4 * (r.tasks.length : Int) := by simp [cRr]
  obtain ⟨A0, n0, m0, rfl⟩ := Rep.form ah0
  obtain ⟨A1, n1, m1, rfl⟩ := Rep.form ah1
  have hbx : w.heap.size ∉ S1 := fun h => absurd (Rep.lt _ ah0 _ h) (Nat.lt_irrefl _)
  have hq1 : k + 2 * (r.plan.edges.length : Int) + 4 * (r.tasks.length : Int) ≤ 2305843009213693952 := by omega
  have HC := Lib.hid hcy
  clear hcy h1
  go_enter Try.func13, Try.ntmps13
  go_wp2_with (first
    | (go_at_call 41; go_loud (refine (markPlan_c r.plan k _ S1 B _ ⟨_, rfl, pl_mk (p := r.plan) (upA ah0 _)⟩ hF.left h0 (by omega)).mono ?_; rintro e w1 ⟨rfl, ⟨_, hx1, hr1⟩, ho1⟩; (have hoc := onlyC ho1 (b := w.heap.size) (by simp) hbx); obtain ⟨hd1, hz1⟩ := hoc; (have ah1' := (upA ah1 _).only ho1 (fun s hs ht => hF.apart s ht hs)); (have hs1 := ho1.size); simp at hs1))
    | (go_at_call 42; refine (markTaskS_c r.tasks (k + 2 * (r.plan.edges.length : Int)) _ S2 B _ ah1' hF.right (by omega) (by omega)).mono ?_; rintro e w2 ⟨rfl, hr2, ho2⟩))
  go_ret
  obtain ⟨ev', hev, hr1'⟩ := pl_cells hr1
  simp only [List.cons.injEq, and_true, true_and] at hev
  obtain ⟨-, -, -, -, rfl⟩ := hev
  have hcast : ((2 * r.plan.edges.length : Nat) : Int) = 2 * (r.plan.edges.length : Int) := by simp
  refine ⟨ret_int (by rw [HC.out]; omega), ⟨_, rfl, rn_mk (r := mkRr r k) (hr1'.only ho2 (fun s hs ht => hF.apart s hs ht)) (by unfold mkRr; rw [hcast]; exact hr2)⟩, ?_⟩
  exact ((Only.of_below (upB (Below.refl w.heap.size w) _)).trans (ho1.mono (T := S1 ++ S2) (fun s hs => .inl (by simp [hs]))) (fun t ht => .inl ht)).trans (ho2.mono (T := S1 ++ S2) (fun s hs => .inl (by simp [hs]))) (fun t ht => .inl ht)
theorem p_heldEdgeS (m : Nat) (k : Int) (h0 : 0 ≤ k) (h1 : k + 2 * (m : Int) ≤ 4611686018427387904) : Pure Try.prog 89 [.c (encEds (mkR mkEd 2 m k)), .c (.val (.int .i64 k))] (.c (.val (.int .i64 (k + ((2 * m : Nat) : Int))))) := pure2 ⟨_, Try.func89, by kernel_rfl, by kernel_rfl⟩ fun w a b ⟨S, ha⟩ hb => by rw [view_val hb]; exact heldEdgeS_c m k a S w false ha h0 h1
theorem p_heldTaskS (m : Nat) (k : Int) (h0 : 0 ≤ k) (h1 : k + 4 * (m : Int) ≤ 4611686018427387904) : Pure Try.prog 44 [.c (encTks (mkR mkTk 4 m k)), .c (.val (.int .i64 k))] (.c (.val (.int .i64 (k + ((4 * m : Nat) : Int))))) := pure2 ⟨_, Try.func44, by kernel_rfl, by kernel_rfl⟩ fun w a b ⟨S, ha⟩ hb => by rw [view_val hb]; exact heldTaskS_c m k a S w false ha h0 h1
theorem p_heldPlan (p : Pl) (k : Int) (h0 : 0 ≤ k) (h1 : k + 2 * (p.edges.length : Int) ≤ 4611686018427387904) : Pure Try.prog 43 [.agg (encPl (mkPl1 p k)), .c (.val (.int .i64 k))] (.c (.val (.int .i64 (k + ((2 * p.edges.length : Nat) : Int))))) := by
  refine pure_fn Try.func43 code_laws_heldPlan (by simp) ?_
  unfold c_laws_heldPlan
  have hn : ¬ (k + ((2 * p.edges.length : Nat) : Int) < 0) := by omega
  simp only [go_sem, encPl, mkPl1]
  intros
  refine run_call (p_heldEdgeS p.edges.length k h0 h1) (by simp only [go_sem, encPl, mkPl1]) fun η => ?_
  simp only [go_sem, encPl, mkPl1]
  simp only [go_sem, hn]
theorem p_heldRun (r : Rn) (k : Int) (h0 : 0 ≤ k) (h1 : k + (cRr r : Int) ≤ 4611686018427387904) : Pure Try.prog 14 [.agg (encRn (mkRr r k)), .c (.val (.int .i64 k))] (.c (.val (.int .i64 (k + (cRr r : Int))))) := by
  refine pure_fn Try.func14 code_laws_heldRun (by simp) ?_
  unfold c_laws_heldRun
  have hc : (cRr r : Int) = 2 * (r.plan.edges.length : Int) + 4 * (r.tasks.length : Int) := by simp [cRr]
  have hn : ¬ (k + ((2 * r.plan.edges.length : Nat) : Int) < 0) := by omega
  have hn2 : ¬ (k + ((2 * r.plan.edges.length : Nat) : Int) + ((4 * r.tasks.length : Nat) : Int) < 0) := by omega
  have he : k + (cRr r : Int) = k + ((2 * r.plan.edges.length : Nat) : Int) + ((4 * r.tasks.length : Nat) : Int) := by omega
  rw [he]
  simp only [go_sem, encRn, encPl, mkRr]
  intros
  refine run_call (p_heldPlan r.plan k h0 (by omega)) (by simp only [go_sem, encRn, encPl, mkRr, mkPl1]) fun η => ?_
  simp only [go_sem, encRn, encPl, mkRr, mkPl1]
  simp only [go_sem, encRn, encPl, mkRr, hn]
  refine run_call (p_heldTaskS r.tasks.length (k + ((2 * r.plan.edges.length : Nat) : Int)) (by omega) (by omega)) (by simp only [go_sem, encRn, encPl, mkRr]) fun η => ?_
  simp only [go_sem, encRn, encPl, mkRr]
  simp only [go_sem, hn2]
end Go.Proofs.Ythgdkidalekffaa
