/- Marks of a run, held. -/
import Derived.Test.YtbplebgnkhmemaaGreatProg
import Derived.Test.YtbplebgnkhmemaaGreatMarkB
import Derived.Test.YtbplebgnkhmemaaGreatPu
import Derived.Test.YtbplebgnkhmemaaGreatLaw
set_option linter.unusedSimpArgs false
set_option linter.unusedVariables false
set_option maxRecDepth 100000
namespace Go.Proofs.YtbplebgnkhmemaaGreat
open Go.RowKit Go.Sort
def mkPl1 (p : Pl) (k : Int) : Pl := ⟨p.prio, p.most, p.wait, p.tasks, mkR mkEd 2 p.edges.length k⟩
def mkRr (r : Rn) (k : Int) : Rn := ⟨r.id, ⟨r.plan.prio, r.plan.most, r.plan.wait, r.plan.tasks, mkR mkEd 2 r.plan.edges.length k⟩, r.state, mkR mkTk 4 r.tasks.length (k + ((2 * r.plan.edges.length : Nat) : Int))⟩
section
variable (r : Rn) (k : Int)
theorem mkRr_id : (mkRr r k).id = r.id := rfl
theorem mkRr_prio : (mkRr r k).plan.prio = r.plan.prio := rfl
theorem mkRr_most : (mkRr r k).plan.most = r.plan.most := rfl
theorem mkRr_wait : (mkRr r k).plan.wait = r.plan.wait := rfl
theorem mkRr_tasks : (mkRr r k).plan.tasks = r.plan.tasks := rfl
theorem mkRr_state : (mkRr r k).state = r.state := rfl
end
attribute [go_sem] mkRr_id mkRr_prio mkRr_most mkRr_wait mkRr_tasks mkRr_state
def cRr (r : Rn) : Nat := 2 * r.plan.edges.length + 4 * r.tasks.length
open Go.BigFrame in
set_option maxHeartbeats 2000000 in
theorem markPlan_c (p : Pl) (k : Int) (v : Value) (S : List Nat) (B : Nat) (w : World) (ha : AggRep w true (encPl p) v S) (hF : Fresh B S) (h0 : 0 ≤ k) (h1 : k + 2 * (p.edges.length : Int) ≤ 4611686018427387904) :
    Calls Tryz.prog 26 #[v, .int .i64 k] w fun e w' => e = .returned (.int .i64 (k + 2 * (p.edges.length : Int))) ∧ AggRep w' true (encPl (mkPl1 p k)) v S ∧ Only S w w' := by
  obtain ⟨_, rfl, ha⟩ := ha
  obtain ⟨ev, rfl, ah0⟩ := pl_cells ha
  clear ha
  obtain ⟨A0, n0, m0, rfl⟩ := Rep.form ah0
  go_enter Tryz.func26, Tryz.ntmps26
  go_wp2_with (go_at_call 78; refine (markEdgeS_c p.edges k _ S B _ (upA ah0 _) hF h0 h1).mono ?_; rintro e w1 ⟨rfl, hr1, ho1⟩)
  go_ret
  exact ⟨rfl, ⟨_, rfl, pl_mk (p := mkPl1 p k) hr1⟩, (Only.of_below (upB (Below.refl w.heap.size w) _)).trans ho1 (fun t ht => .inl ht)⟩
open Go.BigFrame in
theorem p_heldEdgeS (m : Nat) (k : Int) (h0 : 0 ≤ k) (h1 : k + 2 * (m : Int) ≤ 4611686018427387904) : Pure Tryz.prog 119 [.c (encEds (mkR mkEd 2 m k)), .c (.val (.int .i64 k))] (.c (.val (.int .i64 (k + ((2 * m : Nat) : Int))))) := pure2 ⟨_, Tryz.func119, by kernel_rfl, by kernel_rfl⟩ fun w a b ⟨S, ha⟩ hb => by rw [view_val hb]; exact heldEdgeS_c m k a S w false ha h0 h1
theorem p_heldTaskS (m : Nat) (k : Int) (h0 : 0 ≤ k) (h1 : k + 4 * (m : Int) ≤ 4611686018427387904) : Pure Tryz.prog 120 [.c (encTks (mkR mkTk 4 m k)), .c (.val (.int .i64 k))] (.c (.val (.int .i64 (k + ((4 * m : Nat) : Int))))) := pure2 ⟨_, Tryz.func120, by kernel_rfl, by kernel_rfl⟩ fun w a b ⟨S, ha⟩ hb => by rw [view_val hb]; exact heldTaskS_c m k a S w false ha h0 h1
end Go.Proofs.YtbplebgnkhmemaaGreat
