/- Parts. -/
import Derived.Test.YtmnpailnelmpiaaQHolds
set_option linter.unusedSimpArgs false
set_option linter.unusedVariables false
namespace Go.Proofs.Ytmnpailnelmpiaa
open Go.RowKit Go.Sort
theorem jbE {α:Type} (f:α→Nat) (m:Nat):∀l:List α,(∀x∈l,f x≤m)→jP f l≤m*l.length
 |[],_=>by simp [jP]
 |x::l,h=>by
  have h1:=h x (by simp)
  have h2:=jbE f m l fun x hx=>h x (by simp [hx])
  simp only [jP,List.map_cons,List.sum_cons,List.length_cons,Nat.mul_succ] at h2⊢;omega
theorem YardOkP.small {y:Yd} (h:YardOkP y):kH y≤700:=by
 have h1:=jbE vM 80 y.shelf fun l hl=>(h.shelves l hl).most
 have h2:=jbE jac 42 y.runs fun r hr=>by
  have hR:=h.right r hr;obtain ⟨n,hn,_,h12,h30,_⟩:=jnx hR.plan;have:=hR.len;have h30':r.plan.edges.length≤30:=h30;simp only [jac,jdY];omega
 have h3:=h.four;have h4:=h.eight;simp only [kH,jeF,jb2];omega
end Go.Proofs.Ytmnpailnelmpiaa
