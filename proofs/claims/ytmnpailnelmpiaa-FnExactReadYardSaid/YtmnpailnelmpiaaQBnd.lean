/- Parts. -/
import Derived.Test.YtmnpailnelmpiaaQMarkB
set_option linter.unusedSimpArgs false
set_option linter.unusedVariables false
namespace Go.Proofs.Ytmnpailnelmpiaa
theorem jeq {α:Type} {c t:α→Nat} {K:Nat} (h:∀x,c x≤K*t x+K):∀l:List α,jP c l≤K*jP t l+K*l.length
 |[]=>by simp [jP]
 |x::l=>by
  have h1:=h x;have h2:=jeq h l;simp only [jP,List.map_cons,List.sum_cons,List.length_cons] at h2⊢;rw [Nat.mul_add,Nat.mul_add];omega
theorem b_cRn (r:Rn):cRn r≤16*jac r+16:=by
 simp only [cRn,jac,jdY];omega
theorem b_cNt (n:Nt):cNt n≤16*zz n+16:=by
 simp only [cNt,zz,jbF,jdY];omega
theorem b_nts (l:List Nt):jP cNt l≤16*jf6 l:=by
 have:=jeq b_cNt l;have h:jf6 l=l.length+jP zz l:=rfl;omega
theorem b_yd (y:Yd):cYd y≤16*kH y:=by
 have h1:=jeq (c:=c4) (t:=vM) (K:=16) (fun l=>by simp only [c4,vM];omega) y.shelf
 have h2:=jeq b_cRn y.runs;have h3:kH y=(y.shelf.length+jP vM y.shelf)+(y.runs.length+jP jac y.runs):=rfl;have h4:cYd y=jP c4 y.shelf+jP cRn y.runs:=rfl;omega
@[go_sem] theorem jvq (y:Yd) (k:Int):(jpW y k).now=y.now:=(rfl)
@[go_sem] theorem jvp (y:Yd) (k:Int):(jpW y k).seq=y.seq:=(rfl)
end Go.Proofs.Ytmnpailnelmpiaa
