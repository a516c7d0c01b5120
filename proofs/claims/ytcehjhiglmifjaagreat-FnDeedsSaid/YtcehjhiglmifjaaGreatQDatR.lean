/- Parts. -/
import Derived.Test.YtcehjhiglmifjaaGreatQPoll
set_option linter.all false
namespace Go.Proofs.YtcehjhiglmifjaaGreat
open Go.RowKit Go.Sort
abbrev tRp:TypeId:=32
def kV (l:List Rp):D:=.sl 4 tRp (l.flatMap (qO))
section
variable {P:Program} {β:Nat} {s:St}
theorem jdN (l:List Rp):(kV l).len=l.length:=zZ (enc:=qO) (λ_=>rfl) (by decide) _ _
theorem jqz {l:List Rp} {k:Nat} {x:Rp} (h:l[k]?=some x):(kV l).elem k=qO x:=vQ (enc:=qO) (λ_=>rfl) h
theorem juj (l:List Rp):(kV l).isSl=true:=(rfl)
theorem jt7 (l:List Rp):(kV l).size=4:=(rfl)
theorem juG (l:List Rp):(kV l).toRo=.ro (kV l):=(rfl)
theorem jsZ (l:List Rp) (g:Nat) (η:jm):(kV l).obj g η=[(g,.loose (kV l) η)]:=(rfl)
theorem jsR (l:List Rp) (g c:Nat) (p:List Nat) (η:jm):(kV l).toOwn g c p η=.h g c p (η p):=(rfl)
theorem jpa (l:List Rp):(kV l).cells=l.flatMap (qO):=(rfl)
theorem jsp (l:List Rp) (e:Nat) (k:List D->Prop):slK (kV l) e 4 k=(tRp=e/\k (l.flatMap (qO))):=by rw [show kV l=.sl 4 tRp (l.flatMap (qO)) from rfl,jwI];simp
theorem jtv (l:List Rp):(l.flatMap (qO)).length/4=l.length:=by rw [jG (enc:=qO) (size:=4) (λ_=>rfl)];exact aNN _ (by decide)
theorem jh1 (l:List Rp) (x:Rp):D.sl 4 tRp (l.flatMap (qO)++qO x)=kV (l++[x]):=by simp [kV]
attribute [go_sem] jdN juj jt7 juG jsZ jsR jpa jsp jtv
end
