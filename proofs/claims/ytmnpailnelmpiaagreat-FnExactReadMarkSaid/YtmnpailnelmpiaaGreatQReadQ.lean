/- Parts. -/
import Derived.Test.YtmnpailnelmpiaaGreatQReadP
set_option linter.unusedSimpArgs false
set_option linter.unusedVariables false
namespace Go.Proofs.YtmnpailnelmpiaaGreat
open Go.RowKit Go.Sort
def jai (L:List Int) (s:Nat×Bool):Int×(Nat×Bool):=match L[s.1]? with
 |some v=>(v,(s.1+1,s.2))
 |none=>(0,(s.1,true))
theorem jr8 {L:List Int}:∀(xs:List Int) {rest:List Int} {lo:Nat},L.drop lo=xs++rest→RdSeq (jai L) (·.2) (lo,false) xs (lo+xs.length,false)
 |[],_,_,_=>rfl
 |x::xs,rest,lo,h=>by
  have h0:L[lo]?=some x:=by
   have:=congrArg (·[0]?) h
   simpa using this
  have h1:L.drop (lo+1)=xs++rest:=by
   have:=congrArg List.tail h;simpa using this
  have e:jai L (lo,false)=(x,(lo+1,false)):=by simp only [jai,h0]
  refine ⟨rfl,by rw [e],?_⟩
  rw [e];have:=jr8 xs h1;rw [List.length_cons,show lo+(xs.length+1)=lo+1+xs.length by omega]
  exact this
def vC (t:ByteArray) (s:Int×Bool):Int×(Int×Bool):=if s.2=true then (0,s) else if (vAt t s.1).2<0 then (0,(s.1,true)) else ((vAt t s.1).1,((vAt t s.1).2,false))
theorem jr7 {t:ByteArray}:∀(xs:List Int) {rest:List UInt8} {k:Nat},(∀n∈xs,jcK n)→t.data.toList.drop k=vl xs++rest→RdSeq (vC t) (·.2) ((k:Int),false) xs (((k+(vl xs).length:Nat):Int),false)
 |[],_,_,_,_=>by simp [RdSeq,vl]
 |x::xs,rest,k,hx,h=>by
  obtain ⟨v,rfl,hv,e⟩:=jmF (hx x (by simp))
  rw [jaL,e,List.append_assoc] at h;have hh:jbt (t.data.toList.drop k)=some (v,(vq v).length):=by rw [h];exact jof hv _
  have hA:vAt t (k:Int)=((v:Int),((k+(vq v).length:Nat):Int)):=by
   rw [vAt,if_neg (by omega),Int.toNat_natCast,hh];simp
  have e1:vC t ((k:Int),false)=((v:Int),(((k+(vq v).length:Nat):Int),false)):=by
   simp only [vC,hA,Bool.false_eq_true,if_false];rw [if_neg (by omega)]
  refine ⟨rfl,by rw [e1],?_⟩
  rw [e1]
  have h1:t.data.toList.drop (k+(vq v).length)=vl xs++rest:=by
   rw [←List.drop_drop,h];simp
  have:=jr7 xs (fun n hn=>hx n (by simp [hn])) h1
  rw [jaL,e,List.length_append,←Nat.add_assoc];exact this
theorem jod (l:List Int):(jsR l).data.toList=vl l:=rfl
end Go.Proofs.YtmnpailnelmpiaaGreat
