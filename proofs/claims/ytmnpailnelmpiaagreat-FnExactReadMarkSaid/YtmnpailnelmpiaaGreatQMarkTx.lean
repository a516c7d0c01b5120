/- Parts. -/
import Derived.Test.YtmnpailnelmpiaaGreatQTextY
set_option linter.unusedSimpArgs false
set_option linter.unusedVariables false
set_option maxRecDepth 100000
namespace Go.Proofs.YtmnpailnelmpiaaGreat
open Go.RowKit Go.Sort
def jdK:C:=iS [iA 3 (.box 37 4 (.t 1)),iA 4 (.mov (.c (.string ⟨⟨[]⟩⟩)))] (iS [iA 6 (iT 4 3),iA 7 (.call 171 [.t 6]),iA 5 (iM 7)] (.seq (iS [iA 8 (iM 0),iA 9 (.call 78 [.t 8,.c (.int .i64 0),.c (.int .i64 1000000000)]),iA 10 (iU 9),iA 11 (iM 10),iB 12 11 false (iM 5),iB 13 11 false (.bin .eql 9 (.t 12) (.c (.string ⟨⟨[]⟩⟩))),iA 14 (.pick (.t 11) (.c (.bool true)) (.t 13)),iA 15 (iM 14),iB 16 15 false (iM 5),iB 17 15 false (.len true (.t 16)),iB 18 15 false (iQ .add 3 17 8),iB 19 15 false (iQ .gtr 3 18 60000),iA 20 (.pick (.t 15) (.c (.bool true)) (.t 19))] (iD 20 (iS [iA 4 (.mov (.c (.string ⟨⟨[]⟩⟩)))] .ret) .skip)) (iS [iA 21 (iM 0),iA 22 (.call 172 [.t 21]),iA 23 (iM 5),iA 24 (.call 143 [.t 23]),iA 25 (.call 172 [.t 24]),iA 26 (iP .add 9 22 25),iA 27 (iM 5),iA 28 (iP .add 9 26 27),iA 4 (iM 28)] .ret)))
theorem jgC:fnC Tryz.prog Tryz.f94=some (jdK,[.t 4],29):=by kernel_rfl
theorem jkn (q:Int) (y:Yd) (ht:jt y≤2000000):jZ Tryz.prog 94 [.c (.val (.int .i64 q)),.agg (jb y)] (.c (.val (.string (jf3 q y)))):=by
 refine jr Tryz.func94 jgC (by simp) ?_
 unfold jdK;simp only [go_sem,jb];intro b3;refine jc (jc1 y ht) (by simp only [go_sem,jb]) fun η=>?_
 simp only [go_sem,jb];have hle:=jmD y;have hm:jf3 q y=if (0≤q∧q≤1000000000)∧(zr y).size≠0∧(zr y).size≤59992 then jcc q++jcc (jl1 (zr y))++zr y else ⟨⟨[]⟩⟩:=rfl
 generalize zr y=T at*;have h5:=jsm q;have h7:=jsm (jl1 T);have m1:(jcc q).size+(jcc (jl1 T)).size≤maxLen:=by unfold maxLen;omega
 have m2:(jcc q).size+(jcc (jl1 T)).size+T.size≤maxLen:=by unfold maxLen;omega
 refine jc (jC q 0 1000000000) (by simp only [go_sem]) fun η=>?_
 simp only [go_sem];cases h1:decide (0≤q∧q≤1000000000)
 ·have hb:jf3 q y=⟨⟨[]⟩⟩:=by rw [hm,if_neg (fun h=>of_decide_eq_false h1 h.1)]
  simp only [go_sem,str0,h1,hb]
 have h1':=of_decide_eq_true h1;by_cases h0:T.size=0
 ·have hb:jf3 q y=⟨⟨[]⟩⟩:=by rw [hm,if_neg (by omega)]
  simp only [go_sem,str0,h1,h0,hb]
 have hw:IntKind.i64.wrap ((T.size:Int)+8)=((T.size+8:Nat):Int):=jj (by omega) (by omega)
 have h6:¬(60000:Int)<((T.size+8:Nat):Int):=by omega
 have hb:jf3 q y=jcc q++jcc (jl1 T)++T:=by rw [hm,if_pos ⟨h1',h0,by omega⟩]
 simp only [go_sem,str0,h1,h0,hw,h6];refine jc (jf0 q) (by simp only [go_sem]) fun η=>?_
 simp only [go_sem];refine jc (jiq T (by omega)) (by simp only [go_sem]) fun η=>?_
 simp only [go_sem];refine jc (jf0 (jl1 T)) (by simp only [go_sem]) fun η=>?_
 simp only [go_sem];simp only [go_sem,m1,m2,hb]
end Go.Proofs.YtmnpailnelmpiaaGreat
