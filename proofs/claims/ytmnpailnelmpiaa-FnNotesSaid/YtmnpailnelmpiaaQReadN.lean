/- Parts. -/
import Derived.Test.YtmnpailnelmpiaaQNumP
set_option linter.unusedSimpArgs false
set_option linter.unusedVariables false
set_option maxHeartbeats 8000000
set_option maxRecDepth 100000
namespace Go.Proofs.Ytmnpailnelmpiaa
open Go.RowKit Go.Sort
theorem jnG {P:Program} {β:Nat} {a b:C} {Q:Ex→St→Prop} {s:St} {ι:Type} (mk:ι→St) (h1:wpC P β a (Ex.thn (fun s'=>WkK s' fun s''=>∃i,Wk s'' (mk i)) Q) s) (h2:∀i,wpC P β b Q (mk i)):wpC P β (.seq a (.gh b)) Q s:=by
 rw [jjs];refine qS a (jbW (fun s' h=>?_) fun _ _ h=>h) h1
 intro B N w0 w act F hr;obtain ⟨s'',F',h3,i,h4⟩:=h B N w0 w act F hr;obtain ⟨F'',h5,_⟩:=h4 B N w0 w act F' h3;exact ⟨mk i,F'',h5,h2 i⟩
section
variable {σ:Type} {nx:σ→Int×σ} {bd:σ→Bool} {sb:σ→σ} {φ:σ→Nat}
theorem Pot.rdNt (h:Pot nx bd sb φ) (c:Option Int) (s:σ):zC (rdNt c nx bd sb s).1≤φ s:=by
 unfold Go.Proofs.Ytmnpailnelmpiaa.rdNt;dsimp only
 repeat' split
 ·have h1:=h.rdPl c (nx (nx (nx s).2).2).2
  have h2:=h.nx2 s;have h3:=h.le (nx (nx s).2).2;simp only [zC,ja1];omega
 all_goals exact Nat.zero_le _
end
abbrev jvw (b ty:Nat) (q:Int):Ob:=.box b ty [.a (.v (.int .i64 q)),.a (.v (.int .i64 0)),.a (.v (.int .i64 0)),.a (.v (.int .i64 0)),.a (.v (.int .i64 0)),.a (.v (.int .i64 0)),.a (.v (.int .i64 0)),.a (.v (.slice none 0 0)),.a (.v (.int .i64 0)),.a (.v (.int .i64 0)),.a (.v (.int .i64 0)),.a (.v (.int .i64 0))]
abbrev NtR (b ty:Nat) (n:Nt) (η:jm):Ob:=.box b ty [.a (.v (.int .i64 n.seq)),.a (.v (.int .i64 n.deed.kind)),.a (.v (.int .i64 n.deed.run)),.a (.v (.int .i64 n.deed.plan.prio)),.a (.v (.int .i64 n.deed.plan.most)),.a (.v (.int .i64 n.deed.plan.wait)),.a (.v (.int .i64 n.deed.plan.tasks)),.own (jt n.deed.plan.edges) η,.a (.v (.int .i64 n.deed.task)),.a (.v (.int .i64 n.deed.tri)),.a (.v (.int .i64 n.deed.worker)),.a (.v (.int .i64 n.deed.draw))]
abbrev DdR (b ty:Nat) (d:Dd) (η:jm):Ob:=.box b ty [.a (.v (.int .i64 d.kind)),.a (.v (.int .i64 d.run)),.a (.v (.int .i64 d.plan.prio)),.a (.v (.int .i64 d.plan.most)),.a (.v (.int .i64 d.plan.wait)),.a (.v (.int .i64 d.plan.tasks)),.own (jt d.plan.edges) η,.a (.v (.int .i64 d.task)),.a (.v (.int .i64 d.tri)),.a (.v (.int .i64 d.worker)),.a (.v (.int .i64 d.draw))]
abbrev jhf (t:ByteArray):=rdNt (some 31) (qP t) (fun s:Int×Bool=>s.2) (fun s=>(s.1,true))
abbrev jhg (L:List Int):=rdNt none (vd L) (fun s:Nat×Bool=>s.2) (fun s=>(s.1,true))
theorem jmi (t:ByteArray):decide (t=⟨⟨[]⟩⟩)=decide (t.size=0):=by
 apply decide_eq_decide.2
 constructor
 ·rintro rfl;rfl
 ·intro h
  cases t with|mk d=>cases d with|mk l=>cases l with|nil=>rfl|cons a l=>cases h
def jbH:C:=iS [iA 2 (.alloc 28 [.int .i64 0,.int .i64 0,.int .i64 0,.int .i64 0,.int .i64 0,.int .i64 0,.int .i64 0,.slice none 0 0,.int .i64 0,.int .i64 0,.int .i64 0,.int .i64 0]),iA 3 (iO false)] (.seq (iS [iA 7 (iM 0),iA 8 (.len true (.t 7)),iA 9 (iQ .gtr 3 8 400)] (iD 9 (iS [iA 10 (.bld [.int .i64 0,.int .i64 0,.int .i64 0,.int .i64 0,.int .i64 0,.int .i64 0,.int .i64 0,.slice none 0 0,.int .i64 0,.int .i64 0,.int .i64 0,.int .i64 0] []),iC (.st 12 [none,none,none,none,none,none,none,some (2,103),none,none,none,none] (.t 2) (.t 10)),iA 3 (iO false)] .ret) .skip)) (iS [iA 11 (iM 0),iA 12 (.bld [.string ⟨⟨[]⟩⟩,.int .i64 0,.bool false] [(0,1,.t 11)]),iA 13 (.box 56 3 (.t 12)),iA 4 (iM 13)] (iS [iA 14 (iM 4),iA 15 (.call 28 [.t 14]),iA 16 (.bld [.int .i64 0,.int .i64 0,.int .i64 0,.int .i64 0,.int .i64 0,.int .i64 0,.int .i64 0,.slice none 0 0,.int .i64 0,.int .i64 0,.int .i64 0,.int .i64 0] [(0,1,.t 15)]),iA 5 (.alloc 28 [.int .i64 0,.int .i64 0,.int .i64 0,.int .i64 0,.int .i64 0,.int .i64 0,.int .i64 0,.slice none 0 0,.int .i64 0,.int .i64 0,.int .i64 0,.int .i64 0]),iC (.st 12 [none,none,none,none,none,none,none,some (2,103),none,none,none,none] (.t 5) (.t 16))] (iS [iA 17 (iM 4),iA 18 (.call 28 [.t 17]),iA 19 (.bld [.int .i64 0,.int .i64 0,.int .i64 0,.int .i64 0,.int .i64 0,.int .i64 0,.slice none 0 0,.int .i64 0,.int .i64 0,.int .i64 0,.int .i64 0] [(0,1,.t 18)]),iA 6 (.alloc 26 [.int .i64 0,.int .i64 0,.int .i64 0,.int .i64 0,.int .i64 0,.int .i64 0,.slice none 0 0,.int .i64 0,.int .i64 0,.int .i64 0,.int .i64 0]),iC (.st 11 [none,none,none,none,none,none,some (2,103),none,none,none,none] (.t 6) (.t 19))] (.seq (iS [iA 20 (iF 0 6),iA 21 (iL 20)] (.blk 0 (iS [iA 23 (iQ .eql 3 21 1),iA 22 (iM 23)] (iD 22 (iS [iA 24 (iM 4),iA 25 (.call 28 [.t 24]),iA 26 (iF 1 6),iC (.st 1 [none] (.t 26) (.t 25))] (.reg [iA 27 (iM 4),iA 28 (.call 29 [.t 27]),iA 29 (iF 2 6),iC (.st 5 [none,none,none,none,some (2,103)] (.t 29) (.t 28))])) (iS [iA 31 (iQ .eql 3 21 2),iA 30 (iM 31)] (iD 30 (iS [iA 32 (iM 4),iA 33 (.call 28 [.t 32]),iA 34 (iF 9 6),iC (.st 1 [none] (.t 34) (.t 33))] (.reg [iA 35 (iM 4),iA 36 (.call 28 [.t 35]),iA 37 (iF 10 6),iC (.st 1 [none] (.t 37) (.t 36))])) (.seq (iS [iA 39 (iQ .eql 3 21 3),iA 38 (iM 39)] (iD 38 .skip (.reg [iA 40 (iQ .eql 3 21 4),iA 38 (iM 40)]))) (iD 38 (iS [iA 41 (iM 4),iA 42 (.call 28 [.t 41]),iA 43 (iF 1 6),iC (.st 1 [none] (.t 43) (.t 42))] (iS [iA 44 (iM 4),iA 45 (.call 28 [.t 44]),iA 46 (iF 7 6),iC (.st 1 [none] (.t 46) (.t 45))] (.reg [iA 47 (iM 4),iA 48 (.call 28 [.t 47]),iA 49 (iF 8 6),iC (.st 1 [none] (.t 49) (.t 48))]))) (.seq (iS [iA 51 (iQ .eql 3 21 6),iA 50 (iM 51)] (iD 50 .skip (.reg [iA 52 (iQ .eql 3 21 7),iA 50 (iM 52)]))) (iD 50 (.reg [iA 53 (iM 4),iA 54 (.call 28 [.t 53]),iA 55 (iF 1 6),iC (.st 1 [none] (.t 55) (.t 54))]) .skip)))))))))) (iS [iA 56 (iT 11 6),iA 57 (iF 1 5),iC (.st 11 [none,none,none,none,none,none,some (2,103),none,none,none,none] (.t 57) (.t 56))] (.seq (iS [iA 58 (iM 4),iA 59 (iF 0 58),iA 60 (iF 2 59),iA 61 (iL 60),iA 62 (iM 61),iB 63 62 false (iM 0),iB 64 62 false (.bin .eql 9 (.t 63) (.c (.string ⟨⟨[]⟩⟩))),iA 65 (.pick (.t 62) (.c (.bool true)) (.t 64)),iA 66 (iM 65),iB 67 66 false (iT 12 5),iB 68 66 false (.call 30 [.t 67]),iB 69 66 false (iM 0),iB 70 66 false (iP .neq 9 68 69),iA 71 (.pick (.t 66) (.c (.bool true)) (.t 70))] (iD 71 (iS [iA 72 (.bld [.int .i64 0,.int .i64 0,.int .i64 0,.int .i64 0,.int .i64 0,.int .i64 0,.int .i64 0,.slice none 0 0,.int .i64 0,.int .i64 0,.int .i64 0,.int .i64 0] []),iC (.st 12 [none,none,none,none,none,none,none,some (2,103),none,none,none,none] (.t 2) (.t 72)),iA 3 (iO false)] .ret) .skip)) (iS [iA 73 (iT 12 5),iC (.st 12 [none,none,none,none,none,none,none,some (2,103),none,none,none,none] (.t 2) (.t 73)),iA 3 (iO true)] .ret))))))))
theorem jd7:fnC Try.prog Try.f7=some (jbH,[.cell 2 true 12,.t 3],74):=by kernel_rfl
theorem jhl (t:ByteArray) (ht:t.size≤1048576):kl Try.prog 7 [.c (.val (.string t))] (.tup [(true,jE (jig t).1),(false,[.val (.bool (jig t).2)])]):=by
 refine jaq [[1,1,1,0],[1,1,1,1,1],[1,1,1,1,1,1]] Try.func7 jd7 (by simp) ?_
 unfold jbH;simp only [C.ghs,C.ghAt,List.foldr];simp only [go_sem];intro b2;by_cases hbig:(400:Int)<(t.size:Int)
 ·have hr:jig t=(ntZ,false):=by rw [jig,if_pos (by omega)]
  rw [hr];simp only [go_sem,hbig,jE,jf,ja,jk];refine qv _ _ _ _ _ ?_;simp only [go_sem,jE,jf,ja,jk]
 have ht9:t.size≤1000000000:=by omega
 simp only [go_sem,hbig];intro b13;refine kK ?_;refine WkK.wk (s':=St.of [(0,.c (.v (.string t))),(2,Bx 200 b2),(4,Bx 89 b13)] [(200,jvw b2 28 0),(89,vK b13 56 t (0,false))]) (jl [some 200,some 1300] (by simp only [go_sem,vK]<;>and_intros<;>first|rfl|assumption|trivial)) ?_
 refine WkK.of ?_;simp only [go_sem];refine jn (kR t ht9 (0,false) b13 _ (by dsimp only;omega) (by simp only [go_sem])) (by simp only [go_sem]) ?_
 have s1:=kP (t:=t) (s:=(0,false)) (by dsimp only;omega)
 generalize hq1:qP t (0,false)=q1 at*;simp only [go_sem];intro b5;refine jn (kR t ht9 q1.2 b13 _ (by omega) (by simp only [go_sem])) (by simp only [go_sem]) ?_
 have s2:=kP s1;generalize hq2:qP t q1.2=q2 at*;simp only [go_sem];intro b6;refine kK (WkK.of ?_);refine jnG (fun i:{i:(Nt×(Int×Bool))×jm//jhf t (0,false)=i.1∧i.1.2.1≤t.size}=>St.of [(0,.c (.v (.string t))),(2,Bx 200 b2),(4,Bx 89 b13),(5,Bx 500 b5),(6,Bx 600 b6)] [(200,jvw b2 28 0),(89,vK b13 56 t i.1.1.2),(500,jvw b5 28 i.1.1.1.seq),(600,DdR b6 26 i.1.1.1.deed i.1.2)]) ?_ ?_
 ·simp only [go_sem]
  by_cases c1:q2.1=1
  ·have b1:(q2.1==1)=true:=by simp [c1]
   simp only [go_sem,b1];refine jn (kR t ht9 q2.2 b13 _ (by omega) (by simp only [go_sem])) (by simp only [go_sem]) ?_
   have s3:=kP s2;generalize hq3:qP t q2.2=q3 at*;simp only [go_sem];refine qo (by simp only [go_sem]) (jsm t ht9 q3.2 b13 _ s3 (by simp only [go_sem]) (by simp only [go_sem])) fun av o' ⟨p,q',f,hpl,hq',hav,hx1,o1,o2,hk⟩=>?_
   subst hav;have k2:=hk 200 (by decide) (by decide) (by decide)
   have k5:=hk 500 (by decide) (by decide) (by decide)
   have k6:=hk 600 (by decide) (by decide) (by decide)
   simp only [go_sem] at k2 k5 k6;simp only [go_sem,k6,hx1];have hn:jhf t (0,false)=(⟨q1.1,⟨q2.1,q3.1,p,0,0,0,0⟩⟩,q'):=by simp only [jhf,rdNt,hq1,hq2,if_pos c1,hq3,hpl]
   refine WkK.wk (s':=St.of [(0,.c (.v (.string t))),(2,Bx 200 b2),(4,Bx 89 b13),(5,Bx 500 b5),(6,Bx 600 b6)] [(200,jvw b2 28 0),(89,vK b13 56 t q'),(500,jvw b5 28 q1.1),(600,.box b6 26 [.a (.v (.int .i64 q2.1)),.a (.v (.int .i64 q3.1)),.a (.v (.int .i64 p.prio)),.a (.v (.int .i64 p.most)),.a (.v (.int .i64 p.wait)),.a (.v (.int .i64 p.tasks)),.a (.v (f [])),.a (.v (.int .i64 0)),.a (.v (.int .i64 0)),.a (.v (.int .i64 0)),.a (.v (.int .i64 0))]),(86,.loose (jt p.edges) f)]) (jl [some 200,some 89,some 500,some 600,some 86] (by simp only [go_sem,k2,k5,k6,o1,o2]<;>and_intros<;>first|rfl|assumption|trivial)) ?_
   refine qg 600 6 86 (d:=jt p.edges) (η:=f) rfl rfl rfl ?_;exact WkK.of ⟨⟨((⟨q1.1,⟨q2.1,q3.1,p,0,0,0,0⟩⟩,q'),f),hn,hq'⟩,jl [some 200,some 89,some 500,some 600] (by simp only [go_sem,jk]<;>and_intros<;>first|rfl|assumption|trivial)⟩
  have b1:(q2.1==1)=false:=by simp [c1]
  by_cases c2:q2.1=2
  ·have b2':(q2.1==2)=true:=by simp [c2]
   simp only [go_sem,b1,b2'];refine jn (kR t ht9 q2.2 b13 _ (by omega) (by simp only [go_sem])) (by simp only [go_sem]) ?_
   have s3:=kP s2;generalize hq3:qP t q2.2=q3 at*;simp only [go_sem];refine jn (kR t ht9 q3.2 b13 _ (by omega) (by simp only [go_sem])) (by simp only [go_sem]) ?_
   have s4:=kP s3;generalize hq4:qP t q3.2=q4 at*;simp only [go_sem];have hn:jhf t (0,false)=(⟨q1.1,⟨q2.1,0,⟨0,0,0,0,[]⟩,0,0,q3.1,q4.1⟩⟩,q4.2):=by simp only [jhf,rdNt,hq1,hq2,if_neg c1,if_pos c2,hq3,hq4]
   exact WkK.of ⟨⟨((_,q4.2),vT),hn,s4⟩,jl [some 200,some 89,some 500,some 600] (by simp only [go_sem,jk]<;>and_intros<;>first|rfl|assumption|trivial)⟩
  have b2':(q2.1==2)=false:=by simp [c2]
  by_cases c3:q2.1=3∨q2.1=4
  ·have hn:jhf t (0,false)=(⟨q1.1,⟨q2.1,(qP t q2.2).1,⟨0,0,0,0,[]⟩,(qP t (qP t q2.2).2).1,(qP t (qP t (qP t q2.2).2).2).1,0,0⟩⟩,(qP t (qP t (qP t q2.2).2).2).2):=by simp only [jhf,rdNt,hq1,hq2,if_neg c1,if_neg c2,if_pos c3]
   rcases c3 with c3|c3
   ·have b3:(q2.1==3)=true:=by simp [c3]
    simp only [go_sem,b1,b2',b3];refine jn (kR t ht9 q2.2 b13 _ (by omega) (by simp only [go_sem])) (by simp only [go_sem]) ?_
    have s3:=kP s2;generalize hq3:qP t q2.2=q3 at*;simp only [go_sem];refine jn (kR t ht9 q3.2 b13 _ (by omega) (by simp only [go_sem])) (by simp only [go_sem]) ?_
    have s4:=kP s3;generalize hq4:qP t q3.2=q4 at*;simp only [go_sem];refine jn (kR t ht9 q4.2 b13 _ (by omega) (by simp only [go_sem])) (by simp only [go_sem]) ?_
    have s5:=kP s4;generalize hq5:qP t q4.2=q5 at*;simp only [go_sem];exact WkK.of ⟨⟨((_,q5.2),vT),hn,s5⟩,jl [some 200,some 89,some 500,some 600] (by simp only [go_sem,jk]<;>and_intros<;>first|rfl|assumption|trivial)⟩
   ·have b3:(q2.1==3)=false:=by simp [c3]
    have b4:(q2.1==4)=true:=by simp [c3]
    simp only [go_sem,b1,b2',b3,b4];refine jn (kR t ht9 q2.2 b13 _ (by omega) (by simp only [go_sem])) (by simp only [go_sem]) ?_
    have s3:=kP s2;generalize hq3:qP t q2.2=q3 at*;simp only [go_sem];refine jn (kR t ht9 q3.2 b13 _ (by omega) (by simp only [go_sem])) (by simp only [go_sem]) ?_
    have s4:=kP s3;generalize hq4:qP t q3.2=q4 at*;simp only [go_sem];refine jn (kR t ht9 q4.2 b13 _ (by omega) (by simp only [go_sem])) (by simp only [go_sem]) ?_
    have s5:=kP s4;generalize hq5:qP t q4.2=q5 at*;simp only [go_sem];exact WkK.of ⟨⟨((_,q5.2),vT),hn,s5⟩,jl [some 200,some 89,some 500,some 600] (by simp only [go_sem,jk]<;>and_intros<;>first|rfl|assumption|trivial)⟩
  have b3:(q2.1==3)=false:=by simp;omega
  have b4:(q2.1==4)=false:=by simp;omega
  by_cases c6:q2.1=6∨q2.1=7
  ·have hn:jhf t (0,false)=(⟨q1.1,⟨q2.1,(qP t q2.2).1,⟨0,0,0,0,[]⟩,0,0,0,0⟩⟩,(qP t q2.2).2):=by simp only [jhf,rdNt,hq1,hq2,if_neg c1,if_neg c2,if_neg c3,if_pos c6]
   rcases c6 with c6|c6
   ·have b6':(q2.1==6)=true:=by simp [c6]
    simp only [go_sem,b1,b2',b3,b4,b6'];refine jn (kR t ht9 q2.2 b13 _ (by omega) (by simp only [go_sem])) (by simp only [go_sem]) ?_
    have s3:=kP s2;generalize hq3:qP t q2.2=q3 at*;simp only [go_sem];exact WkK.of ⟨⟨((_,q3.2),vT),hn,s3⟩,jl [some 200,some 89,some 500,some 600] (by simp only [go_sem,jk]<;>and_intros<;>first|rfl|assumption|trivial)⟩
   ·have b6':(q2.1==6)=false:=by simp [c6]
    have b7':(q2.1==7)=true:=by simp [c6]
    simp only [go_sem,b1,b2',b3,b4,b6',b7'];refine jn (kR t ht9 q2.2 b13 _ (by omega) (by simp only [go_sem])) (by simp only [go_sem]) ?_
    have s3:=kP s2;generalize hq3:qP t q2.2=q3 at*;simp only [go_sem];exact WkK.of ⟨⟨((_,q3.2),vT),hn,s3⟩,jl [some 200,some 89,some 500,some 600] (by simp only [go_sem,jk]<;>and_intros<;>first|rfl|assumption|trivial)⟩
  have b6':(q2.1==6)=false:=by simp;omega
  have b7':(q2.1==7)=false:=by simp;omega
  have hn:jhf t (0,false)=(⟨q1.1,⟨q2.1,0,⟨0,0,0,0,[]⟩,0,0,0,0⟩⟩,q2.2):=by simp only [jhf,rdNt,hq1,hq2,if_neg c1,if_neg c2,if_neg c3,if_neg c6]
  simp only [go_sem,b1,b2',b3,b4,b6',b7'];exact WkK.of ⟨⟨((_,q2.2),vT),hn,s2⟩,jl [some 200,some 89,some 500,some 600] (by simp only [go_sem,jk]<;>and_intros<;>first|rfl|assumption|trivial)⟩
 rintro ⟨⟨⟨n,q⟩,e0⟩,hn,hq⟩;dsimp only at hn hq;have hn':rdNt (some 31) (qP t) (fun s:Int×Bool=>s.2) (fun s=>(s.1,true)) (0,false)=(n,q):=hn
 have htot:zC n≤t.size+1:=by
  have:=(pot_S t).rdNt (some 31) (0,false);rw [hn'] at this;simp only [jpR] at this;simp at this;omega
 have hr:jig t=if q.2=true∨t.size=0∨jV n≠t then (ntZ,false) else (n,true):=by
  rw [jig,if_neg (by omega)]
  simp only [hn']
 rw [hr];obtain ⟨k,bad⟩:=q;cases bad;rotate_left
 ·rw [if_pos (.inl rfl)]
  simp only [go_sem,vK,jE,jf,ja,jk];refine qv _ _ _ _ _ ?_;simp only [go_sem,jE,jf,ja,jk]
 by_cases hz:t.size=0
 ·rw [if_pos (.inr (.inl hz))]
  have hz':decide (t.size=0)=true:=decide_eq_true hz;simp only [go_sem,vK,jh7,jmi,hz',jE,jf,ja,jk];refine qv _ _ _ _ _ ?_;simp only [go_sem,jE,jf,ja,jk]
 have hz':decide (t.size=0)=false:=decide_eq_false hz;simp only [go_sem,vK,jh7,jmi,hz',jE,jf,ja];refine jb (jhm n (by omega)) (by simp only [go_sem,jE,jf,ja]) fun η=>?_
 simp only [go_sem,jE,jf,ja];by_cases he:jV n=t
 ·have he':decide (jV n=t)=true:=decide_eq_true he
  rw [if_neg (by rintro (h|h|h); · cases h
                 ·exact hz h
                 ·exact h he)]
  simp only [go_sem,jh7,he',jE,jf,ja];refine qv _ _ _ _ _ ?_;simp only [go_sem,jE,jf,ja]
 ·have he':decide (jV n=t)=false:=decide_eq_false he
  rw [if_pos (.inr (.inr he))];simp only [go_sem,jh7,he',jE,jf,ja,jk];refine qv _ _ _ _ _ ?_;simp only [go_sem,jE,jf,ja,jk]
def jbP:C:=iS [iA 2 (.alloc 28 [.int .i64 0,.int .i64 0,.int .i64 0,.int .i64 0,.int .i64 0,.int .i64 0,.int .i64 0,.slice none 0 0,.int .i64 0,.int .i64 0,.int .i64 0,.int .i64 0]),iA 3 (iO false)] (iS [iA 11 (iM 0),iA 12 (.call 31 [.t 11]),iA 10 (iM 12),iA 13 (iE 10 0),iA 14 (iE 10 1),iA 4 (iM 13),iA 5 (iM 14)] (.seq (iS [iA 15 (iM 5),iA 16 (iU 15)] (iD 16 (iS [iA 17 (.bld [.int .i64 0,.int .i64 0,.int .i64 0,.int .i64 0,.int .i64 0,.int .i64 0,.int .i64 0,.slice none 0 0,.int .i64 0,.int .i64 0,.int .i64 0,.int .i64 0] []),iC (.st 12 [none,none,none,none,none,none,none,some (2,103),none,none,none,none] (.t 2) (.t 17)),iA 3 (iO false)] .ret) .skip)) (iS [iA 18 (iM 4),iA 19 (.bld [.slice none 0 0,.bool false] [(0,1,.t 18)]),iA 20 (.box 63 2 (.t 19)),iA 6 (iM 20)] (iS [iA 21 (iM 6),iA 22 (.call 32 [.t 21]),iA 23 (.bld [.int .i64 0,.int .i64 0,.int .i64 0,.int .i64 0,.int .i64 0,.int .i64 0,.int .i64 0,.slice none 0 0,.int .i64 0,.int .i64 0,.int .i64 0,.int .i64 0] [(0,1,.t 22)]),iA 7 (.alloc 28 [.int .i64 0,.int .i64 0,.int .i64 0,.int .i64 0,.int .i64 0,.int .i64 0,.int .i64 0,.slice none 0 0,.int .i64 0,.int .i64 0,.int .i64 0,.int .i64 0]),iC (.st 12 [none,none,none,none,none,none,none,some (2,103),none,none,none,none] (.t 7) (.t 23))] (iS [iA 24 (iM 6),iA 25 (.call 32 [.t 24]),iA 26 (iF 1 7),iA 27 (iF 0 26),iC (.st 1 [none] (.t 27) (.t 25))] (iS [iA 28 (iF 1 7),iA 8 (iM 28)] (.seq (iS [iA 29 (iM 8),iA 30 (iF 0 29),iA 31 (iF 0 30),iA 32 (iL 31)] (.blk 0 (iS [iA 34 (iQ .eql 3 32 1),iA 33 (iM 34)] (iD 33 (iS [iA 35 (iM 8),iA 36 (iM 6),iA 37 (.call 32 [.t 36]),iA 38 (iF 0 35),iA 39 (iF 1 38),iC (.st 1 [none] (.t 39) (.t 37))] (.reg [iA 40 (iM 8),iA 41 (iM 6),iA 42 (.call 33 [.t 41]),iA 43 (iF 0 40),iA 44 (iF 2 43),iC (.st 5 [none,none,none,none,some (2,103)] (.t 44) (.t 42))])) (iS [iA 46 (iQ .eql 3 32 2),iA 45 (iM 46)] (iD 45 (.reg [iA 47 (iM 8),iA 48 (iM 8),iA 49 (iM 6),iA 50 (.call 32 [.t 49]),iA 51 (iM 6),iA 52 (.call 32 [.t 51]),iA 53 (iF 0 47),iA 54 (iF 9 53),iC (.st 1 [none] (.t 54) (.t 50)),iA 55 (iF 0 48),iA 56 (iF 10 55),iC (.st 1 [none] (.t 56) (.t 52))]) (.seq (iS [iA 58 (iQ .eql 3 32 3),iA 57 (iM 58)] (iD 57 .skip (.reg [iA 59 (iQ .eql 3 32 4),iA 57 (iM 59)]))) (iD 57 (.reg [iA 60 (iM 8),iA 61 (iM 8),iA 62 (iM 8),iA 63 (iM 6),iA 64 (.call 32 [.t 63]),iA 65 (iM 6),iA 66 (.call 32 [.t 65]),iA 67 (iM 6),iA 68 (.call 32 [.t 67]),iA 69 (iF 0 60),iA 70 (iF 1 69),iC (.st 1 [none] (.t 70) (.t 64)),iA 71 (iF 0 61),iA 72 (iF 7 71),iC (.st 1 [none] (.t 72) (.t 66)),iA 73 (iF 0 62),iA 74 (iF 8 73),iC (.st 1 [none] (.t 74) (.t 68))]) (.seq (iS [iA 76 (iQ .eql 3 32 6),iA 75 (iM 76)] (iD 75 .skip (.reg [iA 77 (iQ .eql 3 32 7),iA 75 (iM 77)]))) (iD 75 (.reg [iA 78 (iM 8),iA 79 (iM 6),iA 80 (.call 32 [.t 79]),iA 81 (iF 0 78),iA 82 (iF 1 81),iC (.st 1 [none] (.t 82) (.t 80))]) .skip)))))))))) (iS [iA 83 (iT 12 7),iA 84 (.call 27 [.t 83]),iA 9 (iM 84)] (.seq (iS [iA 85 (iM 6),iA 86 (iF 0 85),iA 87 (iF 1 86),iA 88 (iL 87),iA 89 (iM 88),iB 90 89 false (iM 9),iB 91 89 false (.bin .eql 9 (.t 90) (.c (.string ⟨⟨[]⟩⟩))),iA 92 (.pick (.t 89) (.c (.bool true)) (.t 91)),iA 93 (iM 92),iB 94 93 false (iM 9),iB 95 93 false (iM 0),iB 96 93 false (iP .neq 9 94 95),iA 97 (.pick (.t 93) (.c (.bool true)) (.t 96))] (iD 97 (iS [iA 98 (.bld [.int .i64 0,.int .i64 0,.int .i64 0,.int .i64 0,.int .i64 0,.int .i64 0,.int .i64 0,.slice none 0 0,.int .i64 0,.int .i64 0,.int .i64 0,.int .i64 0] []),iC (.st 12 [none,none,none,none,none,none,none,some (2,103),none,none,none,none] (.t 2) (.t 98)),iA 3 (iO false)] .ret) .skip)) (iS [iA 99 (iT 12 7),iC (.st 12 [none,none,none,none,none,none,none,some (2,103),none,none,none,none] (.t 2) (.t 99)),iA 3 (iO true)] .ret))))))))))
theorem jef:fnC Try.prog Try.f8=some (jbP,[.cell 2 true 12,.t 3],100):=by kernel_rfl
theorem jhq (t:ByteArray) (ht:t.size≤1048576):kl Try.prog 8 [.c (.val (.string t))] (.tup [(true,jE (jih t).1),(false,[.val (.bool (jih t).2)])]):=by
 refine jaq [[1,1,1,1],[1,1,1,1,1,1,1],[1,1,1,1,1,1,1,1]] Try.func8 jef (by simp) ?_
 unfold jbP;simp only [C.ghs,C.ghAt,List.foldr];have ht9:t.size≤1000000000:=by omega
 simp only [go_sem];intro b2;refine jb (jhp t ht9) (by simp only [go_sem]) fun η12=>?_
 simp only [go_sem];cases hrv:rvF t.size t.data.toList with
 |none=>
  have hr:jih t=(ntZ,false):=by rw [jih,hrv]
  have hrr:rvR t=([],false):=by rw [rvR,hrv]
  rw [hr];simp only [go_sem,hrr,jE,jf,ja,jk];refine qv _ _ _ _ _ ?_;simp only [go_sem,jE,jf,ja,jk]
 |some L=>
 have hrr:rvR t=(L,true):=by rw [rvR,hrv]
 have hLt:L.length≤t.size:=by have:=jrd _ _ _ hrv;rwa [Array.length_toList] at this
 have hin:=(jnK _ _ _ hrv).2;have hL9:L.length≤1000000000:=by omega
 simp only [go_sem,hrr];intro b20;refine kK ?_;refine WkK.wk (s':=St.of [(0,.c (.v (.string t))),(2,Bx 200 b2),(6,Bx 88 b20)] [(200,jvw b2 28 0),(88,.box b20 63 [.own (jo L) (η12 0),.a (.v (.bool false))])]) (jl [some 200,some 2000] (by simp only [go_sem]<;>and_intros<;>first|rfl|assumption|trivial)) ?_
 generalize η12 0=ηL;refine jgW 88 0 87 (d:=jo L) (η:=ηL) rfl rfl rfl (by decide) (show 0<1 from Nat.zero_lt_one) ?_
 refine WkK.wk (s':=St.of [(0,.c (.v (.string t))),(2,Bx 200 b2),(6,Bx 88 b20)] [(200,jvw b2 28 0),(88,zF b20 63 ηL L (0,false)),(87,.loose (jo L) ηL)]) (jl [some 200,some 88,some 87] (by simp only [go_sem,zF,Nat.sub_zero]<;>and_intros<;>first|rfl|assumption|trivial)) ?_
 refine WkK.of ?_;have s0:((0,false):Nat×Bool).1≤L.length:=Nat.zero_le _;simp only [go_sem];refine jn (kp L (0,false) b20 ηL _ s0 (by simp only [go_sem]) (by simp only [go_sem])) (by simp only [go_sem]) ?_
 have s1:=kQ s0;generalize hq1:vd L (0,false)=q1 at*;simp only [go_sem];intro b7;refine jn (kp L q1.2 b20 ηL _ s1 (by simp only [go_sem]) (by simp only [go_sem])) (by simp only [go_sem]) ?_
 have s2:=kQ s1;generalize hq2:vd L q1.2=q2 at*;simp only [go_sem];refine kK (WkK.of ?_);refine jnG (fun i:{i:(Nt×(Nat×Bool))×jm//jhg L (0,false)=i.1∧i.1.2.1≤L.length}=>St.of [(0,.c (.v (.string t))),(2,Bx 200 b2),(6,Bx 88 b20),(7,Bx 700 b7)] [(200,jvw b2 28 0),(88,zF b20 63 ηL L i.1.1.2),(87,.loose (jo L) ηL),(700,NtR b7 28 i.1.1.1 i.1.2)]) ?_ ?_
 ·simp only [go_sem]
  by_cases c1:q2.1=1
  ·have b1:(q2.1==1)=true:=by simp [c1]
   simp only [go_sem,b1];refine jn (kp L q2.2 b20 ηL _ s2 (by simp only [go_sem]) (by simp only [go_sem])) (by simp only [go_sem]) ?_
   have s3:=kQ s2;generalize hq3:vd L q2.2=q3 at*;simp only [go_sem];refine qo (by simp only [go_sem]) (juK L hin hL9 q3.2 b20 ηL _ s3 (by simp only [go_sem]) (by simp only [go_sem]) (by simp only [go_sem])) fun av o' ⟨p,q',f,hpl,hq',hav,hx1,o1,o2,hk⟩=>?_
   subst hav;have k2:=hk 200 (by decide) (by decide) (by decide)
   have k87:=hk 87 (by decide) (by decide) (by decide)
   have k7:=hk 700 (by decide) (by decide) (by decide)
   simp only [go_sem] at k2 k87 k7;simp only [go_sem,k7,hx1];have hn:jhg L (0,false)=(⟨q1.1,⟨q2.1,q3.1,p,0,0,0,0⟩⟩,q'):=by simp only [jhg,rdNt,hq1,hq2,if_pos c1,hq3,hpl]
   refine WkK.wk (s':=St.of [(0,.c (.v (.string t))),(2,Bx 200 b2),(6,Bx 88 b20),(7,Bx 700 b7)] [(200,jvw b2 28 0),(88,zF b20 63 ηL L q'),(87,.loose (jo L) ηL),(700,.box b7 28 [.a (.v (.int .i64 q1.1)),.a (.v (.int .i64 q2.1)),.a (.v (.int .i64 q3.1)),.a (.v (.int .i64 p.prio)),.a (.v (.int .i64 p.most)),.a (.v (.int .i64 p.wait)),.a (.v (.int .i64 p.tasks)),.a (.v (f [])),.a (.v (.int .i64 0)),.a (.v (.int .i64 0)),.a (.v (.int .i64 0)),.a (.v (.int .i64 0))]),(86,.loose (jt p.edges) f)]) (jl [some 200,some 88,some 87,some 700,some 86] (by simp only [go_sem,k2,k87,k7,o1,o2]<;>and_intros<;>first|rfl|assumption|trivial)) ?_
   refine qg 700 7 86 (d:=jt p.edges) (η:=f) rfl rfl rfl ?_;exact WkK.of ⟨⟨((⟨q1.1,⟨q2.1,q3.1,p,0,0,0,0⟩⟩,q'),f),hn,hq'⟩,jl [some 200,some 88,some 87,some 700] (by simp only [go_sem,jk]<;>and_intros<;>first|rfl|assumption|trivial)⟩
  have b1:(q2.1==1)=false:=by simp [c1]
  by_cases c2:q2.1=2
  ·have b2':(q2.1==2)=true:=by simp [c2]
   simp only [go_sem,b1,b2'];refine jn (kp L q2.2 b20 ηL _ s2 (by simp only [go_sem]) (by simp only [go_sem])) (by simp only [go_sem]) ?_
   have s3:=kQ s2;generalize hq3:vd L q2.2=q3 at*;simp only [go_sem];refine jn (kp L q3.2 b20 ηL _ s3 (by simp only [go_sem]) (by simp only [go_sem])) (by simp only [go_sem]) ?_
   have s4:=kQ s3;generalize hq4:vd L q3.2=q4 at*;simp only [go_sem];have hn:jhg L (0,false)=(⟨q1.1,⟨q2.1,0,⟨0,0,0,0,[]⟩,0,0,q3.1,q4.1⟩⟩,q4.2):=by simp only [jhg,rdNt,hq1,hq2,if_neg c1,if_pos c2,hq3,hq4]
   exact WkK.of ⟨⟨((_,q4.2),vT),hn,s4⟩,jl [some 200,some 88,some 87,some 700] (by simp only [go_sem,jk]<;>and_intros<;>first|rfl|assumption|trivial)⟩
  have b2':(q2.1==2)=false:=by simp [c2]
  by_cases c3:q2.1=3∨q2.1=4
  ·have hn:jhg L (0,false)=(⟨q1.1,⟨q2.1,(vd L q2.2).1,⟨0,0,0,0,[]⟩,(vd L (vd L q2.2).2).1,(vd L (vd L (vd L q2.2).2).2).1,0,0⟩⟩,(vd L (vd L (vd L q2.2).2).2).2):=by simp only [jhg,rdNt,hq1,hq2,if_neg c1,if_neg c2,if_pos c3]
   rcases c3 with c3|c3
   ·have b3:(q2.1==3)=true:=by simp [c3]
    simp only [go_sem,b1,b2',b3];refine jn (kp L q2.2 b20 ηL _ s2 (by simp only [go_sem]) (by simp only [go_sem])) (by simp only [go_sem]) ?_
    have s3:=kQ s2;generalize hq3:vd L q2.2=q3 at*;simp only [go_sem];refine jn (kp L q3.2 b20 ηL _ s3 (by simp only [go_sem]) (by simp only [go_sem])) (by simp only [go_sem]) ?_
    have s4:=kQ s3;generalize hq4:vd L q3.2=q4 at*;simp only [go_sem];refine jn (kp L q4.2 b20 ηL _ s4 (by simp only [go_sem]) (by simp only [go_sem])) (by simp only [go_sem]) ?_
    have s5:=kQ s4;generalize hq5:vd L q4.2=q5 at*;simp only [go_sem];exact WkK.of ⟨⟨((_,q5.2),vT),hn,s5⟩,jl [some 200,some 88,some 87,some 700] (by simp only [go_sem,jk]<;>and_intros<;>first|rfl|assumption|trivial)⟩
   ·have b3:(q2.1==3)=false:=by simp [c3]
    have b4:(q2.1==4)=true:=by simp [c3]
    simp only [go_sem,b1,b2',b3,b4];refine jn (kp L q2.2 b20 ηL _ s2 (by simp only [go_sem]) (by simp only [go_sem])) (by simp only [go_sem]) ?_
    have s3:=kQ s2;generalize hq3:vd L q2.2=q3 at*;simp only [go_sem];refine jn (kp L q3.2 b20 ηL _ s3 (by simp only [go_sem]) (by simp only [go_sem])) (by simp only [go_sem]) ?_
    have s4:=kQ s3;generalize hq4:vd L q3.2=q4 at*;simp only [go_sem];refine jn (kp L q4.2 b20 ηL _ s4 (by simp only [go_sem]) (by simp only [go_sem])) (by simp only [go_sem]) ?_
    have s5:=kQ s4;generalize hq5:vd L q4.2=q5 at*;simp only [go_sem];exact WkK.of ⟨⟨((_,q5.2),vT),hn,s5⟩,jl [some 200,some 88,some 87,some 700] (by simp only [go_sem,jk]<;>and_intros<;>first|rfl|assumption|trivial)⟩
  have b3:(q2.1==3)=false:=by simp;omega
  have b4:(q2.1==4)=false:=by simp;omega
  by_cases c6:q2.1=6∨q2.1=7
  ·have hn:jhg L (0,false)=(⟨q1.1,⟨q2.1,(vd L q2.2).1,⟨0,0,0,0,[]⟩,0,0,0,0⟩⟩,(vd L q2.2).2):=by simp only [jhg,rdNt,hq1,hq2,if_neg c1,if_neg c2,if_neg c3,if_pos c6]
   rcases c6 with c6|c6
   ·have b6':(q2.1==6)=true:=by simp [c6]
    simp only [go_sem,b1,b2',b3,b4,b6'];refine jn (kp L q2.2 b20 ηL _ s2 (by simp only [go_sem]) (by simp only [go_sem])) (by simp only [go_sem]) ?_
    have s3:=kQ s2;generalize hq3:vd L q2.2=q3 at*;simp only [go_sem];exact WkK.of ⟨⟨((_,q3.2),vT),hn,s3⟩,jl [some 200,some 88,some 87,some 700] (by simp only [go_sem,jk]<;>and_intros<;>first|rfl|assumption|trivial)⟩
   ·have b6':(q2.1==6)=false:=by simp [c6]
    have b7':(q2.1==7)=true:=by simp [c6]
    simp only [go_sem,b1,b2',b3,b4,b6',b7'];refine jn (kp L q2.2 b20 ηL _ s2 (by simp only [go_sem]) (by simp only [go_sem])) (by simp only [go_sem]) ?_
    have s3:=kQ s2;generalize hq3:vd L q2.2=q3 at*;simp only [go_sem];exact WkK.of ⟨⟨((_,q3.2),vT),hn,s3⟩,jl [some 200,some 88,some 87,some 700] (by simp only [go_sem,jk]<;>and_intros<;>first|rfl|assumption|trivial)⟩
  have b6':(q2.1==6)=false:=by simp;omega
  have b7':(q2.1==7)=false:=by simp;omega
  have hn:jhg L (0,false)=(⟨q1.1,⟨q2.1,0,⟨0,0,0,0,[]⟩,0,0,0,0⟩⟩,q2.2):=by simp only [jhg,rdNt,hq1,hq2,if_neg c1,if_neg c2,if_neg c3,if_neg c6]
  simp only [go_sem,b1,b2',b3,b4,b6',b7'];exact WkK.of ⟨⟨((_,q2.2),vT),hn,s2⟩,jl [some 200,some 88,some 87,some 700] (by simp only [go_sem,jk]<;>and_intros<;>first|rfl|assumption|trivial)⟩
 rintro ⟨⟨⟨n,q⟩,e0⟩,hn,hq⟩;dsimp only at hn hq;have hn':rdNt none (vd L) (fun s:Nat×Bool=>s.2) (fun s=>(s.1,true)) (0,false)=(n,q):=hn
 have htot:zC n≤L.length+1:=by
  have:=(pot_L L).rdNt none (0,false);rw [hn'] at this;simp only [jr9] at this;simpa using this
 have hr:jih t=if q.2=true∨(jV n).size=0∨jV n≠t then (ntZ,false) else (n,true):=by
  rw [jih,hrv];simp only [hn']
 rw [hr];obtain ⟨k,bad⟩:=q;simp only [go_sem,jE,jf,ja];refine jb (zf n (by omega)) (by simp only [go_sem,jE,jf,ja]) fun η=>?_
 simp only [go_sem,jE,jf,ja];cases bad;rotate_left
 ·rw [if_pos (.inl rfl)]
  simp only [go_sem,zF,jE,jf,ja,jk];refine qv _ _ _ _ _ ?_;simp only [go_sem,jE,jf,ja,jk]
 by_cases hz:(jV n).size=0
 ·rw [if_pos (.inr (.inl hz))]
  have hz':decide ((jV n).size=0)=true:=decide_eq_true hz;simp only [go_sem,zF,jh7,jmi,hz',jE,jf,ja,jk];refine qv _ _ _ _ _ ?_;simp only [go_sem,jE,jf,ja,jk]
 have hz':decide ((jV n).size=0)=false:=decide_eq_false hz;by_cases he:jV n=t
 ·have he':decide (jV n=t)=true:=decide_eq_true he
  rw [if_neg (by rintro (h|h|h); · cases h
                 ·exact hz h
                 ·exact h he)]
  simp only [go_sem,zF,jh7,jmi,hz',he',jE,jf,ja];refine qv _ _ _ _ _ ?_;simp only [go_sem,jE,jf,ja]
 ·have he':decide (jV n=t)=false:=decide_eq_false he
  rw [if_pos (.inr (.inr he))];simp only [go_sem,zF,jh7,jmi,hz',he',jE,jf,ja,jk];refine qv _ _ _ _ _ ?_;simp only [go_sem,jE,jf,ja,jk]
end Go.Proofs.Ytmnpailnelmpiaa
