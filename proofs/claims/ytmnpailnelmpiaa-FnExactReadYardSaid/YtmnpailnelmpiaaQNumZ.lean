/- Parts. -/
import Derived.Test.YtmnpailnelmpiaaQNumY
set_option linter.unusedSimpArgs false
set_option linter.unusedVariables false
set_option maxHeartbeats 4000000
set_option maxRecDepth 100000
namespace Go.Proofs.Ytmnpailnelmpiaa
open Go.RowKit Go.Sort
abbrev ZRnR (b ty:Nat):Ob:=.box b ty [.a (.v (.int .i64 0)),.a (.v (.int .i64 0)),.a (.v (.int .i64 0)),.a (.v (.int .i64 0)),.a (.v (.int .i64 0)),.a (.v (.slice none 0 0)),.a (.v (.int .i64 0)),.a (.v (.slice none 0 0))]
abbrev jra (b ty:Nat) (id:Int) (p:Pl) (e:jm) (st:Int) (T:List Tk) (η:jm):Ob:=.box b ty [.a (.v (.int .i64 id)),.a (.v (.int .i64 p.prio)),.a (.v (.int .i64 p.most)),.a (.v (.int .i64 p.wait)),.a (.v (.int .i64 p.tasks)),.a (.v (e [])),.a (.v (.int .i64 st)),.own (km T) η]
theorem jiW (l:List Tk) (a b c d:Int):D.sl 4 tTk (l.flatMap jn++[.val (.int .i64 a),.val (.int .i64 b),.val (.int .i64 c),.val (.int .i64 d)])=km (l++[⟨a,b,c,d⟩]):=jmj l ⟨a,b,c,d⟩
def jcE:C:=iS [iA 2 (.alloc 78 [.int .i64 0,.int .i64 0,.int .i64 0,.int .i64 0,.int .i64 0,.slice none 0 0,.int .i64 0,.slice none 0 0])] (iS [iA 5 (iM 0),iA 6 (.call 28 [.t 5]),iA 7 (.bld [.int .i64 0,.int .i64 0,.int .i64 0,.int .i64 0,.int .i64 0,.slice none 0 0,.int .i64 0,.slice none 0 0] [(0,1,.t 6)]),iA 3 (.alloc 78 [.int .i64 0,.int .i64 0,.int .i64 0,.int .i64 0,.int .i64 0,.slice none 0 0,.int .i64 0,.slice none 0 0]),iC (.st 8 [none,none,none,none,none,some (2,103),none,some (4,84)] (.t 3) (.t 7))] (iS [iA 8 (iM 0),iA 9 (.call 29 [.t 8]),iA 10 (iF 1 3),iC (.st 5 [none,none,none,none,some (2,103)] (.t 10) (.t 9))] (iS [iA 11 (iM 0),iA 12 (.call 28 [.t 11]),iA 13 (iF 6 3),iC (.st 1 [none] (.t 13) (.t 12))] (.seq (iS [iA 14 (iF 1 3),iA 15 (iF 3 14),iA 16 (iL 15),iA 17 (iQ .gtr 3 16 12)] (iD 17 (.reg [iA 18 (iM 0),iA 19 (iF 0 18),iA 20 (iF 2 19),iC (.st 1 [none] (.t 20) (.c (.bool true)))]) .skip)) (.seq (iS [iA 4 (iN 0)] (.blk 0 (.loop (.seq (iS [iA 21 (iM 4),iA 22 (iF 1 3),iA 23 (iF 3 22),iA 24 (iL 23),iA 25 (iP .lss 3 21 24),iA 26 (iM 25),iB 27 26 true (iM 0),iB 28 26 true (iF 0 27),iB 29 26 true (iF 2 28),iB 30 26 true (iL 29),iB 31 26 true (iU 30),iA 32 (.pick (.t 26) (.t 31) (.c (.bool false)))] (iD 32 .skip (.exit 0))) (.seq (.blk 1 (.dreg (T.pure 0 (iA 35 (iF 7 3)) (T.pure 1 (iA 36 (iL 35)) (T.pure 2 (iA 37 (iM 0)) (T.pure 4 (iA 39 (iM 0)) (T.pure 6 (iA 41 (iM 0)) (T.pure 8 (iA 43 (iM 0)) (T.alt (iA 38 (.call 28 [.t 37])) [8,6,4,1,0] (T.alt (iA 40 (.call 28 [.t 39])) [8,6,1,0] (T.alt (iA 42 (.call 28 [.t 41])) [8,1,0] (T.alt (iA 44 (.call 28 [.t 43])) [1,0] (T.pure 10 (iA 45 (.bld [.int .i64 0,.int .i64 0,.int .i64 0,.int .i64 0] [(0,1,.t 38),(1,1,.t 40),(2,1,.t 42),(3,1,.t 44)])) (T.alt (iA 46 (.bsl 84 4 1 [none,none,none,none] [(0,4,.t 45)])) [1,0] (T.alt (iA 47 (.app 84 4 32 (.t 36) (.t 46))) [] (T.pure 13 (iA 48 (iF 7 3)) (T.alt (iC (.st 1 [some (4,84)] (.t 48) (.t 47))) [] T.done T.stop)) T.stop) T.stop)) T.stop) T.stop) T.stop) T.stop))))))))) (.reg [iA 33 (iM 4),iA 34 (iQ .add 3 33 1),iA 4 (iM 34)])))))) (iS [iA 49 (iT 8 3),iC (.st 8 [none,none,none,none,none,some (2,103),none,some (4,84)] (.t 2) (.t 49))] .ret))))))
theorem jd7:fnC Try.prog Try.f44=some (jcE,[.cell 2 true 8],50):=by kernel_rfl
theorem jsr (t:ByteArray) (ht:t.size≤1000000000) (s:Int×Bool) (b:Nat) (o:Nat→Ob) (hs:s.1≤t.size) (ho:o 89=jK b 56 t s) (h86:o 86=.none):
 Inl Try.prog 44 [Bx 89 b] o fun av o2=>∃(r:Rn) (s':Int×Bool) (e1 e2:jm) (b2:Nat),rdRn (some 31) (some 12) (kh t) (·.2) (fun s=>(s.1,true)) s=(r,s')∧s'.1≤t.size∧
  av=.agg [.v (.int .i64 r.id),.v (.int .i64 r.plan.prio),.v (.int .i64 r.plan.most),.v (.int .i64 r.plan.wait),.v (.int .i64 r.plan.tasks),.h 800000200 5 [] (e1 []),.v (.int .i64 r.state),.h 800000200 7 [] (e2 [])]∧o2 800000200=.box b2 78 [.a (.v (.int .i64 r.id)),.a (.v (.int .i64 r.plan.prio)),.a (.v (.int .i64 r.plan.most)),.a (.v (.int .i64 r.plan.wait)),.a (.v (.int .i64 r.plan.tasks)),.own (jv r.plan.edges) e1,.a (.v (.int .i64 r.state)),.own (km r.tasks) e2]∧o2 89=jK b 56 t s'∧∀g,g<800000000→g≠89→o2 g=o g:=by
 refine jim (β:=8000000) [[1,1,1,1,1,1,0]] Try.func44 jd7 (by simp) ?_
 unfold jcE;simp only [C.ghs,C.ghAt,List.foldr];simp only [go_sem];intro b2;refine jl (jN t ht s b _ (by omega) (by simp only [go_sem,ho])) (by simp only [go_sem]) ?_
 have s1:=jL hs;generalize hq1:kh t s=q1 at*;simp only [go_sem];intro b3;refine vq (by simp only [go_sem]) (jil t ht q1.2 b _ s1 (by simp only [go_sem]) (by simp only [go_sem,h86])) fun av o' ⟨p,q2,e1,hp,s2,hav,hx1,o1,o2,hk⟩=>?_
 subst hav;have k2:=hk 800000200 (by decide) (by decide) (by decide)
 have k3:=hk 800000300 (by decide) (by decide) (by decide)
 simp only [go_sem] at k2 k3;simp only [go_sem,k3,hx1];refine jl (jN t ht q2 b _ (by omega) (by simp only [go_sem,o2])) (by simp only [go_sem]) ?_
 have s3:=jL s2;generalize hq3:kh t q2=q3 at*
 have hpt:qG p.tasks:=by
  have e:p.tasks=(rdPl (some 31) (kh t) (fun s:Int×Bool=>s.2) (fun s=>(s.1,true)) q1.2).1.tasks:=by rw [hp]
  rw [e];exact jg3 t _
 have hall:∀g,g<800000000→o' g=if g=89 then jK b 56 t q2 else if g=86 then .loose (jv p.edges) e1 else o g:=fun g hg=>by
  by_cases h1:g=89
  ·subst h1;rw [o2];rfl
  ·by_cases h2:g=86
   ·subst h2;rw [o1];rfl
   ·rw [hk g (by omega) h2 h1,if_neg h1,if_neg h2]
    simp only [go_sem,h1,h2,ko hg 800000200 (by omega),ko hg 800000300 (by omega),if_false]
 obtain ⟨m,hm0⟩:=Int.eq_ofNat_of_zero_le hpt.1;have hm1:=hpt.2;rw [hm0] at hm1;have hm':p.tasks=(m:Int):=hm0;obtain ⟨q3v,k5,b5⟩:=q3;dsimp only at s3;by_cases hcap:(m:Int)>12
 ·have hcap':(12:Int)<(m:Int):=hcap
  have h0m:(0:Int)<(m:Int):=by omega
  have hst:kb (·.2) (jhw (kh t)) m ([],(k5,true))=([],(k5,true)):=qy rfl _
  have hrd:rdRn (some 31) (some 12) (kh t) (·.2) (fun s=>(s.1,true)) s=(⟨q1.1,p,q3v,[]⟩,(k5,true)):=by
   simp only [rdRn,hq1,hp,hq3,zb,hm',Int.toNat_natCast,if_pos hcap,hst]
  simp only [go_sem,k3,hm',hcap',jK];refine jag 1 ?_;simp only [go_sem,h0m,Bool.not_true,hm',k3];refine qW ?_;refine WkK.wk (s':=St.ofB [(0,Bx 89 b),(2,Bx 800000200 b2),(3,Bx 800000300 b3)] [(800000200,ZRnR b2 78),(800000300,jra b3 78 q1.1 p e1 q3v [] jad)] 800000000 (fun j=>if j=89 then jK b 56 t (k5,true) else if j=86 then .loose (jv p.edges) e1 else o j)) (jah [some 800000200,some 800000300] (by simp only [go_sem,zj,hall,k2,hm',jK]<;>and_intros<;>first|rfl|assumption|trivial) (fun j hj=>by by_cases e89:j=89<;>by_cases e86:j=86<;>simp only [go_sem,e89,e86,hj,if_true,if_false,ko hj 800000200 (by omega),ko hj 800000300 (by omega),zj,hall,k2,hm',jK]) (by decide)) ?_
  refine zc 800000300 5 86 (d:=jv p.edges) (η:=e1) rfl rfl rfl ?_;refine WkK.of ?_;simp only [go_sem,hx1]
  exact ⟨⟨q1.1,p,q3v,[]⟩,(k5,true),e1,jad,b2,hrd,s3,by simp only [hm'];rfl,by simp only [hm'],rfl,fun g g1 g4=>by
   by_cases g2:g=86
   ·subst g2;exact h86.symm
   ·simp only [g2,g4,g1,ko g1 800000200 (by omega),ko g1 800000300 (by omega),if_true,if_false]⟩
 have hcap':¬(12:Int)<(m:Int):=hcap;simp only [go_sem,k3,hm',hcap'];refine jp (fun i:(Nat×List Tk×(Int×Bool))×jm=>St.ofB [(0,Bx 89 b),(2,Bx 800000200 b2),(3,Bx 800000300 b3),(4,Ni i.1.1)] [(800000200,ZRnR b2 78),(800000300,jra b3 78 q1.1 p e1 q3v i.1.2.1 i.2)] 800000000 (fun j=>if j=89 then jK b 56 t i.1.2.2 else if j=86 then .loose (jv p.edges) e1 else o j)) (fun i=>RowsAt (·.2) (jhw (kh t)) m (k5,b5) i.1.1 i.1.2.1 i.1.2.2∧i.1.2.2.1≤t.size) (fun i=>m-i.1.1) ((0,[],(k5,b5)),jad) (⟨RowsAt.start _ _,s3⟩) (jah [some 800000200,some 800000300] (by simp only [go_sem,zj,hall,k2,hm']<;>and_intros<;>first|rfl|assumption|trivial) (fun j hj=>by by_cases e89:j=89<;>by_cases e86:j=86<;>simp only [go_sem,e89,e86,hj,if_true,if_false,ko hj 800000200 (by omega),ko hj 800000300 (by omega),zj,hall,k2,hm']) (by decide)) ?_
 rintro ⟨⟨i,E,q⟩,e0⟩ ⟨hR,hq⟩;dsimp only at hR hq;have hle:=hR.le;have hlen:=hR.len;by_cases hlt:i<m;rotate_left
 ·have hlt':¬(i:Int)<(m:Int):=by omega
  have hst:=hR.stop (.inl (by omega))
  have hrd:rdRn (some 31) (some 12) (kh t) (·.2) (fun s=>(s.1,true)) s=(⟨q1.1,p,q3v,E⟩,q):=by
   simp only [rdRn,hq1,hp,hq3,zb,hm',Int.toNat_natCast,if_neg hcap,hst]
  simp only [go_sem,hm',hlt'];refine qW ?_;refine zc 800000300 5 86 (d:=jv p.edges) (η:=e1) rfl rfl rfl ?_;refine WkK.of ?_;simp only [go_sem,hx1]
  exact ⟨⟨q1.1,p,q3v,E⟩,q,e1,e0,b2,hrd,hq,by simp only [hm'],by simp only [hm'],rfl,fun g g1 g4=>by
   by_cases g2:g=86
   ·subst g2;exact h86.symm
   ·simp only [g2,g4,g1,ko g1 800000200 (by omega),ko g1 800000300 (by omega),if_true,if_false]⟩
 have hlt':(i:Int)<(m:Int):=by omega
 obtain ⟨k,bad⟩:=q;cases bad;rotate_left
 ·have hst:=hR.stop (.inr rfl)
  have hrd:rdRn (some 31) (some 12) (kh t) (·.2) (fun s=>(s.1,true)) s=(⟨q1.1,p,q3v,E⟩,(k,true)):=by
   simp only [rdRn,hq1,hp,hq3,zb,hm',Int.toNat_natCast,if_neg hcap,hst]
  simp only [go_sem,hm',hlt',jK,Bool.not_true];refine qW ?_;refine zc 800000300 5 86 (d:=jv p.edges) (η:=e1) rfl rfl rfl ?_;refine WkK.of ?_;simp only [go_sem,hx1]
  exact ⟨⟨q1.1,p,q3v,E⟩,(k,true),e1,e0,b2,hrd,hq,by simp only [hm'],by simp only [hm'],rfl,fun g g1 g4=>by
   by_cases g2:g=86
   ·subst g2;exact h86.symm
   ·simp only [g2,g4,g1,ko g1 800000200 (by omega),ko g1 800000300 (by omega),if_true,if_false]⟩
 ·have hnx:=hR.next hlt rfl
  simp only [go_sem,hm',hlt',jK,Bool.not_false];refine jl (jN t ht (k,false) b _ (by dsimp only;omega) (by simp only [go_sem,jK])) (by simp only [go_sem]) ?_
  have t1:=jL hq;simp only [jhw] at hnx;generalize hr1:kh t (k,false)=r1 at*;simp only [go_sem];refine jl (jN t ht r1.2 b _ (by omega) (by simp only [go_sem])) (by simp only [go_sem]) ?_
  have t2:=jL t1;generalize hr2:kh t r1.2=r2 at*;simp only [go_sem];refine jl (jN t ht r2.2 b _ (by omega) (by simp only [go_sem])) (by simp only [go_sem]) ?_
  have t3:=jL t2;generalize hr3:kh t r2.2=r3 at*;simp only [go_sem];refine jl (jN t ht r3.2 b _ (by omega) (by simp only [go_sem])) (by simp only [go_sem]) ?_
  have t4:=jL t3;generalize hr4:kh t r3.2=r4 at*;have hw:IntKind.i64.wrap ((i:Int)+1)=((i+1:Nat):Int):=ji (by omega) (by omega)
  have hx1:E.length+1≤maxLen:=by unfold maxLen;omega
  have hx2:(E.length+1)*32≤140737488355328:=by omega
  simp only [go_sem,hx1,hx2];intro e3 e4;exact ⟨((i+1,E++[⟨r1.1,r2.1,r3.1,r4.1⟩],r4.2),e4),⟨hnx,t4⟩,(jah [some 800000200,some 800000300] (by simp only [go_sem,jiW,hw,jK]<;>and_intros<;>first|rfl|assumption|trivial) (fun j hj=>by by_cases e89:j=89<;>by_cases e86:j=86<;>simp only [go_sem,e89,e86,hj,if_true,if_false,ko hj 800000200 (by omega),ko hj 800000300 (by omega),ko hj 800004600 (by omega),ko hj 800004700 (by omega),jiW,hw,jK]) (by decide)),by (try dsimp only);omega⟩
end Go.Proofs.Ytmnpailnelmpiaa
