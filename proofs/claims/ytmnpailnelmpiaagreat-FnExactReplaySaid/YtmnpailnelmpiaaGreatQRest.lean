/- Parts. -/
import Derived.Test.YtmnpailnelmpiaaGreatQFailsEp
import Derived.Test.YtmnpailnelmpiaaGreatQLater
import Derived.Test.YtmnpailnelmpiaaGreatQTurnS
set_option linter.unusedSimpArgs false
set_option linter.unusedVariables false
set_option maxHeartbeats 8000000
set_option maxRecDepth 100000
namespace Go.Proofs.YtmnpailnelmpiaaGreat
open Go.RowKit Go.Sort
def jdz:C:=iS [iA 1 (.box 37 4 (.t 0)),iA 2 (.alloc 37 [.int .i64 0,.int .i64 0,.slice none 0 0,.slice none 0 0])] (iS [iA 6 (iT 4 1),iA 7 (.call 105 [.t 6]),iA 3 (.alloc 37 [.int .i64 0,.int .i64 0,.slice none 0 0,.slice none 0 0]),iC (.st 4 [none,none,some (1,102),some (8,108)] (.t 3) (.t 7))] (.seq (iS [iA 8 (iT 4 1),iA 9 (.call 72 [.t 8]),iA 10 (iU 9)] (iD 10 (iS [iA 11 (iT 4 3),iC (.st 4 [none,none,some (1,102),some (8,108)] (.t 2) (.t 11))] .ret) .skip)) (.seq (iS [iA 4 (iN 0)] (.blk 0 (.loop (.seq (iS [iA 12 (iM 4),iA 13 (iF 3 3),iA 14 (iL 13),iA 15 (iG 14),iA 16 (iP .lss 3 12 15)] (iD 16 .skip (.exit 0))) (.seq (.blk 1 (iS [iA 5 (iN 0)] (.blk 2 (.loop (.seq (iS [iA 19 (iM 5),iA 20 (iF 3 3),iA 21 (iL 20),iA 22 (iM 4),iA 23 (iI 8 21 22),iA 24 (iF 7 23),iA 25 (iL 24),iA 26 (iG 25),iA 27 (iP .lss 3 19 26)] (iD 27 .skip (.exit 2))) (.seq (.blk 3 (iS [iA 30 (iF 3 3),iA 31 (iL 30),iA 32 (iM 4),iA 33 (iI 8 31 32),iA 34 (iF 7 33),iA 35 (iL 34),iA 36 (iM 5),iA 37 (iI 4 35 36),iA 38 (iF 0 37),iA 39 (iL 38),iA 40 (iQ .eql 3 39 3)] (iD 40 (.dreg (T.pure 0 (iA 41 (iT 4 3)) (T.pure 1 (iA 42 (iM 4)) (T.pure 2 (iA 43 (iF 3 3)) (T.pure 3 (iA 44 (iL 43)) (T.pure 4 (iA 45 (iM 4)) (T.pure 5 (iA 46 (iI 8 44 45)) (T.pure 6 (iA 47 (iT 8 46)) (T.pure 7 (iA 48 (iM 5)) (T.alt (iA 49 (.call 199 [.t 47,.t 48])) [1,0] (T.alt (iA 50 (.call 197 [.t 41,.t 42,.t 49])) [] (T.alt (iC (.st 4 [none,none,some (1,102),some (8,108)] (.t 3) (.t 50))) [] T.done T.stop) T.stop) T.stop)))))))))) .skip))) (.reg [iA 28 (iM 5),iA 29 (iQ .add 3 28 1),iA 5 (iM 29)]))))))) (.reg [iA 17 (iM 4),iA 18 (iQ .add 3 17 1),iA 4 (iM 18)])))))) (iS [iA 51 (iT 4 3),iC (.st 4 [none,none,some (1,102),some (8,108)] (.t 2) (.t 51))] .ret))))
theorem jge:fnC Tryz.prog Tryz.f113=some (jdz,[.cell 2 true 4],52):=by kernel_rfl
def jdI:C:=iS [iA 1 (.box 37 4 (.t 0)),iA 2 (.alloc 37 [.int .i64 0,.int .i64 0,.slice none 0 0,.slice none 0 0])] (iS [iA 8 (iT 4 1),iA 9 (.call 118 [.t 8]),iA 3 (.alloc 37 [.int .i64 0,.int .i64 0,.slice none 0 0,.slice none 0 0]),iC (.st 4 [none,none,some (1,102),some (8,108)] (.t 3) (.t 9))] (.seq (iS [iA 10 (iT 4 1),iA 11 (.call 59 [.t 10]),iA 12 (iU 11)] (iD 12 (iS [iA 13 (iT 4 3),iC (.st 4 [none,none,some (1,102),some (8,108)] (.t 2) (.t 13))] .ret) .skip)) (.seq (iS [iA 14 (iF 3 1),iA 15 (iL 14),iA 16 (iG 15),iA 17 (iN 0)] (.blk 0 (.loop (iS [iA 18 (iP .lss 3 17 16)] (.seq (iD 18 .skip (.exit 0)) (.seq (.blk 1 (iS [iA 19 (iM 17),iA 20 (iI 8 15 17),iA 21 (iT 8 20),iA 5 (.alloc 108 [.int .i64 0,.int .i64 0,.int .i64 0,.int .i64 0,.int .i64 0,.slice none 0 0,.int .i64 0,.slice none 0 0]),iA 4 (iM 19),iC (.st 8 [none,none,none,none,none,some (2,253),none,some (4,172)] (.t 5) (.t 21))] (iS [iA 22 (iF 7 5),iA 23 (iL 22),iA 24 (iG 23),iA 25 (iN 0)] (.blk 2 (.loop (iS [iA 26 (iP .lss 3 25 24)] (.seq (iD 26 .skip (.exit 2)) (.seq (.blk 3 (iS [iA 27 (iM 25),iA 28 (iI 4 23 25),iA 29 (iT 4 28),iA 6 (.alloc 3 [.int .i64 0]),iA 7 (.alloc 172 [.int .i64 0,.int .i64 0,.int .i64 0,.int .i64 0]),iC (.st 1 [none] (.t 6) (.t 27)),iC (.st 4 [none,none,none,none] (.t 7) (.t 29))] (iS [iA 30 (iT 4 3),iA 31 (iF 0 5),iA 32 (iL 31),iA 33 (iL 6),iA 34 (iF 2 7),iA 35 (iL 34),iA 36 (.call 227 [.t 30,.t 32,.t 33,.t 35])] (iD 36 (.reg [iA 37 (iM 4),iA 38 (.mkf 229 [.t 6]),iA 39 (.call 221 [.t 3,.t 37,.t 38])]) .skip)))) (.reg [iA 40 (iQ .add 3 25 1),iA 25 (iM 40)]))))))))) (.reg [iA 41 (iQ .add 3 17 1),iA 17 (iM 41)]))))))) (iS [iA 42 (iT 4 3),iC (.st 4 [none,none,some (1,102),some (8,108)] (.t 2) (.t 42))] .ret))))
theorem jgn:fnC Tryz.prog Tryz.f124=some (jdI,[.cell 2 true 4],43):=by kernel_rfl
def jbK:C:=.reg [iA 3 (iM 0),iA 4 (iL 1),iA 5 (.call 225 [.t 3,.t 4])]
theorem jd8:fnC Tryz.prog Tryz.f229=some (jbK,[],6):=by kernel_rfl
theorem jji (y:Yd) (ht:jt y≤1990000):kf Tryz.prog 113 [.agg (jb y)] (.agg (jb (jcU y))):=by
 refine jr Tryz.func113 jge (by simp) ?_
 unfold jdz;have ht2:jt y≤2000000:=by omega
 simp only [go_sem,jb];intro b1 b2;refine jc (kg y ht2) (by simp only [go_sem,jb]) fun ηc=>?_
 simp only [go_sem,jb];intro b3;refine jc (qi y ht2) (by simp only [go_sem,jb]) fun η=>?_
 simp only [go_sem,jb];cases hok:jD y
 ·have hy:jcU y=y:=by simp [jcU,hok]
  simp only [go_sem,jb,hok,hy]
 have hP:=yard_iff.1 hok;have hy:jcU y=restR y y.runs.length:=by simp [jcU,hok]
 rw [hy];simp only [go_sem,jb,hok];have h8:=hP.eight;refine jq (fun i:Nat×jp×jp=>St.of [(2,Bx 92 b2),(3,Bx 90 b3),(4,Ni i.1)] [(92,ZYd b2 tYd),(90,ky b3 tYd (restR y i.1).now (restR y i.1).seq (restR y i.1).shelf i.2.1 (restR y i.1).runs i.2.2)]) (fun i=>i.1≤y.runs.length) (fun i=>y.runs.length-i.1) (0,ηc 2,ηc 3) (by (try dsimp only);first|omega|(simp;done)|(and_intros<;>first|omega|simp)) (jk [some 200,some 300] (by simp only [go_sem,jb,restR]<;>and_intros<;>first|rfl|assumption)) ?_
 rintro ⟨k,e2,e3⟩ hk;dsimp only at hk;have hI:=StepI.restR hP k;by_cases hlt:k<y.runs.length
 ·obtain ⟨r0,hr0⟩:=je hlt
  have hr012:=(hP.right r0 (List.mem_of_getElem? hr0)).le12;have hnx:restR y (k+1)=restT (restR y k) k r0.tasks.length:=by rw [restR,hr0,Option.getD_some]
  have hIt:=hI.restT k;have hw:IntKind.i64.wrap ((k:Int)+1)=((k+1:Nat):Int):=jo (by omega) (by omega)
  have hlz:(restR y k).runs.length=y.runs.length:=hI.later.len;have hlt':(k:Int)<(restR y k).runs.length:=by omega
  generalize restR y k=z0 at*;simp only [go_sem,hlt'];refine jq (fun i:Nat×jp×jp=>St.of [(2,Bx 92 b2),(3,Bx 90 b3),(4,Ni k),(5,Ni i.1)] [(92,ZYd b2 tYd),(90,ky b3 tYd (restT z0 k i.1).now (restT z0 k i.1).seq (restT z0 k i.1).shelf i.2.1 (restT z0 k i.1).runs i.2.2)]) (fun i=>i.1≤r0.tasks.length) (fun i=>r0.tasks.length-i.1) (0,e2,e3) (by (try dsimp only);first|omega|(simp;done)|(and_intros<;>first|omega|simp)) (jk [some 92,some 90] (by simp only [go_sem,restT]<;>and_intros<;>first|rfl|assumption)) ?_
  rintro ⟨t,f2,f3⟩ hti;dsimp only at hti;have hJ:=hIt t;have hnt:restT z0 k (t+1)=jaL (restT z0 k t) k t:=rfl;generalize hz:restT z0 k t=z at*;obtain ⟨r,hr,hid,hpl,hR,hrl,hr3⟩:=hJ.later.runs k r0 hr0;have hkl:=(List.getElem?_eq_some_iff.1 hr).1;have h0k:(k:Int)≥0:=by omega
  have h12:=hR.le12;by_cases hlt2:t<r0.tasks.length
  ·have hlt3:t<r.tasks.length:=by omega
   have hlt3':(t:Int)<r.tasks.length:=by omega
   have h0t:(t:Int)≥0:=by omega
   obtain ⟨x,hx⟩:=je hlt3;have hwt:IntKind.i64.wrap ((t:Int)+1)=((t+1:Nat):Int):=jo (by omega) (by omega)
   have hfy:jaL z k t=if x.state==3 then qc z k (jE r t) else z:=by rw [jaL,hr,Option.getD_some,vl hx]
   simp only [go_sem,Nat.add_zero,hkl,h0k,vg hr,vv hr,ki hr,hlt3',hlt3,h0t,zK hx,ve hx];cases hs:x.state==3
   ·rw [hs,if_neg (by decide)] at hfy
    rw [hfy] at hnt;simp only [go_sem,hs,hwt];exact ⟨(t+1,f2,f3),by (try dsimp only);first|omega|assumption|(and_intros<;>first|omega|assumption),(jk [some 92,some 90] (by simp only [go_sem,hnt]<;>and_intros<;>first|rfl|assumption)),by (try dsimp only);omega⟩
   ·rw [hs,if_pos rfl] at hfy
    rw [hfy] at hnt;simp only [go_sem,hs,Nat.add_zero,hkl,h0k,jjF hr,jeE hr,jd,ja];refine jc (jag r t (by have:=ji6 hR.plan;obtain ⟨n,_,_,_,h30,_⟩:=this;omega) (by omega)) (by simp only [go_sem,jd,ja,ka hr,ko hr]) fun ηr=>?_
    simp only [go_sem,jd,ja,ka hr,ko hr];have hl2:=qg r t;generalize jE r t=r2 at*;refine jbd [some 90,some 92,some 4905,some 4907] [(90,ky b3 tYd z.now z.seq z.shelf f2 z.runs f3),(92,ZYd b2 tYd),(97,.loose (jA r2.plan.edges) (ηr 5)),(98,.loose (jx r2.tasks) (ηr 7))] [.agg [.v (.int .i64 z.now),.v (.int .i64 z.seq),.h 90 2 [] (f2 []),.h 90 3 [] (f3 [])],Ni k,.agg [.v (.int .i64 r2.id),.v (.int .i64 r2.plan.prio),.v (.int .i64 r2.plan.most),.v (.int .i64 r2.plan.wait),.v (.int .i64 r2.plan.tasks),.h 97 0 [] (ηr 5 []),.v (.int .i64 r2.state),.h 98 0 [] (ηr 7 [])]] (by simp only [go_sem]<;>and_intros<;>rfl) (by simp only [go_sem]<;>and_intros<;>rfl) (jeD hr hl2 h12 hJ.four (by have:=hJ.seq;omega) (by have:=hJ.tot;omega) rfl rfl rfl) ?_
    rintro _ o1 ⟨c,g2,g3,x2,x3,rfl,j99,j90,j91,j92,j93,j94,j95,j96⟩;have j92':o1 92=ZYd b2 tYd:=j92;generalize qc z k r2=z2 at*;simp only [go_sem,j99,j90,j92',hwt];exact ⟨(t+1,g2,g3),by (try dsimp only);first|omega|assumption|(and_intros<;>first|omega|assumption),(jk [some 92,some 90] (by simp only [go_sem,hnt,j90,j92']<;>and_intros<;>first|rfl|assumption)),by (try dsimp only);omega⟩
  ·have hlt3':¬(t:Int)<r.tasks.length:=by omega
   obtain rfl:t=r0.tasks.length:=by omega
   rw [hz] at hnx;simp only [go_sem,Nat.add_zero,hkl,h0k,vg hr,vv hr,ki hr,hlt3',hw];exact ⟨(k+1,f2,f3),by (try dsimp only);first|omega|assumption|(and_intros<;>first|omega|assumption),(jk [some 92,some 90] (by simp only [go_sem,hnx]<;>and_intros<;>first|rfl|assumption)),by (try dsimp only);omega⟩
 have hlz:(restR y k).runs.length=y.runs.length:=hI.later.len;have hlt':¬(k:Int)<(restR y k).runs.length:=by omega
 obtain rfl:k=y.runs.length:=by omega
 generalize restR y y.runs.length=z at*;simp only [go_sem,hlt',jb]
theorem jmV {k t b6:Nat} {y:Yd} {r:Rn} (hr:y.runs[k]?=some r) (hrun:vS r t=true):jud Tryz.prog 229 [.bp 91 0 b6] (.box b6 jfE [.a (.v (.int .i64 t))]) k y (jE r t):=by
 intro o b e2 e3 h90 h91;refine jhC (β:=6000000) Tryz.func229 jd8 (by simp) ?_
 unfold jbK;simp only [go_sem,h91];refine vF (by simp only [go_sem]) (jls hr hrun _ b e2 e3 (by simp only [go_sem];exact h90)) ?_
 rintro _ o1 ⟨rfl,j90,j91,j92,j93,j94,j95,j96,j97⟩;simp only [go_sem] at j91 j92 j93 j94 j95 j96 j97;rw [h91] at j91;exact ⟨.tup [],⟨by decide,rfl⟩,rfl,rfl,j90,j91,j92,j93,j94,j95,j96,j97⟩
theorem jjp (y:Yd) (ht:jt y≤1990000):kf Tryz.prog 124 [.agg (jb y)] (.agg (jb (jcU y))):=by
 refine zi [[1,1,1,0,1,0,0,1,1,0,0,1,1,0,0,1,1,0,0,1,1,0]] Tryz.func124 jgn (by simp) ?_
 unfold jdI;simp only [C.ghs,C.ghAt,List.foldr];have ht2:jt y≤2000000:=by omega
 simp only [go_sem,jb];intro b1 b2;refine jc (jX y ht2) (by simp only [go_sem,jb]) fun ηc=>?_
 simp only [go_sem,jb];intro b3;refine jc (ql y ht2) (by simp only [go_sem,jb]) fun η=>?_
 simp only [go_sem,jb];cases hok:jD y
 ·have hy:jcU y=y:=by simp [jcU,hok]
  simp only [go_sem,jb,hok,hy]
 have hP:=yard_iff.1 hok;have hy:jcU y=restR y y.runs.length:=by simp [jcU,hok]
 rw [hy];simp only [go_sem,jb,hok];have h8:=hP.eight;refine jq (fun i:Nat×jp×jp=>St.of [(2,Bx 92 b2),(3,Bx 90 b3),(15,Ro (jM y.runs)),(16,Ni y.runs.length),(17,Ni i.1)] [(92,ZYd b2 tYd),(90,ky b3 tYd (restR y i.1).now (restR y i.1).seq (restR y i.1).shelf i.2.1 (restR y i.1).runs i.2.2)]) (fun i=>i.1≤y.runs.length) (fun i=>y.runs.length-i.1) (0,ηc 2,ηc 3) (by (try dsimp only);first|omega|(simp;done)|(and_intros<;>first|omega|simp)) (jk [some 200,some 300] (by simp only [go_sem,jb,restR]<;>and_intros<;>first|rfl|assumption)) ?_
 rintro ⟨k,e2,e3⟩ hk;dsimp only at hk;have hI:=StepI.restR hP k;by_cases hlt:k<y.runs.length
 ·have hlt':(k:Int)<y.runs.length:=by omega
  obtain ⟨r0,hr0⟩:=je hlt;have hr012:=(hP.right r0 (List.mem_of_getElem? hr0)).le12;have hpl0:=hP.place k r0 hr0;have hnx:restR y (k+1)=restT (restR y k) k r0.tasks.length:=by rw [restR,hr0,Option.getD_some]
  have hIt:=hI.restT k;have hw:IntKind.i64.wrap ((k:Int)+1)=((k+1:Nat):Int):=jo (by omega) (by omega)
  generalize restR y k=z0 at*;simp only [go_sem,hlt',hlt,jV hr0,jd,ja];intro b5;refine jq (fun i:Nat×jp×jp=>St.of [(2,Bx 92 b2),(3,Bx 90 b3),(4,Ni k),(5,Bx 93 b5),(15,Ro (jM y.runs)),(16,Ni y.runs.length),(17,Ni k),(23,Ro (jx r0.tasks)),(24,Ni r0.tasks.length),(25,Ni i.1)] [(92,ZYd b2 tYd),(93,Bi b5 tRn (jd r0)),(90,ky b3 tYd (restT z0 k i.1).now (restT z0 k i.1).seq (restT z0 k i.1).shelf i.2.1 (restT z0 k i.1).runs i.2.2)]) (fun i=>i.1≤r0.tasks.length) (fun i=>r0.tasks.length-i.1) (0,e2,e3) (by (try dsimp only);first|omega|(simp;done)|(and_intros<;>first|omega|simp)) (jk [some 92,some 500,some 90] (by simp only [go_sem,restT,jd,ja]<;>and_intros<;>first|rfl|assumption)) ?_
  rintro ⟨t,f2,f3⟩ hti;dsimp only at hti;have hJ:=hIt t;have hnt:restT z0 k (t+1)=jaL (restT z0 k t) k t:=rfl;generalize hz:restT z0 k t=z at*;obtain ⟨r,hr,hid,hpl,hR,hrl,hr3⟩:=hJ.later.runs k r0 hr0;have h12:=hR.le12;by_cases hlt2:t<r0.tasks.length
  ·have hlt2':(t:Int)<r0.tasks.length:=by omega
   have hlt3:t<r.tasks.length:=by omega
   obtain ⟨x,hx⟩:=je hlt3;obtain ⟨x0,hx0⟩:=je hlt2;have hwt:IntKind.i64.wrap ((t:Int)+1)=((t+1:Nat):Int):=jo (by omega) (by omega)
   have hfy:jaL z k t=if x.state==3 then qc z k (jE r t) else z:=by rw [jaL,hr,Option.getD_some,vl hx]
   have hho:vN z r0.id t x0.tri=(x.state==3):=by rw [jkb hJ.later hr0 hpl0 hx0,hr,Option.getD_some,vl hx]
   simp only [go_sem,hlt2',hlt2,jU hx0,jn];intro b6 b7;simp only [go_sem,jd,ja];refine jc (jb3 z r0.id t x0.tri) (by simp only [go_sem,jb]) fun η=>?_
   simp only [go_sem,jb];rw [hho];cases hs:x.state==3
   ·rw [hs,if_neg (by decide)] at hfy
    rw [hfy] at hnt;simp only [go_sem,hs,hwt];exact ⟨(t+1,f2,f3),by (try dsimp only);first|omega|assumption|(and_intros<;>first|omega|assumption),(jk [some 92,some 93,some 90] (by simp only [go_sem,hnt,jd,ja]<;>and_intros<;>first|rfl|assumption)),by (try dsimp only);omega⟩
   ·rw [hs,if_pos rfl] at hfy
    rw [hfy] at hnt;have hs':x.state=3:=by simpa using hs
    simp only [go_sem,hs];refine vh ?_;refine WkK.wk (s':=St.of [(2,Bx 92 b2),(3,Bx 90 b3),(4,Ni k),(5,Bx 93 b5),(6,Bx 91 b6),(15,Ro (jM y.runs)),(16,Ni y.runs.length),(17,Ni k),(23,Ro (jx r0.tasks)),(24,Ni r0.tasks.length),(25,Ni t)] [(92,ZYd b2 tYd),(93,Bi b5 tRn (jd r0)),(90,ky b3 tYd z.now z.seq z.shelf f2 z.runs f3),(91,.box b6 jfE [.a (.v (.int .i64 t))])]) (jk [some 92,some 93,some 90,some 600] (by simp only [go_sem,jd,ja]<;>and_intros<;>first|rfl|assumption)) ?_
    refine WkK.of ?_;simp only [go_sem];refine vF (vs:=[Bx 90 b3,Ni k,.fn 229 [.bp 91 0 b6]]) (by simp only [go_sem]) (jcP hr (qg r t) h12 hJ.four (by have:=hJ.seq;omega) (by have:=hJ.tot;omega) (jmV hr (jsa hR hx hs')) (e2:=f2) (e3:=f3) (by simp only [go_sem]) (by simp only [go_sem])) ?_
    rintro _ o1 ⟨rfl,⟨g2,g3,j90⟩,j91,j92,j93,j94,j95,j96⟩;have j92':o1 92=ZYd b2 tYd:=j92;have j93':o1 93=Bi b5 tRn (jd r0):=j93;generalize qc z k (jE r t)=z2 at*;simp only [go_sem,hwt];exact ⟨(t+1,g2,g3),by (try dsimp only);first|omega|assumption|(and_intros<;>first|omega|assumption),(jk [some 92,some 93,some 90] (by simp only [go_sem,hnt,j90,j92',j93',jd,ja]<;>and_intros<;>first|rfl|assumption)),by (try dsimp only);omega⟩
  ·have hlt2':¬(t:Int)<r0.tasks.length:=by omega
   obtain rfl:t=r0.tasks.length:=by omega
   rw [hz] at hnx;simp only [go_sem,hlt2',hw];exact ⟨(k+1,f2,f3),by (try dsimp only);first|omega|assumption|(and_intros<;>first|omega|assumption),(jk [some 92,some 90] (by simp only [go_sem,hnx]<;>and_intros<;>first|rfl|assumption)),by (try dsimp only);omega⟩
 have hlt':¬(k:Int)<y.runs.length:=by omega
 obtain rfl:k=y.runs.length:=by omega
 generalize restR y y.runs.length=z at*;simp only [go_sem,hlt',jb]
end Go.Proofs.YtmnpailnelmpiaaGreat
