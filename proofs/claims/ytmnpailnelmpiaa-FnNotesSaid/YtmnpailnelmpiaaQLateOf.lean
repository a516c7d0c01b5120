/- Parts. -/
import Derived.Test.YtmnpailnelmpiaaQFam
import Derived.Test.YtmnpailnelmpiaaQLater
import Derived.Test.YtmnpailnelmpiaaQPoll
set_option linter.unusedSimpArgs false
set_option linter.unusedVariables false
set_option maxHeartbeats 8000000
set_option maxRecDepth 100000
namespace Go.Proofs.Ytmnpailnelmpiaa
open Go.RowKit Go.Sort
def jcS:C:=iS [iA 1 (.box 78 8 (.t 0)),iA 2 (.alloc 78 [.int .i64 0,.int .i64 0,.int .i64 0,.int .i64 0,.int .i64 0,.slice none 0 0,.int .i64 0,.slice none 0 0])] (iS [iA 4 (iT 8 1),iA 5 (.call 157 [.t 4]),iA 3 (.alloc 78 [.int .i64 0,.int .i64 0,.int .i64 0,.int .i64 0,.int .i64 0,.slice none 0 0,.int .i64 0,.slice none 0 0]),iC (.st 8 [none,none,none,none,none,some (2,103),none,some (4,84)] (.t 3) (.t 5))] (.seq (iS [iA 6 (iT 8 1),iA 7 (.call 81 [.t 6]),iA 8 (iU 7),iA 9 (iM 8),iB 10 9 false (iF 6 1),iB 11 9 false (iL 10),iB 12 9 false (iQ .neq 3 11 1),iA 13 (.pick (.t 9) (.c (.bool true)) (.t 12))] (iD 13 (iS [iA 14 (iT 8 3),iC (.st 8 [none,none,none,none,none,some (2,103),none,some (4,84)] (.t 2) (.t 14))] .ret) .skip)) (iS [iA 15 (iT 8 3),iA 16 (.call 180 [.t 15,.c (.int .i64 4)]),iC (.st 8 [none,none,none,none,none,some (2,103),none,some (4,84)] (.t 2) (.t 16))] .ret)))
theorem jfq:fnC Try.prog Try.f172=some (jcS,[.cell 2 true 8],17):=by kernel_rfl
def jey:C:=iS [iA 2 (.box 42 4 (.t 0)),iA 4 (.alloc 42 [.int .i64 0,.int .i64 0,.slice none 0 0,.slice none 0 0]),iA 5 (iN 0)] (iS [iA 8 (iT 4 2),iA 9 (.call 143 [.t 8]),iA 6 (.alloc 42 [.int .i64 0,.int .i64 0,.slice none 0 0,.slice none 0 0]),iC (.st 4 [none,none,some (1,74),some (8,78)] (.t 6) (.t 9))] (iS [iA 10 (iT 4 2),iA 11 (iM 1),iA 12 (.call 82 [.t 10,.t 11]),iA 7 (iM 12)] (.seq (.blk 0 (iS [iA 14 (iT 4 2),iA 15 (.call 45 [.t 14]),iA 16 (iU 15),iA 13 (iM 16)] (iD 13 (iS [iA 17 (iT 4 6),iC (.st 4 [none,none,some (1,74),some (8,78)] (.t 4) (.t 17)),iA 5 (iN 8)] .ret) (iS [iA 19 (iM 7),iA 20 (iQ .lss 3 19 0),iA 18 (iM 20)] (iD 18 (iS [iA 21 (iT 4 6),iC (.st 4 [none,none,some (1,74),some (8,78)] (.t 4) (.t 21)),iA 5 (iN 10)] .ret) (iS [iA 23 (iF 3 2),iA 24 (iL 23),iA 25 (iM 7),iA 26 (iI 8 24 25),iA 27 (iF 6 26),iA 28 (iL 27),iA 29 (iQ .neq 3 28 1),iA 22 (iM 29)] (iD 22 (iS [iA 30 (iT 4 6),iC (.st 4 [none,none,some (1,74),some (8,78)] (.t 4) (.t 30)),iA 5 (iN 12)] .ret) .skip))))))) (.seq (.dreg (T.pure 0 (iA 31 (iF 3 6)) (T.pure 1 (iA 32 (iL 31)) (T.pure 2 (iA 33 (iM 7)) (T.pure 3 (iA 34 (iF 3 6)) (T.pure 4 (iA 35 (iL 34)) (T.pure 5 (iA 36 (iM 7)) (T.pure 6 (iA 37 (iI 8 35 36)) (T.pure 7 (iA 38 (iT 8 37)) (T.alt (iA 39 (.call 172 [.t 38])) [2,1,0] (T.pure 9 (iA 40 (iI 8 32 33)) (T.alt (iC (.st 8 [none,none,none,none,none,some (2,103),none,some (4,84)] (.t 40) (.t 39))) [] T.done T.stop)) T.stop)))))))))) (iS [iA 41 (iT 4 6),iC (.st 4 [none,none,some (1,74),some (8,78)] (.t 4) (.t 41)),iA 5 (iN 0)] .ret)))))
theorem jgz:fnC Try.prog Try.f149=some (jey,[.cell 4 true 4,.t 5],42):=by kernel_rfl
theorem jip (r:Rn) (hsz:r.plan.edges.length≤4000000) (ht:r.tasks.length≤4000000):kl Try.prog 172 [.agg (jd r)] (.agg (jd (jcd r))):=by
 refine jr Try.func172 jfq (by simp) ?_
 unfold jcS;simp only [go_sem,jd,ja];intro b1 b2;refine jb (qw r hsz ht) (by simp only [go_sem,jd,ja]) fun ηc=>?_
 simp only [go_sem,jd,ja];intro b3;refine jb (jbn r) (by simp only [go_sem,jd,ja]) fun η=>?_
 simp only [go_sem,jd,ja];cases h:qu r
 ·have hb:jcd r=r:=jod (by simp [h])
  simp only [go_sem,jd,ja,h,hb]
 cases h1:r.state !=1;rotate_left
 ·have h1':(r.state==1)=false:=by have:=h1;simp only [bne,Bool.not_eq_true'] at this;exact this
  have hb:jcd r=r:=jod (by simp [h,h1'])
  simp only [go_sem,jd,ja,h,h1,hb]
 have h1':(r.state==1)=true:=by have:=h1;simp only [bne,Bool.not_eq_false'] at this;exact this
 have hb:jcd r=⟨r.id,r.plan,4,vi jx r.tasks r.tasks.length⟩:=jr8 (by simp [h,h1'])
 rw [hb];simp only [go_sem,jd,ja,h,h1];generalize hts:r.tasks=ts0 at*;refine qU (qZ (β:=7000000) Try.func180 zA (by simp) ?_)
 unfold zk;simp only [go_sem,jd,ja];intro b72 b74;refine jq (fun i:Nat=>St.of [(1,Ni 4),(2,Bx 2 b72),(4,Bx 4 b74),(5,Ni i)] [(200,ZRn b2 tRn),(2,jbT b72 tRn ⟨r.id,r.plan,r.state,vi jx ts0 i⟩ (ηc 5) (ηc 7)),(4,ZRn b74 tRn)]) (fun i=>i≤ts0.length) (fun i=>ts0.length-i) 0 (by (try dsimp only);first|omega|(simp;done)|(and_intros<;>first|omega|simp)) (jl [some 200,some 700000200,some 700000400] (by simp only [go_sem,jd,ja,jvT]<;>and_intros<;>first|rfl|assumption|trivial)) ?_
 rintro j hj;have hml:=zt (f:=jx) (ts:=ts0) (k:=j);by_cases hlt:j<ts0.length
 ·have hlt':(j:Int)<ts0.length:=by omega
  have h0j:(j:Int)≥0:=by omega
  obtain ⟨y,hy⟩:=je hlt;have hyk:=job (f:=jx) hy;have hset:=joa (f:=jx) hy;generalize vi jx ts0 j=M at*;have hlm:j<M.length:=by omega
  have hw:IntKind.i64.wrap ((j:Int)+1)=((j+1:Nat):Int):=jg (by omega) (by omega)
  simp only [go_sem,jd,ja,hml,hlt',h0j,hlt,jql hyk,jgf hyk,ju];intro b6;cases hc4:y.state !=4
  ·have hst4:y.state=4:=by simpa using hc4
   have hg0:jx j y=y:=by simp [jx,hst4]
   have hg:jx j y=⟨y.state,y.need,y.tri,y.til⟩:=hg0;rw [hg] at hset;simp only [go_sem,jd,ja,Nat.add_zero,hml,hlt',h0j,hlt,hc4,jap y.state y.need y.tri y.til hlm,hset,jgf hyk,hw];exact ⟨j+1,by (try dsimp only);first|omega|assumption|(and_intros<;>first|omega|assumption),(jl [some 200,some 2,some 4] (by simp only [go_sem,jd,ja]<;>and_intros<;>first|rfl|assumption|trivial)),by (try dsimp only);omega⟩
  cases hc5:y.state !=5
  ·have hst5:y.state=5:=by simpa using hc5
   have hg0:jx j y=y:=by simp [jx,hst5]
   have hg:jx j y=⟨y.state,y.need,y.tri,y.til⟩:=hg0;rw [hg] at hset;simp only [go_sem,jd,ja,Nat.add_zero,hml,hlt',h0j,hlt,hc4,hc5,jap y.state y.need y.tri y.til hlm,hset,jgf hyk,hw];exact ⟨j+1,by (try dsimp only);first|omega|assumption|(and_intros<;>first|omega|assumption),(jl [some 200,some 2,some 4] (by simp only [go_sem,jd,ja]<;>and_intros<;>first|rfl|assumption|trivial)),by (try dsimp only);omega⟩
  ·have hg:jx j y=⟨6,y.need,y.tri,0⟩:=by
    have h1:¬y.state=4:=by simpa using hc4
    have h2:¬y.state=5:=by simpa using hc5
    simp [jx,h1,h2]
   rw [hg] at hset;simp only [go_sem,jd,ja,Nat.add_zero,hml,hlt',h0j,hlt,hc4,hc5,jap 6 y.need y.tri 0 hlm,hset,jgf hyk,hw];exact ⟨j+1,by (try dsimp only);first|omega|assumption|(and_intros<;>first|omega|assumption),(jl [some 200,some 2,some 4] (by simp only [go_sem,jd,ja]<;>and_intros<;>first|rfl|assumption|trivial)),by (try dsimp only);omega⟩
 have hlt':¬(j:Int)<ts0.length:=by omega
 obtain rfl:j=ts0.length:=by omega
 generalize vi jx ts0 ts0.length=M at*;simp only [go_sem,jd,ja,Nat.add_zero,hml,hlt']
theorem jj1 (y:Yd) (id:Int) (ht:jS y≤2000000):kl Try.prog 149 [.agg (jc y),.c (.val (.int .i64 id))] (.tup [(true,jc (vb y id)),(false,[.val (.int .i64 (vo y id))])]):=by
 refine jr Try.func149 jgz (by simp) ?_
 unfold jey;simp only [go_sem,jc];intro b2 b4;refine jb (jT y ht) (by simp only [go_sem,jc]) fun ηc=>?_
 simp only [go_sem,jc];intro b6;refine jb (kF y id) (by simp only [go_sem,jc]) fun η=>?_
 simp only [go_sem,jc];refine jb (kE y ht) (by simp only [go_sem,jc]) fun η=>?_
 simp only [go_sem,jc];cases hok:jJ y
 ·have hc:vo y id=8:=by simp [vo,hok]
  have hy:vb y id=y:=by simp [vb,hc]
  simp only [go_sem,jc,hok,hc,hy];refine qv _ _ _ _ _ ?_;simp only [go_sem,jc]
 by_cases hneg:runAt y id<0
 ·have hc:vo y id=10:=by simp [vo,hok,hneg]
  have hy:vb y id=y:=by simp [vb,hc]
  simp only [go_sem,jc,hok,hneg,hc,hy];refine qv _ _ _ _ _ ?_;simp only [go_sem,jc]
 obtain ⟨k,r,hrk,hr,hid,h8⟩:=vB hneg;have hk:=(List.getElem?_eq_some_iff.1 hr).1;have h0k:(k:Int)≥0:=by omega
 have hk0:¬(k:Int)<0:=by omega
 have hget:(y.runs[(runAt y id).toNat]?).getD default=r:=by rw [hrk,Int.toNat_natCast,hr];rfl
 cases hst:r.state !=1;rotate_left
 ·have hs1:¬r.state=1:=by simpa using hst
  have hc:vo y id=12:=by unfold vo;rw [if_neg (by simp [hok]),if_neg hneg,hget,if_neg hs1]
  have hy:vb y id=y:=by simp [vb,hc]
  simp only [go_sem,jc,hok,hrk,hk0,h0k,hk,kr hr,jd,ja,hst,hc,hy];refine qv _ _ _ _ _ ?_;simp only [go_sem,jc]
 have hs1:r.state=1:=by simpa using hst
 have hc:vo y id=0:=by unfold vo;rw [if_neg (by simp [hok]),if_neg hneg,hget,if_pos hs1]
 have hy:vb y id=jiV y k (jcd r):=by rw [vb,if_pos hc,hget,hrk,Int.toNat_natCast]
 have hrb:=jhc ht (List.mem_of_getElem? hr);rw [hc,hy,jiV];simp only [go_sem,jc,hok,hrk,hk0,h0k,hk,kr hr,jnp hr,jkh hr,jd,ja,hst];refine jb (jip r hrb.1 hrb.2) (by simp only [go_sem,jc,jd,ja,qa hr,kZ hr]) fun η=>?_
 simp only [go_sem,jc,jd,ja,qa hr,kZ hr];simp only [go_sem,hk,jrC (jcd r) hk];refine ⟨jkh hr,fun η' hη=>qv _ _ _ _ _ ?_⟩
 simp only [go_sem,jc]
def jes:C:=iS [iA 1 (.box 42 4 (.t 0)),iA 2 (.mov (.c (.slice none 0 0)))] (iS [iA 7 (.bsl 51 1 0 [] []),iA 3 (iM 7)] (.seq (iS [iA 4 (iN 0)] (.blk 0 (.loop (.seq (iS [iA 8 (iM 4),iA 9 (iF 3 1),iA 10 (iL 9),iA 11 (iG 10),iA 12 (iP .lss 3 8 11)] (iD 12 .skip (.exit 0))) (.seq (.blk 1 (iS [iA 5 (iN 0)] (.blk 2 (.loop (.seq (iS [iA 15 (iM 5),iA 16 (iF 3 1),iA 17 (iL 16),iA 18 (iM 4),iA 19 (iI 8 17 18),iA 20 (iF 7 19),iA 21 (iL 20),iA 22 (iG 21),iA 23 (iP .lss 3 15 22)] (iD 23 .skip (.exit 2))) (.seq (.blk 3 (iS [iA 26 (iF 3 1),iA 27 (iL 26),iA 28 (iM 4),iA 29 (iI 8 27 28),iA 30 (iF 7 29),iA 31 (iL 30),iA 32 (iM 5),iA 33 (iI 4 31 32),iA 34 (iT 4 33),iA 6 (.alloc 84 [.int .i64 0,.int .i64 0,.int .i64 0,.int .i64 0]),iC (.st 4 [none,none,none,none] (.t 6) (.t 34))] (iS [iA 35 (iF 0 6),iA 36 (iL 35),iA 37 (iQ .eql 3 36 3),iA 38 (iM 37),iB 39 38 true (iF 3 6),iB 40 38 true (iL 39),iB 41 38 true (iF 0 1),iB 42 38 true (iL 41),iB 43 38 true (iP .leq 3 40 42),iB 44 38 true (iM 43),iB 45 44 false (iF 3 6),iB 46 44 false (iL 45),iB 47 44 false (iQ .sub 3 46 1),iB 48 44 false (iF 0 1),iB 49 44 false (iL 48),iB 50 44 false (iP .leq 3 47 49),iB 51 38 true (.pick (.t 44) (.c (.bool true)) (.t 50)),iA 52 (.pick (.t 38) (.t 51) (.c (.bool false)))] (iD 52 (.dreg (T.pure 0 (iA 53 (iM 3)) (T.pure 1 (iA 54 (iF 3 1)) (T.pure 2 (iA 55 (iL 54)) (T.pure 3 (iA 56 (iM 4)) (T.pure 4 (iA 57 (iI 8 55 56)) (T.pure 5 (iA 58 (iF 0 57)) (T.pure 6 (iA 59 (iL 58)) (T.pure 7 (iA 60 (iM 5)) (T.pure 8 (iA 61 (iF 2 6)) (T.pure 9 (iA 62 (iL 61)) (T.alt (iA 63 (.bsl 3 1 3 [none,none,none] [(0,1,.t 59),(1,1,.t 60),(2,1,.t 62)])) [0] (T.alt (iA 64 (.bsl 51 1 1 [some (1,3)] [(0,1,.t 63)])) [0] (T.alt (iA 65 (.app 51 1 24 (.t 53) (.t 64))) [] (T.pure 13 (iA 3 (iM 65)) T.done) T.stop) T.stop) T.stop)))))))))))) .skip)))) (.reg [iA 24 (iM 5),iA 25 (iQ .add 3 24 1),iA 5 (iM 25)]))))))) (.reg [iA 13 (iM 4),iA 14 (iQ .add 3 13 1),iA 4 (iM 14)])))))) (iS [iA 66 (iM 3),iA 2 (iM 66)] .ret)))
theorem jgt:fnC Try.prog Try.f171=some (jes,[.t 2],67):=by kernel_rfl
def wfL (y:Yd):Prop:=inR y.now∧∀r∈y.runs,∀x∈r.tasks,inR x.til
theorem jlB (l:List (List Int)) (a b c:Int):D.sl 1 tIs (l.flatMap (fun es=>[jo es])++[D.sl 1 joU [iv a,iv b,iv c]])=qM (l++[[a,b,c]]):=by simp [qM,jo]
theorem jjX (y:Yd) (ht:jS y≤2000000) (wf:wfL y):kl Try.prog 171 [.agg (jc y)] (.c (qM (qq y))):=by
 refine jr Try.func171 jgt (by simp) ?_
 unfold jes;have hl:=jmE ht;have htr:qE za y.runs≤2000000:=by simp only [jS,jfJ] at ht;omega
 rw [juE];simp only [go_sem,jc];intro b η0;refine jq (fun i:Nat×jm=>St.of [(1,Bx 100 b),(3,Hd 700 i.2),(4,Ni i.1)] [(100,Bi b _ (jc y)),(700,.loose (qM ((y.runs.take i.1).flatMap (jlx y.now))) i.2)]) (fun i=>i.1≤y.runs.length) (fun i=>y.runs.length-i.1) (0,η0) (Nat.zero_le _) (jl [some 100,some 700] (by simp only [go_sem,jc]<;>and_intros<;>rfl)) ?_
 rintro ⟨i,η⟩ hi;dsimp only at hi;by_cases hlt:i<y.runs.length
 ·have hlt':(i:Int)<y.runs.length:=by omega
  obtain ⟨r,hr⟩:=je hlt;have hrw:=wf.2 r (List.mem_of_getElem? hr);have hwi:IntKind.i64.wrap ((i:Int)+1)=((i+1:Nat):Int):=jg (by omega) (by omega)
  have hbi:=jxu y.now (y.runs.take i);have hts:=vZ (tot:=za) hr;have htl:=jaj za y.runs (i+1);have hrt:r.tasks.length≤za r:=by simp only [za];omega
  have hnx:=jsd (now:=y.now) hr;simp only [go_sem,jc,hlt,hlt'];generalize hL:(y.runs.take i).flatMap (jlx y.now)=L at*;refine jq (fun k:Nat×jm=>St.of [(1,Bx 100 b),(3,Hd 700 k.2),(4,Ni i),(5,Ni k.1)] [(100,Bi b _ (jc y)),(700,.loose (qM (L++zg y.now r 0 (r.tasks.take k.1))) k.2)]) (fun k=>k.1≤r.tasks.length) (fun k=>r.tasks.length-k.1) (0,η) (Nat.zero_le _) (jl [some 100,some 700] (by simp only [go_sem,jc,List.take_zero,zg,List.append_nil]<;>and_intros<;>rfl)) ?_
  rintro ⟨j,η1⟩ hj;dsimp only at hj;by_cases hjt:j<r.tasks.length
  ·have hjt':(j:Int)<r.tasks.length:=by omega
   obtain ⟨x,hx⟩:=je hjt;have hxw:=hrw x (List.mem_of_getElem? hx);have hwj:IntKind.i64.wrap ((j:Int)+1)=((j+1:Nat):Int):=jg (by omega) (by omega)
   have hlr:=jgN y.now r (r.tasks.take j) 0;have hn:=jpS (now:=y.now) (r:=r) hx;rw [List.length_take] at hlr;obtain ⟨hx1,hx2⟩:=hxw;obtain ⟨⟨hy1,hy2⟩,-⟩:=wf;simp only [go_sem,jc,hlt,hlt',hjt,hjt',kr hr,jd,ja,kb hx,ju];generalize hM:zg y.now r 0 (r.tasks.take j)=M at*;have hone:1≤maxLen:=by unfold maxLen;omega
   have h3m:3≤maxLen:=by unfold maxLen;omega
   have hm1:(L++M).length+1≤maxLen:=by rw [List.length_append];unfold maxLen;omega
   have hm2:((L++M).length+1)*24≤140737488355328:=by rw [List.length_append];omega
   intro b2;by_cases hs:x.state=3
   ·by_cases hle:x.til≤y.now
    ·have hlate:jce y.now r.id x j=some [r.id,j,x.tri]:=by simp [jce,hs,hle]
     rw [hlate] at hn;simp only [go_sem,jc,ju,hs,hle,beq_self_eq_true,kr hr,hlt,hlt',jd,ja,hm1,hm2,jlB,hwj];intro η2 η3 η4;exact ⟨(j+1,η4),by dsimp only;omega,jl [some 100,some 6500] (by simp only [go_sem,jc,hn,Option.toList,List.append_assoc]<;>and_intros<;>rfl),by dsimp only;omega⟩
    ·by_cases heq:x.til-1=y.now
     ·have hlate:jce y.now r.id x j=some [r.id,j,x.tri]:=by simp [jce,hs,heq]
      have hsub:IntKind.i64.wrap (x.til-1)=x.til-1:=jg (by omega) (by omega)
      have hle2:x.til-1≤y.now:=by omega
      rw [hlate] at hn;simp only [go_sem,jc,ju,hs,hle,hsub,hle2,beq_self_eq_true,kr hr,hlt,hlt',jd,ja,hm1,hm2,jlB,hwj];intro η2 η3 η4;exact ⟨(j+1,η4),by dsimp only;omega,jl [some 100,some 6500] (by simp only [go_sem,jc,hn,Option.toList,List.append_assoc]<;>and_intros<;>rfl),by dsimp only;omega⟩
     ·have hlate:jce y.now r.id x j=none:=by simp [jce,hle,heq]
      have hsub:IntKind.i64.wrap (x.til-1)=x.til-1:=jg (by omega) (by omega)
      have hle2:¬x.til-1≤y.now:=by omega
      rw [hlate] at hn;simp only [go_sem,jc,ju,hs,hle,hsub,hle2,beq_self_eq_true,hlt,hlt',hwj];exact ⟨(j+1,η1),by dsimp only;omega,jl [some 100,some 700] (by simp only [go_sem,jc,hn,Option.toList,List.append_nil]<;>and_intros<;>rfl),by dsimp only;omega⟩
   ·have hlate:jce y.now r.id x j=none:=by simp [jce,hs]
    have hs':(x.state==3)=false:=by simpa using hs
    rw [hlate] at hn;simp only [go_sem,jc,ju,hs',hwj];exact ⟨(j+1,η1),by dsimp only;omega,jl [some 100,some 700] (by simp only [go_sem,jc,hn,Option.toList,List.append_nil]<;>and_intros<;>rfl),by dsimp only;omega⟩
  ·have hjt':¬(j:Int)<r.tasks.length:=by omega
   rw [List.take_of_length_le (by omega)]
   simp only [go_sem,jc,hlt,hlt',kr hr,jd,ja,hjt',hwi];exact ⟨(i+1,η1),by dsimp only;omega,jl [some 100,some 700] (by simp only [go_sem,jc,hnx]<;>and_intros<;>rfl),by dsimp only;omega⟩
 ·have hlt':¬(i:Int)<y.runs.length:=by omega
  rw [List.take_of_length_le (by omega)]
  simp only [go_sem,jc,hlt']
theorem jlw (now:Int) (r:Rn):∀(ts:List Tk) (k:Nat) (l:List Int),l∈zg now r k ts→∃(t:Nat) (x:Tk),ts[t]?=some x∧x.state=3∧l=[r.id,((k+t:Nat):Int),x.tri]
 |[],_,_,h=>by simp [zg] at h
 |z::ts,k,l,h=>by
  rw [zg] at h;rcases List.mem_append.1 h with h|h
  ·unfold jce at h
   split at h
   ·rename_i hc
    simp at h;simp only [Bool.and_eq_true,beq_iff_eq] at hc;exact ⟨0,z,rfl,hc.1,by rw [h];rfl⟩
   ·simp at h
  ·obtain ⟨t,x,h1,h2,h3⟩:=jlw now r ts (k+1) l h
   exact ⟨t+1,x,by simpa using h1,h2,by rw [h3,Nat.add_right_comm,Nat.add_assoc]⟩
theorem juD {y:Yd} (hP:YardOkP y) {l:List Int} (h:l∈qq y):∃(k t:Nat) (r:Rn) (x:Tk),y.runs[k]?=some r∧r.tasks[t]?=some x∧runAt y r.id=k∧x.state=3∧l=[r.id,(t:Int),x.tri]:=by
 obtain ⟨r,hr,hl⟩:=List.mem_flatMap.1 h;obtain ⟨k,hk,rfl⟩:=List.getElem_of_mem hr;have hk2:y.runs[k]?=some y.runs[k]:=List.getElem?_eq_getElem hk;obtain ⟨t,x,h1,h2,h3⟩:=jlw _ _ _ _ _ hl;exact ⟨k,t,_,x,hk2,h1,hP.place k _ hk2,h2,by rw [h3,Nat.zero_add]⟩
theorem jse {y:Yd} (hP:YardOkP y):(qq y).length≤96:=by
 have h:∀l:List Rn,(∀r∈l,r.tasks.length≤12)→(l.flatMap fun r=>zg y.now r 0 r.tasks).length≤12*l.length:=by
  intro l
  induction l with
  |nil=>intro;simp
  |cons r l ih=>
   intro h;have h1:=h r (by simp)
   have h2:=ih fun r hr=>h r (by simp [hr])
   have h3:=jgN y.now r r.tasks 0;simp only [List.flatMap_cons,List.length_append,List.length_cons] at h2⊢;omega
 have h1:=h y.runs fun r hr=>(hP.right r hr).le12
 have h2:=hP.eight;have e:(qq y).length=(y.runs.flatMap fun r=>zg y.now r 0 r.tasks).length:=rfl
 omega
noncomputable def jmx (z:Yd) (l:List Int):Yd:=failK z (runAt z (l.headD 0)).toNat (l.tail.headD 0).toNat
noncomputable def tickI (y:Yd) (i:Nat):Yd:=((qq y).take i).foldl jmx y
noncomputable def jf8 (y:Yd):Int:=if jJ y=false then 8 else if y.now+1>999999980 then 7 else 0
noncomputable def jg1 (y:Yd):Yd:=if jf8 y=0 then ⟨y.now+1,(tickI y (qq y).length).seq,(tickI y (qq y).length).shelf,(tickI y (qq y).length).runs⟩ else y
theorem jeL {y:Yd} {i:Nat} {l:List Int} (h:(qq y)[i]?=some l):tickI y (i+1)=jmx (tickI y i) l:=by
 rw [tickI,List.take_add_one,h,List.foldl_append];rfl
theorem jiN {y:Yd} (hP:YardOkP y):∀i,StepI y (tickI y i) i
 |0=>.refl hP
 |i+1=>by
  have ih:=jiN hP i;cases h:(qq y)[i]? with
  |none=>
   have:tickI y (i+1)=tickI y i:=by rw [tickI,tickI,List.take_add_one,h];simp
   rw [this];exact ih.mono (Nat.le_succ i)
  |some l=>rw [jeL h];exact ih.fail _ _
section
variable {L:List (List Int)} {i:Nat} {l:List Int}
theorem jnc (h:L[i]?=some l):D.get [i] (qM L)=some (jo l):=by
 have e:L.flatMap (fun es=>[jo es])=L.map jo:=by clear h;induction L<;>simp_all
 simp [qM,D.get,e,h,jay]
theorem jtq (h:L[i]?=some l):((L.flatMap fun es=>[jo es]).drop i).take 1=[jo l]:=by have:=jts h;rwa [Nat.mul_one] at this
theorem jst (h:L[i]?=some l):i+1≤(L.flatMap fun es=>[jo es]).length:=by have:=jsv (List.getElem?_eq_some_iff.1 h).1;rwa [Nat.mul_one] at this
end
theorem jqB {y:Yd} (h:YardOkP y):wfL y:=by
 refine ⟨by have:=h.now;simp only [inR];omega,fun r hr x hx=>?_⟩
 obtain ⟨k,hk,rfl⟩:=List.getElem_of_mem hx;have h1:=taskB_iff.1 ((h.right r hr).tasks k _ (List.getElem?_eq_getElem hk));have h2:=h1.2.2.2.1;unfold jf7 at h2;split at h2
 ·simp only [inB,Bool.and_eq_true,decide_eq_true_eq] at h2;simp only [inR];omega
 ·have:r.tasks[k].til=0:=by simpa using h2
  simp only [inR];omega
def jh0:C:=iS [iA 1 (.box 42 4 (.t 0)),iA 2 (.alloc 42 [.int .i64 0,.int .i64 0,.slice none 0 0,.slice none 0 0]),iA 3 (iN 0)] (iS [iA 8 (iT 4 1),iA 9 (.call 143 [.t 8]),iA 4 (.alloc 42 [.int .i64 0,.int .i64 0,.slice none 0 0,.slice none 0 0]),iC (.st 4 [none,none,some (1,74),some (8,78)] (.t 4) (.t 9))] (.seq (iS [iA 10 (iT 4 1),iA 11 (.call 45 [.t 10]),iA 12 (iU 11)] (iD 12 (iS [iA 13 (iT 4 4),iC (.st 4 [none,none,some (1,74),some (8,78)] (.t 2) (.t 13)),iA 3 (iN 8)] .ret) .skip)) (.seq (iS [iA 14 (iF 0 1),iA 15 (iL 14),iA 16 (iQ .add 3 15 1),iA 17 (iQ .gtr 3 16 999999980)] (iD 17 (iS [iA 18 (iT 4 4),iC (.st 4 [none,none,some (1,74),some (8,78)] (.t 2) (.t 18)),iA 3 (iN 7)] .ret) .skip)) (iS [iA 19 (iT 4 1),iA 20 (.call 171 [.t 19]),iA 5 (iM 20)] (.seq (iS [iA 6 (iN 0)] (.blk 0 (.loop (.seq (iS [iA 21 (iM 6),iA 22 (iM 5),iA 23 (iG 22),iA 24 (iP .lss 3 21 23)] (iD 24 .skip (.exit 0))) (.seq (.blk 1 (.seq (.dreg (T.pure 0 (iA 27 (iT 4 4)) (T.pure 1 (iA 28 (iM 5)) (T.pure 2 (iA 29 (iM 6)) (T.pure 3 (iA 30 (iI 1 28 29)) (T.pure 4 (iA 31 (iL 30)) (T.pure 5 (iA 32 (.ia 1 (.t 31) (.c (.int .i64 0)))) (T.pure 6 (iA 33 (iL 32)) (T.alt (iA 34 (.call 82 [.t 27,.t 33])) [] (T.pure 8 (iA 7 (iM 34)) T.done) T.stop))))))))) (.seq (.dreg (T.pure 0 (iA 35 (iF 3 4)) (T.pure 1 (iA 36 (iL 35)) (T.pure 2 (iA 37 (iM 7)) (T.pure 3 (iA 38 (iI 8 36 37)) (T.pure 4 (iA 39 (iF 7 38)) (T.pure 5 (iA 40 (iL 39)) (T.pure 6 (iA 41 (iM 5)) (T.pure 7 (iA 42 (iM 6)) (T.pure 8 (iA 43 (iI 1 41 42)) (T.pure 9 (iA 44 (iL 43)) (T.pure 10 (iA 45 (.ia 1 (.t 44) (.c (.int .i64 1)))) (T.pure 11 (iA 46 (iL 45)) (T.pure 12 (iA 47 (iI 4 40 46)) (T.pure 13 (iA 48 (iF 0 47)) (T.pure 14 (iA 49 (iL 48)) (T.pure 15 (iA 50 (iQ .eql 3 49 3)) T.done))))))))))))))))) (iD 50 (.dreg (T.pure 0 (iA 51 (iT 4 4)) (T.pure 1 (iA 52 (iM 7)) (T.pure 2 (iA 53 (iF 3 4)) (T.pure 3 (iA 54 (iL 53)) (T.pure 4 (iA 55 (iM 7)) (T.pure 5 (iA 56 (iI 8 54 55)) (T.pure 6 (iA 57 (iT 8 56)) (T.pure 7 (iA 58 (iM 5)) (T.pure 8 (iA 59 (iM 6)) (T.pure 9 (iA 60 (iI 1 58 59)) (T.pure 10 (iA 61 (iL 60)) (T.pure 11 (iA 62 (.ia 1 (.t 61) (.c (.int .i64 1)))) (T.pure 12 (iA 63 (iL 62)) (T.alt (iA 64 (.call 170 [.t 57,.t 63])) [1,0] (T.alt (iA 65 (.call 168 [.t 51,.t 52,.t 64])) [] (T.alt (iC (.st 4 [none,none,some (1,74),some (8,78)] (.t 4) (.t 65))) [] T.done T.stop) T.stop) T.stop))))))))))))))) .skip)))) (.reg [iA 25 (iM 6),iA 26 (iQ .add 3 25 1),iA 6 (iM 26)])))))) (iS [iA 66 (iF 0 4),iA 67 (iL 66),iA 68 (iQ .add 3 67 1),iA 69 (iF 0 4),iC (.st 1 [none] (.t 69) (.t 68))] (iS [iA 70 (iT 4 4),iC (.st 4 [none,none,some (1,74),some (8,78)] (.t 2) (.t 70)),iA 3 (iN 0)] .ret)))))))
theorem jiD:fnC Try.prog Try.f148=some (jh0,[.cell 2 true 4,.t 3],71):=by kernel_rfl
theorem jmM (y:Yd) (ht:jS y≤1990000):kl Try.prog 148 [.agg (jc y)] (.tup [(true,jc (jg1 y)),(false,[.val (.int .i64 (jf8 y))])]):=by
 refine jr Try.func148 jiD (by simp) ?_
 unfold jh0;have ht2:jS y≤2000000:=by omega
 simp only [go_sem,jc];intro b1 b2;refine jb (jT y ht2) (by simp only [go_sem,jc]) fun ηc=>?_
 simp only [go_sem,jc];intro b4;refine jb (kE y ht2) (by simp only [go_sem,jc]) fun η=>?_
 simp only [go_sem,jc];cases hok:jJ y
 ·have hc:jf8 y=8:=by simp [jf8,hok]
  have hy:jg1 y=y:=by rw [jg1,if_neg (by rw [hc];decide)]
  simp only [go_sem,jc,hok,hc,hy];refine qv _ _ _ _ _ ?_;simp only [go_sem,jc]
 have hP:=yard_iff.1 hok;have hnow:=hP.now;have hw1:IntKind.i64.wrap (y.now+1)=y.now+1:=jg (by omega) (by omega)
 by_cases hgt:y.now+1>999999980
 ·have hc:jf8 y=7:=by rw [jf8,if_neg (by rw [hok];decide),if_pos hgt]
  have hy:jg1 y=y:=by rw [jg1,if_neg (by rw [hc];decide)]
  simp only [go_sem,jc,hok,hw1,hgt,hc,hy];refine qv _ _ _ _ _ ?_;simp only [go_sem,jc]
 have hc:jf8 y=0:=by rw [jf8,if_neg (by rw [hok];decide),if_neg hgt]
 rw [hc,jg1,if_pos hc];simp only [go_sem,jc,hok,hw1,hgt];refine jb (jjX y ht2 (jqB hP)) (by simp only [go_sem,jc]) fun ηl=>?_
 simp only [go_sem,jc];have h96:=jse hP;refine jq (fun i:Nat×jm×jm=>St.of [(2,Bx 92 b2),(4,Bx 90 b4),(5,Hd 93 (ηl 0)),(6,Ni i.1)] [(92,ZYd b2 tYd),(90,ve b4 tYd (tickI y i.1).now (tickI y i.1).seq (tickI y i.1).shelf i.2.1 (tickI y i.1).runs i.2.2),(93,.loose (qM (qq y)) (ηl 0))]) (fun i=>i.1≤(qq y).length) (fun i=>(qq y).length-i.1) (0,ηc 2,ηc 3) (by (try dsimp only);first|omega|(simp;done)|(and_intros<;>first|omega|simp)) (jl [some 200,some 400,some 2000] (by simp only [go_sem,jc,show tickI y 0=y from rfl]<;>and_intros<;>first|rfl|assumption|trivial)) ?_
 rintro ⟨i,f2,f3⟩ hi;dsimp only at hi;have hJ:=jiN hP i;by_cases hlt:i<(qq y).length
 ·have hlt':(i:Int)<(qq y).length:=by omega
  have h0i:(i:Int)≥0:=by omega
  obtain ⟨l,hl⟩:=je hlt;obtain ⟨k,t,r0,x0,hr0,hx0,hra,hs0,hll⟩:=juD hP (List.mem_of_getElem? hl);have hw:IntKind.i64.wrap ((i:Int)+1)=((i+1:Nat):Int):=jg (by omega) (by omega)
  have hnt:tickI y (i+1)=failK (tickI y i) k t:=by rw [jeL hl,hll,jmx];simp only [List.headD_cons,List.tail_cons,hJ.later.runAt,hra,Int.toNat_natCast]
  generalize tickI y i=z at*;obtain ⟨r,hr,hid,hpl,hR,hrl,hr3⟩:=hJ.later.runs k r0 hr0;have hkl:=(List.getElem?_eq_some_iff.1 hr).1;have h0k:(k:Int)≥0:=by omega
  have h12:=hR.le12;have htl:=(List.getElem?_eq_some_iff.1 hx0).1;have hlt3:t<r.tasks.length:=by omega
  have h0t:(t:Int)≥0:=by omega
  obtain ⟨x,hx⟩:=je hlt3;have hfy:failK z k t=if x.state==3 then qi z k (jK r t) else z:=by rw [failK,hr,Option.getD_some,kq hx]
  have hrz:runAt z r0.id=(k:Int):=by rw [hJ.later.runAt,hra]
  subst hll;simp only [go_sem,hlt',hlt,h0i,Nat.mul_one,jtq hl,jst hl,jnc hl];refine jb (kF z r0.id) (by simp only [go_sem,jc]) fun η=>?_
  simp only [go_sem,jc];rw [hrz];simp only [go_sem,hlt',hlt,h0i,Nat.mul_one,jtq hl,jst hl,jnc hl,Nat.add_zero,hkl,h0k,jmk hr,jlE hr,zx hr,hlt3,h0t,jeD hx,zW hx];cases hs:x.state==3
  ·rw [hs,if_neg (by decide)] at hfy
   rw [hfy] at hnt;simp only [go_sem,hs,hw];exact ⟨(i+1,f2,f3),by (try dsimp only);first|omega|assumption|(and_intros<;>first|omega|assumption),(jl [some 92,some 90,some 93] (by simp only [go_sem,hnt]<;>and_intros<;>first|rfl|assumption|trivial)),by (try dsimp only);omega⟩
  ·rw [hs,if_pos rfl] at hfy
   rw [hfy] at hnt;simp only [go_sem,hs,hlt',hlt,h0i,Nat.mul_one,jtq hl,jst hl,jnc hl,Nat.add_zero,hkl,h0k,jnp hr,jkh hr,jd,ja];refine jb (zd r t (by have:=jgL hR.plan;obtain ⟨n,_,_,_,h30,_⟩:=this;omega) (by omega)) (by simp only [go_sem,jd,ja,qa hr,kZ hr]) fun ηr=>?_
   simp only [go_sem,jd,ja,qa hr,kZ hr];have hl2:=qk r t;generalize jK r t=r2 at*;refine zc [some 90,some 92,some 93,some 6405,some 6407] [(90,ve b4 tYd z.now z.seq z.shelf f2 z.runs f3),(92,ZYd b2 tYd),(93,.loose (qM (qq y)) (ηl 0)),(97,.loose (jt r2.plan.edges) (ηr 5)),(98,.loose (jI r2.tasks) (ηr 7))] [.agg [.v (.int .i64 z.now),.v (.int .i64 z.seq),.h 90 2 [] (f2 []),.h 90 3 [] (f3 [])],Ni k,.agg [.v (.int .i64 r2.id),.v (.int .i64 r2.plan.prio),.v (.int .i64 r2.plan.most),.v (.int .i64 r2.plan.wait),.v (.int .i64 r2.plan.tasks),.h 97 0 [] (ηr 5 []),.v (.int .i64 r2.state),.h 98 0 [] (ηr 7 [])]] (by simp only [go_sem]<;>and_intros<;>rfl) (by simp only [go_sem]<;>and_intros<;>rfl) (jdU hr hl2 h12 hJ.four (by have:=hJ.seq;omega) (by have:=hJ.tot;omega) rfl rfl rfl) ?_
   rintro _ o1 ⟨c,g2,g3,x2,x3,rfl,j99,j90,j91,j92,j93,j94,j95,j96⟩;have j92':o1 92=ZYd b2 tYd:=j92;have j93':o1 93=.loose (qM (qq y)) (ηl 0):=j93;generalize qi z k r2=z2 at*;simp only [go_sem,j99,j90,j92',hw];exact ⟨(i+1,g2,g3),by (try dsimp only);first|omega|assumption|(and_intros<;>first|omega|assumption),(jl [some 92,some 90,some 93] (by simp only [go_sem,hnt,j90,j92',j93']<;>and_intros<;>first|rfl|assumption|trivial)),by (try dsimp only);omega⟩
 have hlt':¬(i:Int)<(qq y).length:=by omega
 obtain rfl:i=(qq y).length:=by omega
 have hzn:=hJ.now;generalize tickI y (qq y).length=z at*;have hw1z:IntKind.i64.wrap (z.now+1)=y.now+1:=by rw [hzn,hw1]
 simp only [go_sem,hlt',hw1z];refine qv _ _ _ _ _ ?_;simp only [go_sem,jc]
theorem jc6 {α:Type} (f:α→Nat) (m:Nat):∀l:List α,(∀x∈l,f x≤m)→qE f l≤m*l.length
 |[],_=>by simp [qE]
 |x::l,h=>by
  have h1:=h x (by simp)
  have h2:=jc6 f m l fun x hx=>h x (by simp [hx])
  simp only [qE,List.map_cons,List.sum_cons,List.length_cons,Nat.mul_succ] at h2⊢;omega
theorem YardOkP.small {y:Yd} (h:YardOkP y):jS y≤700:=by
 have h1:=jc6 jaG 80 y.shelf fun l hl=>(h.shelves l hl).most
 have h2:=jc6 za 42 y.runs fun r hr=>by
  have hR:=h.right r hr;obtain ⟨n,hn,_,h12,h30,_⟩:=jgL hR.plan;have:=hR.len;have h30':r.plan.edges.length≤30:=h30;simp only [za,jeK];omega
 have h3:=h.four;have h4:=h.eight;simp only [jS,jeJ,jfJ];omega
noncomputable def doY (y:Yd) (d:Dd):Yd:=
 if jF d=false then y else if d.kind=1 then jkU y d.run d.plan else if d.kind=2 then jcb y d.worker d.draw else if d.kind=3 then jiB y d.run d.task d.tri
 else if d.kind=4 then jiz y d.run d.task d.tri else if d.kind=5 then jg1 y else if d.kind=6 then vb y d.run else if d.kind=7 then je0 y d.run else jif y
noncomputable def doQ (y:Yd) (d:Dd):Rp:=
 if jF d=false then ⟨5,0,0,0⟩ else if d.kind=1 then ⟨jkH y d.run d.plan,0,0,0⟩ else if d.kind=2 then jrK y d.worker d.draw else if d.kind=3 then ⟨jgE y d.run d.task d.tri,0,0,0⟩
 else if d.kind=4 then ⟨jgE y d.run d.task d.tri,0,0,0⟩ else if d.kind=5 then ⟨jf8 y,0,0,0⟩ else if d.kind=6 then ⟨vo y d.run,0,0,0⟩ else if d.kind=7 then ⟨je1 y d.run,0,0,0⟩
 else if jJ y=true then ⟨0,0,0,0⟩ else ⟨8,0,0,0⟩
def jmd:C:=iS [iA 2 (.box 42 4 (.t 0)),iA 3 (.box 26 11 (.t 1)),iA 4 (.alloc 42 [.int .i64 0,.int .i64 0,.slice none 0 0,.slice none 0 0]),iA 5 (.alloc 145 [.int .i64 0,.int .i64 0,.int .i64 0,.int .i64 0])] (iS [iA 6 (iN 0)] (iS [iA 8 (.bld [.int .i64 0,.int .i64 0,.slice none 0 0,.slice none 0 0] []),iA 7 (.alloc 42 [.int .i64 0,.int .i64 0,.slice none 0 0,.slice none 0 0]),iC (.st 4 [none,none,some (1,74),some (8,78)] (.t 7) (.t 8))] (.seq (iS [iA 9 (iT 11 3),iA 10 (.call 65 [.t 9]),iA 11 (iU 10)] (iD 11 (iS [iA 12 (iT 4 2),iA 13 (.call 143 [.t 12]),iA 14 (.bld [.int .i64 0,.int .i64 0,.int .i64 0,.int .i64 0] [(0,1,.c (.int .i64 5))]),iC (.st 4 [none,none,some (1,74),some (8,78)] (.t 4) (.t 13)),iC (.st 4 [none,none,none,none] (.t 5) (.t 14))] .ret) .skip)) (.seq (iS [iA 15 (iF 0 3),iA 16 (iL 15)] (.blk 0 (iS [iA 23 (iQ .eql 3 16 1),iA 22 (iM 23)] (iD 22 (.reg [iA 25 (iT 4 2),iA 26 (iF 1 3),iA 27 (iL 26),iA 28 (iF 2 3),iA 29 (iT 5 28),iA 30 (.call 144 [.t 25,.t 27,.t 29]),iA 24 (iM 30),iA 31 (iE 24 0),iA 32 (iE 24 1),iC (.st 4 [none,none,some (1,74),some (8,78)] (.t 7) (.t 31)),iA 6 (iM 32)]) (iS [iA 34 (iQ .eql 3 16 2),iA 33 (iM 34)] (iD 33 (iS [iA 35 (iT 4 2),iA 36 (iF 9 3),iA 37 (iL 36),iA 38 (iF 10 3),iA 39 (iL 38),iA 40 (.call 145 [.t 35,.t 37,.t 39]),iA 41 (iE 40 0),iA 42 (iE 40 1),iC (.st 4 [none,none,some (1,74),some (8,78)] (.t 4) (.t 41)),iC (.st 4 [none,none,none,none] (.t 5) (.t 42))] .ret) (iS [iA 44 (iQ .eql 3 16 3),iA 43 (iM 44)] (iD 43 (.reg [iA 46 (iT 4 2),iA 47 (iF 1 3),iA 48 (iL 47),iA 49 (iF 7 3),iA 50 (iL 49),iA 51 (iF 8 3),iA 52 (iL 51),iA 53 (.call 146 [.t 46,.t 48,.t 50,.t 52]),iA 45 (iM 53),iA 54 (iE 45 0),iA 55 (iE 45 1),iC (.st 4 [none,none,some (1,74),some (8,78)] (.t 7) (.t 54)),iA 6 (iM 55)]) (iS [iA 57 (iQ .eql 3 16 4),iA 56 (iM 57)] (iD 56 (.reg [iA 59 (iT 4 2),iA 60 (iF 1 3),iA 61 (iL 60),iA 62 (iF 7 3),iA 63 (iL 62),iA 64 (iF 8 3),iA 65 (iL 64),iA 66 (.call 147 [.t 59,.t 61,.t 63,.t 65]),iA 58 (iM 66),iA 67 (iE 58 0),iA 68 (iE 58 1),iC (.st 4 [none,none,some (1,74),some (8,78)] (.t 7) (.t 67)),iA 6 (iM 68)]) (iS [iA 70 (iQ .eql 3 16 5),iA 69 (iM 70)] (iD 69 (.reg [iA 72 (iT 4 2),iA 73 (.call 148 [.t 72]),iA 71 (iM 73),iA 74 (iE 71 0),iA 75 (iE 71 1),iC (.st 4 [none,none,some (1,74),some (8,78)] (.t 7) (.t 74)),iA 6 (iM 75)]) (iS [iA 77 (iQ .eql 3 16 6),iA 76 (iM 77)] (iD 76 (.reg [iA 79 (iT 4 2),iA 80 (iF 1 3),iA 81 (iL 80),iA 82 (.call 149 [.t 79,.t 81]),iA 78 (iM 82),iA 83 (iE 78 0),iA 84 (iE 78 1),iC (.st 4 [none,none,some (1,74),some (8,78)] (.t 7) (.t 83)),iA 6 (iM 84)]) (iS [iA 86 (iQ .eql 3 16 7),iA 85 (iM 86)] (iD 85 (.reg [iA 88 (iT 4 2),iA 89 (iF 1 3),iA 90 (iL 89),iA 91 (.call 150 [.t 88,.t 90]),iA 87 (iM 91),iA 92 (iE 87 0),iA 93 (iE 87 1),iC (.st 4 [none,none,some (1,74),some (8,78)] (.t 7) (.t 92)),iA 6 (iM 93)]) (iS [iA 17 (iT 4 2),iA 18 (.call 151 [.t 17]),iC (.st 4 [none,none,some (1,74),some (8,78)] (.t 7) (.t 18))] (iS [iA 19 (iT 4 2),iA 20 (.call 45 [.t 19]),iA 21 (iU 20)] (iD 21 (.reg [iA 6 (iN 8)]) .skip))))))))))))))))))) (iS [iA 94 (iT 4 7),iA 95 (iM 6),iA 96 (.bld [.int .i64 0,.int .i64 0,.int .i64 0,.int .i64 0] [(0,1,.t 95)]),iC (.st 4 [none,none,some (1,74),some (8,78)] (.t 4) (.t 94)),iC (.st 4 [none,none,none,none] (.t 5) (.t 96))] .ret)))))
theorem jl4:fnC Try.prog Try.f127=some (jmd,[.cell 4 true 4,.cell 5 true 4],97):=by kernel_rfl
theorem jrQ (y:Yd) (d:Dd) (ht:jS y≤1900000) (hd:ja1 d≤2000000):kl Try.prog 127 [.agg (jc y),.agg (jf d)] (.tup [(true,jc (doY y d)),(true,jkt (doQ y d))]):=by
 refine jr Try.func127 jl4 (by simp) ?_
 unfold jmd;have ht2:jS y≤2000000:=by omega
 have ht3:jS y≤1990000:=by omega
 have hpl:d.plan.edges.length≤4000000:=by simp only [ja1,jeK] at hd;omega
 simp only [go_sem,jc,jf,ja];intro b2 b3 b4 b5 b7;refine jb (jdK d hd) (by simp only [go_sem,jc,jf,ja,List.cons_append,List.nil_append]) fun η=>?_
 simp only [go_sem,jc,jf,ja,List.cons_append,List.nil_append];cases hk:jF d
 ·have hy:doY y d=y:=by rw [doY,if_pos hk]
  have hq:doQ y d=⟨5,0,0,0⟩:=by rw [doQ,if_pos hk]
  rw [hy,hq];simp only [go_sem,Bool.not_false,jc,jf,ja];refine jb (jT y ht2) (by simp only [go_sem,jc,jf,ja]) fun η=>?_
  simp only [go_sem,jc,jf,ja];simp only [zR];refine jD _ _ _ _ _ ?_;simp only [go_sem,jZ,true_or];refine jD _ _ _ _ _ ?_;simp only [go_sem,jZ,kn,jX,true_or,jc]
 have hk0:¬jF d=false:=by rw [hk];decide
 simp only [go_sem,Bool.not_true,jc,jf,ja];by_cases h1:d.kind=1
 ·have hy:doY y d=jkU y d.run d.plan:=by rw [doY,if_neg hk0,if_pos h1]
  have hq:doQ y d=⟨jkH y d.run d.plan,0,0,0⟩:=by rw [doQ,if_neg hk0,if_pos h1]
  have e1:(d.kind==1)=true:=by simp [h1]
  rw [hy,hq];simp only [go_sem,jc,jf,ja,e1];refine jb (jjT y d.run d.plan ht2 hpl) (by simp only [go_sem,jc,jf,ja,e1]) fun η=>?_
  simp only [go_sem,jc,jf,ja,e1];simp only [zR];refine jD _ _ _ _ _ ?_;simp only [go_sem,jZ,true_or];refine jD _ _ _ _ _ ?_;simp only [go_sem,jZ,kn,jX,true_or,jc]
 have e1:(d.kind==1)=false:=by simp [h1]
 by_cases h2:d.kind=2
 ·have hy:doY y d=jcb y d.worker d.draw:=by rw [doY,if_neg hk0,if_neg h1,if_pos h2]
  have hq:doQ y d=jrK y d.worker d.draw:=by rw [doQ,if_neg hk0,if_neg h1,if_pos h2]
  have e2:(d.kind==2)=true:=by simp [h2]
  rw [hy,hq];simp only [go_sem,jc,jf,ja,e1,e2];refine jb (jmN y d.worker d.draw ht2) (by simp only [go_sem,jc,jf,ja,e1,e2,jkt]) fun η=>?_
  simp only [go_sem,jc,jf,ja,e1,e2,jkt];simp only [zR];refine jD _ _ _ _ _ ?_;simp only [go_sem,jZ,true_or];refine jD _ _ _ _ _ ?_;simp only [go_sem,jZ,kn,jX,true_or,jc]
 have e2:(d.kind==2)=false:=by simp [h2]
 by_cases h3:d.kind=3
 ·have hy:doY y d=jiB y d.run d.task d.tri:=by rw [doY,if_neg hk0,if_neg h1,if_neg h2,if_pos h3]
  have hq:doQ y d=⟨jgE y d.run d.task d.tri,0,0,0⟩:=by rw [doQ,if_neg hk0,if_neg h1,if_neg h2,if_pos h3]
  have e3:(d.kind==3)=true:=by simp [h3]
  rw [hy,hq];simp only [go_sem,jc,jf,ja,e1,e2,e3];refine jb (jhn y d.run d.task d.tri ht2) (by simp only [go_sem,jc,jf,ja,e1,e2,e3]) fun η=>?_
  simp only [go_sem,jc,jf,ja,e1,e2,e3];simp only [zR];refine jD _ _ _ _ _ ?_;simp only [go_sem,jZ,true_or];refine jD _ _ _ _ _ ?_;simp only [go_sem,jZ,kn,jX,true_or,jc]
 have e3:(d.kind==3)=false:=by simp [h3]
 by_cases h4:d.kind=4
 ·have hy:doY y d=jiz y d.run d.task d.tri:=by rw [doY,if_neg hk0,if_neg h1,if_neg h2,if_neg h3,if_pos h4]
  have hq:doQ y d=⟨jgE y d.run d.task d.tri,0,0,0⟩:=by rw [doQ,if_neg hk0,if_neg h1,if_neg h2,if_neg h3,if_pos h4]
  have e4:(d.kind==4)=true:=by simp [h4]
  rw [hy,hq];simp only [go_sem,jc,jf,ja,e1,e2,e3,e4];refine jb (jmO y d.run d.task d.tri ht2) (by simp only [go_sem,jc,jf,ja,e1,e2,e3,e4]) fun η=>?_
  simp only [go_sem,jc,jf,ja,e1,e2,e3,e4];simp only [zR];refine jD _ _ _ _ _ ?_;simp only [go_sem,jZ,true_or];refine jD _ _ _ _ _ ?_;simp only [go_sem,jZ,kn,jX,true_or,jc]
 have e4:(d.kind==4)=false:=by simp [h4]
 by_cases h5:d.kind=5
 ·have hy:doY y d=jg1 y:=by rw [doY,if_neg hk0,if_neg h1,if_neg h2,if_neg h3,if_neg h4,if_pos h5]
  have hq:doQ y d=⟨jf8 y,0,0,0⟩:=by rw [doQ,if_neg hk0,if_neg h1,if_neg h2,if_neg h3,if_neg h4,if_pos h5]
  have e5:(d.kind==5)=true:=by simp [h5]
  rw [hy,hq];simp only [go_sem,jc,jf,ja,e1,e2,e3,e4,e5];refine jb (jmM y ht3) (by simp only [go_sem,jc,jf,ja,e1,e2,e3,e4,e5]) fun η=>?_
  simp only [go_sem,jc,jf,ja,e1,e2,e3,e4,e5];simp only [zR];refine jD _ _ _ _ _ ?_;simp only [go_sem,jZ,true_or];refine jD _ _ _ _ _ ?_;simp only [go_sem,jZ,kn,jX,true_or,jc]
 have e5:(d.kind==5)=false:=by simp [h5]
 by_cases h6:d.kind=6
 ·have hy:doY y d=vb y d.run:=by rw [doY,if_neg hk0,if_neg h1,if_neg h2,if_neg h3,if_neg h4,if_neg h5,if_pos h6]
  have hq:doQ y d=⟨vo y d.run,0,0,0⟩:=by rw [doQ,if_neg hk0,if_neg h1,if_neg h2,if_neg h3,if_neg h4,if_neg h5,if_pos h6]
  have e6:(d.kind==6)=true:=by simp [h6]
  rw [hy,hq];simp only [go_sem,jc,jf,ja,e1,e2,e3,e4,e5,e6];refine jb (jj1 y d.run ht2) (by simp only [go_sem,jc,jf,ja,e1,e2,e3,e4,e5,e6]) fun η=>?_
  simp only [go_sem,jc,jf,ja,e1,e2,e3,e4,e5,e6];simp only [zR];refine jD _ _ _ _ _ ?_;simp only [go_sem,jZ,true_or];refine jD _ _ _ _ _ ?_;simp only [go_sem,jZ,kn,jX,true_or,jc]
 have e6:(d.kind==6)=false:=by simp [h6]
 by_cases h7:d.kind=7
 ·have hy:doY y d=je0 y d.run:=by rw [doY,if_neg hk0,if_neg h1,if_neg h2,if_neg h3,if_neg h4,if_neg h5,if_neg h6,if_pos h7]
  have hq:doQ y d=⟨je1 y d.run,0,0,0⟩:=by rw [doQ,if_neg hk0,if_neg h1,if_neg h2,if_neg h3,if_neg h4,if_neg h5,if_neg h6,if_pos h7]
  have e7:(d.kind==7)=true:=by simp [h7]
  rw [hy,hq];simp only [go_sem,jc,jf,ja,e1,e2,e3,e4,e5,e6,e7];refine jb (jj0 y d.run ht2) (by simp only [go_sem,jc,jf,ja,e1,e2,e3,e4,e5,e6,e7]) fun η=>?_
  simp only [go_sem,jc,jf,ja,e1,e2,e3,e4,e5,e6,e7];simp only [zR];refine jD _ _ _ _ _ ?_;simp only [go_sem,jZ,true_or];refine jD _ _ _ _ _ ?_;simp only [go_sem,jZ,kn,jX,true_or,jc]
 have e7:(d.kind==7)=false:=by simp [h7]
 have hy:doY y d=jif y:=by rw [doY,if_neg hk0,if_neg h1,if_neg h2,if_neg h3,if_neg h4,if_neg h5,if_neg h6,if_neg h7]
 rw [hy];simp only [go_sem,jc,jf,ja,e1,e2,e3,e4,e5,e6,e7];refine jb (jis y ht3) (by simp only [go_sem,jc,jf,ja,e1,e2,e3,e4,e5,e6,e7]) fun η=>?_
 simp only [go_sem,jc,jf,ja,e1,e2,e3,e4,e5,e6,e7];refine jb (kE y ht2) (by simp only [go_sem,jc,jf,ja,e1,e2,e3,e4,e5,e6,e7]) fun η=>?_
 simp only [go_sem,jc,jf,ja,e1,e2,e3,e4,e5,e6,e7];cases hok:jJ y
 ·have hq:doQ y d=⟨8,0,0,0⟩:=by rw [doQ,if_neg hk0,if_neg h1,if_neg h2,if_neg h3,if_neg h4,if_neg h5,if_neg h6,if_neg h7,if_neg (by rw [hok];decide)]
  rw [hq];simp only [go_sem,Bool.not_false,jc];simp only [zR];refine jD _ _ _ _ _ ?_;simp only [go_sem,jZ,true_or];refine jD _ _ _ _ _ ?_;simp only [go_sem,jZ,kn,jX,true_or,jc]
 ·have hq:doQ y d=⟨0,0,0,0⟩:=by rw [doQ,if_neg hk0,if_neg h1,if_neg h2,if_neg h3,if_neg h4,if_neg h5,if_neg h6,if_neg h7,if_pos hok]
  rw [hq];simp only [go_sem,Bool.not_true,jc];simp only [zR];refine jD _ _ _ _ _ ?_;simp only [go_sem,jZ,true_or];refine jD _ _ _ _ _ ?_;simp only [go_sem,jZ,kn,jX,true_or,jc]
end Go.Proofs.Ytmnpailnelmpiaa
