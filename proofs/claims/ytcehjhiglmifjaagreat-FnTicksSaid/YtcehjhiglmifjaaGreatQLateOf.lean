/- Parts. -/
import Derived.Test.YtcehjhiglmifjaaGreatQChange
set_option linter.unusedSimpArgs false
set_option linter.unusedVariables false
set_option maxHeartbeats 8000000
set_option maxRecDepth 100000
namespace Go.Proofs.YtcehjhiglmifjaaGreat
open Go.RowKit Go.Sort
def jf1:C:=iS [iA 1 (.box 27 4 (.t 0)),iA 2 (.mov (.c (.slice none 0 0)))] (iS [iA 7 (.bsl 29 1 0 [] []),iA 3 (iM 7)] (.seq (iS [iA 4 (iN 0)] (.blk 0 (.loop (.seq (iS [iA 8 (iM 4),iA 9 (iF 3 1),iA 10 (iL 9),iA 11 (iG 10),iA 12 (iP .lss 3 8 11)] (iD 12 .skip (.exit 0))) (.seq (.blk 1 (iS [iA 5 (iN 0)] (.blk 2 (.loop (.seq (iS [iA 15 (iM 5),iA 16 (iF 3 1),iA 17 (iL 16),iA 18 (iM 4),iA 19 (iI 8 17 18),iA 20 (iF 7 19),iA 21 (iL 20),iA 22 (iG 21),iA 23 (iP .lss 3 15 22)] (iD 23 .skip (.exit 2))) (.seq (.blk 3 (iS [iA 26 (iF 3 1),iA 27 (iL 26),iA 28 (iM 4),iA 29 (iI 8 27 28),iA 30 (iF 7 29),iA 31 (iL 30),iA 32 (iM 5),iA 33 (iI 4 31 32),iA 34 (iT 4 33),iA 6 (.alloc 46 [.int .i64 0,.int .i64 0,.int .i64 0,.int .i64 0]),iC (.st 4 [none,none,none,none] (.t 6) (.t 34))] (iS [iA 35 (iF 0 6),iA 36 (iL 35),iA 37 (iQ .eql 3 36 3),iA 38 (iM 37),iB 39 38 true (iF 3 6),iB 40 38 true (iL 39),iB 41 38 true (iF 0 1),iB 42 38 true (iL 41),iB 43 38 true (iP .leq 3 40 42),iB 44 38 true (iM 43),iB 45 44 false (iF 3 6),iB 46 44 false (iL 45),iB 47 44 false (iQ .sub 3 46 1),iB 48 44 false (iF 0 1),iB 49 44 false (iL 48),iB 50 44 false (iP .leq 3 47 49),iB 51 38 true (.pick (.t 44) (.c (.bool true)) (.t 50)),iA 52 (.pick (.t 38) (.t 51) (.c (.bool false)))] (iD 52 (.dreg (T.pure 0 (iA 53 (iM 3)) (T.pure 1 (iA 54 (iF 3 1)) (T.pure 2 (iA 55 (iL 54)) (T.pure 3 (iA 56 (iM 4)) (T.pure 4 (iA 57 (iI 8 55 56)) (T.pure 5 (iA 58 (iF 0 57)) (T.pure 6 (iA 59 (iL 58)) (T.pure 7 (iA 60 (iM 5)) (T.pure 8 (iA 61 (iF 2 6)) (T.pure 9 (iA 62 (iL 61)) (T.alt (iA 63 (.bsl 3 1 3 [none,none,none] [(0,1,.t 59),(1,1,.t 60),(2,1,.t 62)])) [0] (T.alt (iA 64 (.bsl 29 1 1 [some (1,3)] [(0,1,.t 63)])) [0] (T.alt (iA 65 (.app 29 1 24 (.t 53) (.t 64))) [] (T.pure 13 (iA 3 (iM 65)) T.done) T.stop) T.stop) T.stop)))))))))))) .skip)))) (.reg [iA 24 (iM 5),iA 25 (iQ .add 3 24 1),iA 5 (iM 25)]))))))) (.reg [iA 13 (iM 4),iA 14 (iQ .add 3 13 1),iA 4 (iM 14)])))))) (iS [iA 66 (iM 3),iA 2 (iM 66)] .ret)))
theorem jh5:fnC Tryz.prog Tryz.f54=some (jf1,[.t 2],67):=by kernel_rfl
def jgg:C:=iS [iA 1 (.box 27 4 (.t 0)),iA 2 (.mov (.c (.slice none 0 0)))] (iS [iA 3 (.mov (.c (.slice none 0 0)))] (.seq (iS [iA 8 (iF 3 1),iA 9 (iL 8),iA 10 (iG 9),iA 11 (iN 0)] (.blk 0 (.loop (iS [iA 12 (iP .lss 3 11 10)] (.seq (iD 12 .skip (.exit 0)) (.seq (.blk 1 (iS [iA 13 (iI 8 9 11),iA 14 (iT 8 13),iA 5 (.alloc 52 [.int .i64 0,.int .i64 0,.int .i64 0,.int .i64 0,.int .i64 0,.slice none 0 0,.int .i64 0,.slice none 0 0]),iC (.st 8 [none,none,none,none,none,some (2,161),none,some (4,46)] (.t 5) (.t 14))] (iS [iA 15 (iF 7 5),iA 16 (iL 15),iA 17 (iG 16),iA 18 (iN 0)] (.blk 2 (.loop (iS [iA 19 (iP .lss 3 18 17)] (.seq (iD 19 .skip (.exit 2)) (.seq (.blk 3 (iS [iA 20 (iM 18),iA 21 (iI 4 16 18),iA 22 (iT 4 21),iA 7 (.alloc 46 [.int .i64 0,.int .i64 0,.int .i64 0,.int .i64 0]),iA 6 (iM 20),iC (.st 4 [none,none,none,none] (.t 7) (.t 22))] (iS [iA 23 (iF 0 7),iA 24 (iL 23),iA 25 (iQ .eql 3 24 3),iA 26 (iM 25),iB 27 26 true (iF 3 7),iB 28 26 true (iL 27),iB 29 26 true (iF 0 1),iB 30 26 true (iL 29),iB 31 26 true (iP .leq 3 28 30),iB 32 26 true (iM 31),iB 33 32 false (iF 3 7),iB 34 32 false (iL 33),iB 35 32 false (iQ .sub 3 34 1),iB 36 32 false (iF 0 1),iB 37 32 false (iL 36),iB 38 32 false (iP .eql 3 35 37),iB 39 26 true (.pick (.t 32) (.c (.bool true)) (.t 38)),iA 40 (.pick (.t 26) (.t 39) (.c (.bool false)))] (iD 40 (.reg [iA 41 (iM 3),iA 42 (iF 0 5),iA 43 (iL 42),iA 44 (iM 6),iA 45 (iF 2 7),iA 46 (iL 45),iA 47 (.bsl 3 1 3 [none,none,none] [(0,1,.t 43),(1,1,.t 44),(2,1,.t 46)]),iA 48 (.bsl 29 1 1 [some (1,3)] [(0,1,.t 47)]),iA 49 (.app 29 1 24 (.t 41) (.t 48)),iA 3 (iM 49)]) .skip)))) (.reg [iA 50 (iQ .add 3 18 1),iA 18 (iM 50)]))))))))) (.reg [iA 51 (iQ .add 3 11 1),iA 11 (iM 51)]))))))) (iS [iA 52 (iM 3),iA 2 (iM 52)] .ret)))
theorem jik:fnC Tryz.prog Tryz.f50=some (jgg,[.t 2],53):=by kernel_rfl
def wfL (y:Yd):Prop:=inR y.now∧∀r∈y.runs,∀x∈r.tasks,inR x.til
theorem jfl (l:List (List Int)) (a b c:Int):D.sl 1 tIs (l.flatMap (fun es=>[jh es])++[D.sl 1 jgn [iv a,iv b,iv c]])=qp (l++[[a,b,c]]):=by simp [qp,jh]
theorem jfd (y:Yd) (ht:jJ y≤2000000) (wf:wfL y):kj Tryz.prog 54 [.agg (jb y)] (.c (qp (kv y))):=by
 refine jq Tryz.func54 jh5 (by simp) ?_
 unfold jf1;have hl:=jgt ht;have htr:vT qO y.runs≤2000000:=by simp only [jJ,ja5] at ht;omega
 rw [jqH];simp only [go_sem,jb];intro b η0;refine jn (fun i:Nat×js=>St.of [(1,Bx 100 b),(3,Hd 700 i.2),(4,Ni i.1)] [(100,Bi b _ (jb y)),(700,.loose (qp ((y.runs.take i.1).flatMap (jjq y.now))) i.2)]) (fun i=>i.1≤y.runs.length) (fun i=>y.runs.length-i.1) (0,η0) (Nat.zero_le _) (jg [some 100,some 700] (by simp only [go_sem,jb]<;>and_intros<;>rfl)) ?_
 rintro ⟨i,η⟩ hi;dsimp only at hi;by_cases hlt:i<y.runs.length
 ·have hlt':(i:Int)<y.runs.length:=by omega
  obtain ⟨r,hr⟩:=je hlt;have hrw:=wf.2 r (List.mem_of_getElem? hr);have hwi:IntKind.i64.wrap ((i:Int)+1)=((i+1:Nat):Int):=jf (by omega) (by omega)
  have hbi:=jul y.now (y.runs.take i);have hts:=vS (tot:=qO) hr;have htl:=jal qO y.runs (i+1);have hrt:r.tasks.length≤qO r:=by simp only [qO];omega
  have hnx:=jnR (now:=y.now) hr;simp only [go_sem,jb,hlt,hlt'];generalize hL:(y.runs.take i).flatMap (jjq y.now)=L at*;refine jn (fun k:Nat×js=>St.of [(1,Bx 100 b),(3,Hd 700 k.2),(4,Ni i),(5,Ni k.1)] [(100,Bi b _ (jb y)),(700,.loose (qp (L++vY y.now r 0 (r.tasks.take k.1))) k.2)]) (fun k=>k.1≤r.tasks.length) (fun k=>r.tasks.length-k.1) (0,η) (Nat.zero_le _) (jg [some 100,some 700] (by simp only [go_sem,jb,List.take_zero,vY,List.append_nil]<;>and_intros<;>rfl)) ?_
  rintro ⟨j,η1⟩ hj;dsimp only at hj;by_cases hjt:j<r.tasks.length
  ·have hjt':(j:Int)<r.tasks.length:=by omega
   obtain ⟨x,hx⟩:=je hjt;have hxw:=hrw x (List.mem_of_getElem? hx);have hwj:IntKind.i64.wrap ((j:Int)+1)=((j+1:Nat):Int):=jf (by omega) (by omega)
   have hlr:=jfk y.now r (r.tasks.take j) 0;have hn:=jk6 (now:=y.now) (r:=r) hx;rw [List.length_take] at hlr;obtain ⟨hx1,hx2⟩:=hxw;obtain ⟨⟨hy1,hy2⟩,-⟩:=wf;simp only [go_sem,jb,hlt,hlt',hjt,hjt',jV hr,jd,ja,jQ hx,jo];generalize hM:vY y.now r 0 (r.tasks.take j)=M at*;have hone:1≤maxLen:=by unfold maxLen;omega
   have h3m:3≤maxLen:=by unfold maxLen;omega
   have hm1:(L++M).length+1≤maxLen:=by rw [List.length_append];unfold maxLen;omega
   have hm2:((L++M).length+1)*24≤140737488355328:=by rw [List.length_append];omega
   intro b2;by_cases hs:x.state=3
   ·by_cases hle:x.til≤y.now
    ·have hlate:zR y.now r.id x j=some [r.id,j,x.tri]:=by simp [zR,hs,hle]
     rw [hlate] at hn;simp only [go_sem,jb,jo,hs,hle,beq_self_eq_true,jV hr,hlt,hlt',jd,ja,hm1,hm2,jfl,hwj];intro η2 η3 η4;exact ⟨(j+1,η4),by dsimp only;omega,jg [some 100,some 6500] (by simp only [go_sem,jb,hn,Option.toList,List.append_assoc]<;>and_intros<;>rfl),by dsimp only;omega⟩
    ·by_cases heq:x.til-1=y.now
     ·have hlate:zR y.now r.id x j=some [r.id,j,x.tri]:=by simp [zR,hs,heq]
      have hsub:IntKind.i64.wrap (x.til-1)=x.til-1:=jf (by omega) (by omega)
      have hle2:x.til-1≤y.now:=by omega
      rw [hlate] at hn;simp only [go_sem,jb,jo,hs,hle,hsub,hle2,beq_self_eq_true,jV hr,hlt,hlt',jd,ja,hm1,hm2,jfl,hwj];intro η2 η3 η4;exact ⟨(j+1,η4),by dsimp only;omega,jg [some 100,some 6500] (by simp only [go_sem,jb,hn,Option.toList,List.append_assoc]<;>and_intros<;>rfl),by dsimp only;omega⟩
     ·have hlate:zR y.now r.id x j=none:=by simp [zR,hle,heq]
      have hsub:IntKind.i64.wrap (x.til-1)=x.til-1:=jf (by omega) (by omega)
      have hle2:¬x.til-1≤y.now:=by omega
      rw [hlate] at hn;simp only [go_sem,jb,jo,hs,hle,hsub,hle2,beq_self_eq_true,hlt,hlt',hwj];exact ⟨(j+1,η1),by dsimp only;omega,jg [some 100,some 700] (by simp only [go_sem,jb,hn,Option.toList,List.append_nil]<;>and_intros<;>rfl),by dsimp only;omega⟩
   ·have hlate:zR y.now r.id x j=none:=by simp [zR,hs]
    have hs':(x.state==3)=false:=by simpa using hs
    rw [hlate] at hn;simp only [go_sem,jb,jo,hs',hwj];exact ⟨(j+1,η1),by dsimp only;omega,jg [some 100,some 700] (by simp only [go_sem,jb,hn,Option.toList,List.append_nil]<;>and_intros<;>rfl),by dsimp only;omega⟩
  ·have hjt':¬(j:Int)<r.tasks.length:=by omega
   rw [List.take_of_length_le (by omega)]
   simp only [go_sem,jb,hlt,hlt',jV hr,jd,ja,hjt',hwi];exact ⟨(i+1,η1),by dsimp only;omega,jg [some 100,some 700] (by simp only [go_sem,jb,hnx]<;>and_intros<;>rfl),by dsimp only;omega⟩
 ·have hlt':¬(i:Int)<y.runs.length:=by omega
  rw [List.take_of_length_le (by omega)]
  simp only [go_sem,jb,hlt']
theorem jfe (y:Yd) (ht:jJ y≤2000000) (wf:wfL y):kj Tryz.prog 50 [.agg (jb y)] (.c (qp (kv y))):=by
 refine jq Tryz.func50 jik (by simp) ?_
 unfold jgg;have hl:=jgt ht;have htr:vT qO y.runs≤2000000:=by simp only [jJ,ja5] at ht;omega
 rw [jqH];simp only [go_sem,jb];intro b;refine jn (fun i:Nat×js=>St.of [(1,Bx 100 b),(3,Hd 7 i.2),(9,Ro (jK y.runs)),(10,Ni y.runs.length),(11,Ni i.1)] [(100,Bi b _ (jb y)),(7,.loose (qp ((y.runs.take i.1).flatMap (jjq y.now))) i.2)]) (fun i=>i.1≤y.runs.length) (fun i=>y.runs.length-i.1) (0,jcc) (by (try dsimp only);first|omega|(simp;done)|(and_intros<;>first|omega|simp)) (jg [some 100,none] (by simp only [go_sem,jb]<;>and_intros<;>first|rfl|assumption|trivial)) ?_
 rintro ⟨i0,η⟩ hi;dsimp only at hi;by_cases hlt:i0<y.runs.length
 ·have hlt':(i0:Int)<y.runs.length:=by omega
  obtain ⟨r,hr⟩:=je hlt;have hrw:=wf.2 r (List.mem_of_getElem? hr);have hwi:IntKind.i64.wrap ((i0:Int)+1)=((i0+1:Nat):Int):=jf (by omega) (by omega)
  have hbi:=jul y.now (y.runs.take i0);have hts:=vS (tot:=qO) hr;have htl:=jal qO y.runs (i0+1);have hrt:r.tasks.length≤qO r:=by simp only [qO];omega
  have hnx:=jnR (now:=y.now) hr;simp only [go_sem,jb,hlt,hlt',jV hr,jd,ja];generalize hL:(y.runs.take i0).flatMap (jjq y.now)=L at*;intro b2;refine jn (fun i:Nat×js=>St.of [(1,Bx 100 b),(3,Hd 7 i.2),(5,Bx 500 b2),(9,Ro (jK y.runs)),(10,Ni y.runs.length),(11,Ni i0),(16,Ro (jB r.tasks)),(17,Ni r.tasks.length),(18,Ni i.1)] [(100,Bi b _ (jb y)),(500,Bi b2 _ (jd r)),(7,.loose (qp (L++vY y.now r 0 (r.tasks.take i.1))) i.2)]) (fun i=>i.1≤r.tasks.length) (fun i=>r.tasks.length-i.1) (0,η) (by (try dsimp only);first|omega|(simp;done)|(and_intros<;>first|omega|simp)) (jg [some 100,some 500,some 7] (by simp only [go_sem,jb,jd,ja,List.take_zero,vY,List.append_nil]<;>and_intros<;>first|rfl|assumption|trivial)) ?_
  rintro ⟨j,η1⟩ hj;dsimp only at hj;by_cases hjt:j<r.tasks.length
  ·have hjt':(j:Int)<r.tasks.length:=by omega
   obtain ⟨x,hx⟩:=je hjt;have hxw:=hrw x (List.mem_of_getElem? hx);have hwj:IntKind.i64.wrap ((j:Int)+1)=((j+1:Nat):Int):=jf (by omega) (by omega)
   have hlr:=jfk y.now r (r.tasks.take j) 0;have hn:=jk6 (now:=y.now) (r:=r) hx;rw [List.length_take] at hlr;obtain ⟨hx1,hx2⟩:=hxw;obtain ⟨⟨hy1,hy2⟩,-⟩:=wf;simp only [go_sem,jb,hjt,hjt',jQ hx,jo];generalize hM:vY y.now r 0 (r.tasks.take j)=M at*;have hm1:(L++M).length+1≤maxLen:=by rw [List.length_append];unfold maxLen;omega
   have hm2:((L++M).length+1)*24≤140737488355328:=by rw [List.length_append];omega
   intro b3;by_cases hs:x.state=3
   ·by_cases hle:x.til≤y.now
    ·have hlate:zR y.now r.id x j=some [r.id,j,x.tri]:=by simp [zR,hs,hle]
     rw [hlate] at hn;simp only [go_sem,jb,jo,jd,ja,hs,hle,beq_self_eq_true,hm1,hm2,jfl,hwj];intro η2 η3 η4;exact ⟨(j+1,η4),by (try dsimp only);first|omega|assumption|(and_intros<;>first|omega|assumption),(jg [some 100,some 500,some 4900] (by simp only [go_sem,jb,jd,ja,hn,Option.toList,List.append_assoc]<;>and_intros<;>first|rfl|assumption|trivial)),by (try dsimp only);omega⟩
    ·by_cases heq:x.til-1=y.now
     ·have hlate:zR y.now r.id x j=some [r.id,j,x.tri]:=by simp [zR,hs,heq]
      have heq':(x.til-1==y.now)=true:=by simpa using heq
      have hsub:IntKind.i64.wrap (x.til-1)=x.til-1:=jf (by omega) (by omega)
      rw [hlate] at hn;simp only [go_sem,jb,jo,jd,ja,hs,hle,hsub,heq',beq_self_eq_true,hm1,hm2,jfl,hwj];intro η2 η3 η4;exact ⟨(j+1,η4),by (try dsimp only);first|omega|assumption|(and_intros<;>first|omega|assumption),(jg [some 100,some 500,some 4900] (by simp only [go_sem,jb,jd,ja,hn,Option.toList,List.append_assoc]<;>and_intros<;>first|rfl|assumption|trivial)),by (try dsimp only);omega⟩
     ·have hlate:zR y.now r.id x j=none:=by simp [zR,hle,heq]
      have hsub:IntKind.i64.wrap (x.til-1)=x.til-1:=jf (by omega) (by omega)
      have heq':(x.til-1==y.now)=false:=by simpa using heq
      rw [hlate] at hn;simp only [go_sem,jb,jo,hs,hle,hsub,heq',beq_self_eq_true,hwj];exact ⟨(j+1,η1),by (try dsimp only);first|omega|assumption|(and_intros<;>first|omega|assumption),(jg [some 100,some 500,some 7] (by simp only [go_sem,jb,jd,ja,hn,Option.toList,List.append_nil]<;>and_intros<;>first|rfl|assumption|trivial)),by (try dsimp only);omega⟩
   ·have hlate:zR y.now r.id x j=none:=by simp [zR,hs]
    have hs':(x.state==3)=false:=by simpa using hs
    rw [hlate] at hn;simp only [go_sem,jb,jo,hs',hwj];exact ⟨(j+1,η1),by (try dsimp only);first|omega|assumption|(and_intros<;>first|omega|assumption),(jg [some 100,some 500,some 7] (by simp only [go_sem,jb,jd,ja,hn,Option.toList,List.append_nil]<;>and_intros<;>first|rfl|assumption|trivial)),by (try dsimp only);omega⟩
  ·have hjt':¬(j:Int)<r.tasks.length:=by omega
   rw [List.take_of_length_le (by omega)]
   simp only [go_sem,hjt',hwi];exact ⟨(i0+1,η1),by (try dsimp only);first|omega|assumption|(and_intros<;>first|omega|assumption),(jg [some 100,some 7] (by simp only [go_sem,jb,hnx,jjq]<;>and_intros<;>first|rfl|assumption|trivial)),by (try dsimp only);omega⟩
 ·have hlt':¬(i0:Int)<y.runs.length:=by omega
  rw [List.take_of_length_le (by omega)]
  simp only [go_sem,jb,hlt']
theorem jnT (now:Int) (r:Rn):∀(ts:List Tk) (k:Nat) (l:List Int),l∈vY now r k ts→∃(t:Nat) (x:Tk),ts[t]?=some x∧x.state=3∧l=[r.id,((k+t:Nat):Int),x.tri]
 |[],_,_,h=>by simp [vY] at h
 |z::ts,k,l,h=>by
  rw [vY] at h;rcases List.mem_append.1 h with h|h
  ·unfold zR at h
   split at h
   ·rename_i hc
    simp at h;simp only [Bool.and_eq_true,beq_iff_eq] at hc;exact ⟨0,z,rfl,hc.1,by rw [h];rfl⟩
   ·simp at h
  ·obtain ⟨t,x,h1,h2,h3⟩:=jnT now r ts (k+1) l h
   exact ⟨t+1,x,by simpa using h1,h2,by rw [h3,Nat.add_right_comm,Nat.add_assoc]⟩
theorem jqG {y:Yd} (hP:YardOkP y) {l:List Int} (h:l∈kv y):∃(k t:Nat) (r:Rn) (x:Tk),y.runs[k]?=some r∧r.tasks[t]?=some x∧runAt y r.id=k∧x.state=3∧l=[r.id,(t:Int),x.tri]:=by
 obtain ⟨r,hr,hl⟩:=List.mem_flatMap.1 h;obtain ⟨k,hk,rfl⟩:=List.getElem_of_mem hr;have hk2:y.runs[k]?=some y.runs[k]:=List.getElem?_eq_getElem hk;obtain ⟨t,x,h1,h2,h3⟩:=jnT _ _ _ _ _ hl;exact ⟨k,t,_,x,hk2,h1,hP.place k _ hk2,h2,by rw [h3,Nat.zero_add]⟩
theorem jmf {y:Yd} (hP:YardOkP y):(kv y).length≤96:=by
 have h:∀l:List Rn,(∀r∈l,r.tasks.length≤12)→(l.flatMap fun r=>vY y.now r 0 r.tasks).length≤12*l.length:=by
  intro l
  induction l with
  |nil=>intro;simp
  |cons r l ih=>
   intro h;have h1:=h r (by simp)
   have h2:=ih fun r hr=>h r (by simp [hr])
   have h3:=jfk y.now r r.tasks 0;simp only [List.flatMap_cons,List.length_append,List.length_cons] at h2⊢;omega
 have h1:=h y.runs fun r hr=>(hP.right r hr).le12
 have h2:=hP.eight;have e:(kv y).length=(y.runs.flatMap fun r=>vY y.now r 0 r.tasks).length:=rfl
 omega
noncomputable def jmW (z:Yd) (l:List Int):Yd:=failK z (runAt z (l.headD 0)).toNat (l.tail.headD 0).toNat
noncomputable def tickI (y:Yd) (i:Nat):Yd:=((kv y).take i).foldl jmW y
noncomputable def zE (y:Yd):Int:=if jD y=false then 8 else if y.now+1>999999980 then 7 else 0
noncomputable def vE (y:Yd):Yd:=if zE y=0 then ⟨y.now+1,(tickI y (kv y).length).seq,(tickI y (kv y).length).shelf,(tickI y (kv y).length).runs⟩ else y
theorem jet {y:Yd} {i:Nat} {l:List Int} (h:(kv y)[i]?=some l):tickI y (i+1)=jmW (tickI y i) l:=by
 rw [tickI,List.take_add_one,h,List.foldl_append];rfl
theorem jgr {y:Yd} (hP:YardOkP y):∀i,StepI y (tickI y i) i
 |0=>.refl hP
 |i+1=>by
  have ih:=jgr hP i;cases h:(kv y)[i]? with
  |none=>
   have:tickI y (i+1)=tickI y i:=by rw [tickI,tickI,List.take_add_one,h];simp
   rw [this];exact ih.mono (Nat.le_succ i)
  |some l=>rw [jet h];exact ih.fail _ _
section
variable {L:List (List Int)} {i:Nat} {l:List Int}
theorem jjv (h:L[i]?=some l):D.get [i] (qp L)=some (jh l):=by
 have e:L.flatMap (fun es=>[jh es])=L.map jh:=by clear h;induction L<;>simp_all
 simp [qp,D.get,e,h,jcA]
theorem joB (h:L[i]?=some l):((L.flatMap fun es=>[jh es]).drop i).take 1=[jh l]:=by have:=jvo h;rwa [Nat.mul_one] at this
theorem jn0 (h:L[i]?=some l):i+1≤(L.flatMap fun es=>[jh es]).length:=by have:=juy (List.getElem?_eq_some_iff.1 h).1;rwa [Nat.mul_one] at this
end
theorem je1 {y:Yd} (h:YardOkP y):wfL y:=by
 refine ⟨by have:=h.now;simp only [inR];omega,fun r hr x hx=>?_⟩
 obtain ⟨k,hk,rfl⟩:=List.getElem_of_mem hx;have h1:=taskB_iff.1 ((h.right r hr).tasks k _ (List.getElem?_eq_getElem hk));have h2:=h1.2.2.2.1;unfold ja6 at h2;split at h2
 ·simp only [inB,Bool.and_eq_true,decide_eq_true_eq] at h2;simp only [inR];omega
 ·have:r.tasks[k].til=0:=by simpa using h2
  simp only [inR];omega
def jjS:C:=iS [iA 1 (.box 27 4 (.t 0)),iA 2 (.alloc 27 [.int .i64 0,.int .i64 0,.slice none 0 0,.slice none 0 0]),iA 3 (iN 0)] (iS [iA 8 (iT 4 1),iA 9 (.call 67 [.t 8]),iA 4 (.alloc 27 [.int .i64 0,.int .i64 0,.slice none 0 0,.slice none 0 0]),iC (.st 4 [none,none,some (1,35),some (8,52)] (.t 4) (.t 9))] (.seq (iS [iA 10 (iT 4 1),iA 11 (.call 66 [.t 10]),iA 12 (iU 11)] (iD 12 (iS [iA 13 (iT 4 4),iC (.st 4 [none,none,some (1,35),some (8,52)] (.t 2) (.t 13)),iA 3 (iN 8)] .ret) .skip)) (.seq (iS [iA 14 (iF 0 1),iA 15 (iL 14),iA 16 (iQ .add 3 15 1),iA 17 (iQ .gtr 3 16 999999980)] (iD 17 (iS [iA 18 (iT 4 4),iC (.st 4 [none,none,some (1,35),some (8,52)] (.t 2) (.t 18)),iA 3 (iN 7)] .ret) .skip)) (iS [iA 19 (iT 4 1),iA 20 (.call 54 [.t 19]),iA 5 (iM 20)] (.seq (iS [iA 6 (iN 0)] (.blk 0 (.loop (.seq (iS [iA 21 (iM 6),iA 22 (iM 5),iA 23 (iG 22),iA 24 (iP .lss 3 21 23)] (iD 24 .skip (.exit 0))) (.seq (.blk 1 (.seq (.dreg (T.pure 0 (iA 27 (iT 4 4)) (T.pure 1 (iA 28 (iM 5)) (T.pure 2 (iA 29 (iM 6)) (T.pure 3 (iA 30 (iI 1 28 29)) (T.pure 4 (iA 31 (iL 30)) (T.pure 5 (iA 32 (.ia 1 (.t 31) (.c (.int .i64 0)))) (T.pure 6 (iA 33 (iL 32)) (T.alt (iA 34 (.call 26 [.t 27,.t 33])) [] (T.pure 8 (iA 7 (iM 34)) T.done) T.stop))))))))) (.seq (.dreg (T.pure 0 (iA 35 (iF 3 4)) (T.pure 1 (iA 36 (iL 35)) (T.pure 2 (iA 37 (iM 7)) (T.pure 3 (iA 38 (iI 8 36 37)) (T.pure 4 (iA 39 (iF 7 38)) (T.pure 5 (iA 40 (iL 39)) (T.pure 6 (iA 41 (iM 5)) (T.pure 7 (iA 42 (iM 6)) (T.pure 8 (iA 43 (iI 1 41 42)) (T.pure 9 (iA 44 (iL 43)) (T.pure 10 (iA 45 (.ia 1 (.t 44) (.c (.int .i64 1)))) (T.pure 11 (iA 46 (iL 45)) (T.pure 12 (iA 47 (iI 4 40 46)) (T.pure 13 (iA 48 (iF 0 47)) (T.pure 14 (iA 49 (iL 48)) (T.pure 15 (iA 50 (iQ .eql 3 49 3)) T.done))))))))))))))))) (iD 50 (.dreg (T.pure 0 (iA 51 (iT 4 4)) (T.pure 1 (iA 52 (iM 7)) (T.pure 2 (iA 53 (iF 3 4)) (T.pure 3 (iA 54 (iL 53)) (T.pure 4 (iA 55 (iM 7)) (T.pure 5 (iA 56 (iI 8 54 55)) (T.pure 6 (iA 57 (iT 8 56)) (T.pure 7 (iA 58 (iM 5)) (T.pure 8 (iA 59 (iM 6)) (T.pure 9 (iA 60 (iI 1 58 59)) (T.pure 10 (iA 61 (iL 60)) (T.pure 11 (iA 62 (.ia 1 (.t 61) (.c (.int .i64 1)))) (T.pure 12 (iA 63 (iL 62)) (T.alt (iA 64 (.call 120 [.t 57,.t 63])) [1,0] (T.alt (iA 65 (.call 119 [.t 51,.t 52,.t 64])) [] (T.alt (iC (.st 4 [none,none,some (1,35),some (8,52)] (.t 4) (.t 65))) [] T.done T.stop) T.stop) T.stop))))))))))))))) .skip)))) (.reg [iA 25 (iM 6),iA 26 (iQ .add 3 25 1),iA 6 (iM 26)])))))) (iS [iA 66 (iF 0 4),iA 67 (iL 66),iA 68 (iQ .add 3 67 1),iA 69 (iF 0 4),iC (.st 1 [none] (.t 69) (.t 68))] (iS [iA 70 (iT 4 4),iC (.st 4 [none,none,some (1,35),some (8,52)] (.t 2) (.t 70)),iA 3 (iN 0)] .ret)))))))
theorem jkt:fnC Tryz.prog Tryz.f52=some (jjS,[.cell 2 true 4,.t 3],71):=by kernel_rfl
def jjW:C:=iS [iA 1 (.box 27 4 (.t 0)),iA 2 (.alloc 27 [.int .i64 0,.int .i64 0,.slice none 0 0,.slice none 0 0]),iA 3 (iN 0)] (iS [iA 7 (iT 4 1),iA 8 (.call 61 [.t 7]),iA 4 (.alloc 27 [.int .i64 0,.int .i64 0,.slice none 0 0,.slice none 0 0]),iC (.st 4 [none,none,some (1,35),some (8,52)] (.t 4) (.t 8))] (.seq (.blk 0 (iS [iA 10 (iT 4 1),iA 11 (.call 18 [.t 10]),iA 12 (iU 11),iA 9 (iM 12)] (iD 9 (iS [iA 13 (iT 4 4),iC (.st 4 [none,none,some (1,35),some (8,52)] (.t 2) (.t 13)),iA 3 (iN 8)] .ret) (iS [iA 15 (iF 0 1),iA 16 (iL 15),iA 17 (iQ .add 3 16 1),iA 18 (iQ .gtr 3 17 999999980),iA 14 (iM 18)] (iD 14 (iS [iA 19 (iT 4 4),iC (.st 4 [none,none,some (1,35),some (8,52)] (.t 2) (.t 19)),iA 3 (iN 7)] .ret) .skip))))) (iS [iA 20 (iF 0 4),iA 21 (iL 20),iA 22 (iQ .add 3 21 1),iA 23 (iF 0 4),iC (.st 1 [none] (.t 23) (.t 22))] (.seq (iS [iA 24 (iT 4 1),iA 25 (.call 50 [.t 24]),iA 26 (iG 25),iA 27 (iN 0)] (.blk 1 (.loop (iS [iA 28 (iP .lss 3 27 26)] (.seq (iD 28 .skip (.exit 1)) (.seq (.blk 2 (iS [iA 29 (iI 1 25 27),iA 30 (iL 29),iA 6 (.alloc 29 [.slice none 0 0]),iC (.st 1 [some (1,3)] (.t 6) (.t 30))] (.seq (.dreg (T.pure 0 (iA 31 (iT 4 4)) (T.pure 1 (iA 32 (iL 6)) (T.pure 2 (iA 33 (.ia 1 (.t 32) (.c (.int .i64 0)))) (T.pure 3 (iA 34 (iL 33)) (T.pure 4 (iA 35 (iL 6)) (T.pure 5 (iA 36 (.ia 1 (.t 35) (.c (.int .i64 1)))) (T.pure 6 (iA 37 (iL 36)) (T.pure 7 (iA 38 (iL 6)) (T.pure 8 (iA 39 (.ia 1 (.t 38) (.c (.int .i64 2)))) (T.pure 9 (iA 40 (iL 39)) (T.alt (iA 41 (.call 53 [.t 31,.t 34,.t 37,.t 40])) [] T.done T.stop)))))))))))) (iD 41 (.dreg (T.pure 0 (iA 42 (iT 4 4)) (T.pure 1 (iA 43 (iL 6)) (T.pure 2 (iA 44 (.ia 1 (.t 43) (.c (.int .i64 0)))) (T.pure 3 (iA 45 (iL 44)) (T.pure 5 (iA 47 (.mkf 121 [.t 6])) (T.alt (iA 46 (.call 25 [.t 42,.t 45])) [5] (T.alt (iA 48 (.call 116 [.t 4,.t 46,.t 47])) [] T.done T.stop) T.stop))))))) .skip)))) (.reg [iA 49 (iQ .add 3 27 1),iA 27 (iM 49)]))))))) (iS [iA 50 (iT 4 4),iC (.st 4 [none,none,some (1,35),some (8,52)] (.t 2) (.t 50)),iA 3 (iN 0)] .ret)))))
theorem jky:fnC Tryz.prog Tryz.f51=some (jjW,[.cell 2 true 4,.t 3],51):=by kernel_rfl
def jgc:C:=.reg [iA 3 (iM 0),iA 4 (iL 1),iA 5 (.ia 1 (.t 4) (.c (.int .i64 1))),iA 6 (iL 5),iA 7 (.call 118 [.t 3,.t 6])]
theorem jig:fnC Tryz.prog Tryz.f121=some (jgc,[],8):=by kernel_rfl
theorem jjf (y:Yd) (ht:jJ y≤1990000):kj Tryz.prog 52 [.agg (jb y)] (.tup [(true,jb (vE y)),(false,[.val (.int .i64 (zE y))])]):=by
 refine jq Tryz.func52 jkt (by simp) ?_
 unfold jjS;have ht2:jJ y≤2000000:=by omega
 simp only [go_sem,jb];intro b1 b2;refine jc (kx y ht2) (by simp only [go_sem,jb]) fun ηc=>?_
 simp only [go_sem,jb];intro b4;refine jc (qi y ht2) (by simp only [go_sem,jb]) fun η=>?_
 simp only [go_sem,jb];cases hok:jD y
 ·have hc:zE y=8:=by simp [zE,hok]
  have hy:vE y=y:=by rw [vE,if_neg (by rw [hc];decide)]
  simp only [go_sem,jb,hok,hc,hy];refine qh _ _ _ _ _ ?_;simp only [go_sem,jb]
 have hP:=yard_iff.1 hok;have hnow:=hP.now;have hw1:IntKind.i64.wrap (y.now+1)=y.now+1:=jf (by omega) (by omega)
 by_cases hgt:y.now+1>999999980
 ·have hc:zE y=7:=by rw [zE,if_neg (by rw [hok];decide),if_pos hgt]
  have hy:vE y=y:=by rw [vE,if_neg (by rw [hc];decide)]
  simp only [go_sem,jb,hok,hw1,hgt,hc,hy];refine qh _ _ _ _ _ ?_;simp only [go_sem,jb]
 have hc:zE y=0:=by rw [zE,if_neg (by rw [hok];decide),if_neg hgt]
 rw [hc,vE,if_pos hc];simp only [go_sem,jb,hok,hw1,hgt];refine jc (jfd y ht2 (je1 hP)) (by simp only [go_sem,jb]) fun ηl=>?_
 simp only [go_sem,jb];have h96:=jmf hP;refine jn (fun i:Nat×js×js=>St.of [(2,Bx 92 b2),(4,Bx 90 b4),(5,Hd 93 (ηl 0)),(6,Ni i.1)] [(92,ZYd b2 tYd),(90,kq b4 tYd (tickI y i.1).now (tickI y i.1).seq (tickI y i.1).shelf i.2.1 (tickI y i.1).runs i.2.2),(93,.loose (qp (kv y)) (ηl 0))]) (fun i=>i.1≤(kv y).length) (fun i=>(kv y).length-i.1) (0,ηc 2,ηc 3) (by (try dsimp only);first|omega|(simp;done)|(and_intros<;>first|omega|simp)) (jg [some 200,some 400,some 2000] (by simp only [go_sem,jb,show tickI y 0=y from rfl]<;>and_intros<;>first|rfl|assumption|trivial)) ?_
 rintro ⟨i,f2,f3⟩ hi;dsimp only at hi;have hJ:=jgr hP i;by_cases hlt:i<(kv y).length
 ·have hlt':(i:Int)<(kv y).length:=by omega
  have h0i:(i:Int)≥0:=by omega
  obtain ⟨l,hl⟩:=je hlt;obtain ⟨k,t,r0,x0,hr0,hx0,hra,hs0,hll⟩:=jqG hP (List.mem_of_getElem? hl);have hw:IntKind.i64.wrap ((i:Int)+1)=((i+1:Nat):Int):=jf (by omega) (by omega)
  have hnt:tickI y (i+1)=failK (tickI y i) k t:=by rw [jet hl,hll,jmW];simp only [List.headD_cons,List.tail_cons,hJ.later.runAt,hra,Int.toNat_natCast]
  generalize tickI y i=z at*;obtain ⟨r,hr,hid,hpl,hR,hrl,hr3⟩:=hJ.later.runs k r0 hr0;have hkl:=(List.getElem?_eq_some_iff.1 hr).1;have h0k:(k:Int)≥0:=by omega
  have h12:=hR.le12;have htl:=(List.getElem?_eq_some_iff.1 hx0).1;have hlt3:t<r.tasks.length:=by omega
  have h0t:(t:Int)≥0:=by omega
  obtain ⟨x,hx⟩:=je hlt3;have hfy:failK z k t=if x.state==3 then kM z k (jG r t) else z:=by rw [failK,hr,Option.getD_some,kw hx]
  have hrz:runAt z r0.id=(k:Int):=by rw [hJ.later.runAt,hra]
  subst hll;simp only [go_sem,hlt',hlt,h0i,Nat.mul_one,joB hl,jn0 hl,jjv hl];refine jc (qj z r0.id) (by simp only [go_sem,jb]) fun η=>?_
  simp only [go_sem,jb];rw [hrz];simp only [go_sem,hlt',hlt,h0i,Nat.mul_one,joB hl,jn0 hl,jjv hl,Nat.add_zero,hkl,h0k,qY hr,vm hr,jX hr,hlt3,h0t,jaa hx,vl hx];cases hs:x.state==3
  ·rw [hs,if_neg (by decide)] at hfy
   rw [hfy] at hnt;simp only [go_sem,hs,hw];exact ⟨(i+1,f2,f3),by (try dsimp only);first|omega|assumption|(and_intros<;>first|omega|assumption),(jg [some 92,some 90,some 93] (by simp only [go_sem,hnt]<;>and_intros<;>first|rfl|assumption|trivial)),by (try dsimp only);omega⟩
  ·rw [hs,if_pos rfl] at hfy
   rw [hfy] at hnt;simp only [go_sem,hs,hlt',hlt,h0i,Nat.mul_one,joB hl,jn0 hl,jjv hl,Nat.add_zero,hkl,h0k,jhl hr,jcy hr,jd,ja];refine jc (jap r t (by have:=jcb hR.plan;obtain ⟨n,_,_,_,h30,_⟩:=this;omega) (by omega)) (by simp only [go_sem,jd,ja,jZ hr,ke hr]) fun ηr=>?_
   simp only [go_sem,jd,ja,jZ hr,ke hr];have hl2:=kX r t;generalize jG r t=r2 at*;refine jan [some 90,some 92,some 93,some 6405,some 6407] [(90,kq b4 tYd z.now z.seq z.shelf f2 z.runs f3),(92,ZYd b2 tYd),(93,.loose (qp (kv y)) (ηl 0)),(97,.loose (jy r2.plan.edges) (ηr 5)),(98,.loose (jB r2.tasks) (ηr 7))] [.agg [.v (.int .i64 z.now),.v (.int .i64 z.seq),.h 90 2 [] (f2 []),.h 90 3 [] (f3 [])],Ni k,.agg [.v (.int .i64 r2.id),.v (.int .i64 r2.plan.prio),.v (.int .i64 r2.plan.most),.v (.int .i64 r2.plan.wait),.v (.int .i64 r2.plan.tasks),.h 97 0 [] (ηr 5 []),.v (.int .i64 r2.state),.h 98 0 [] (ηr 7 [])]] (by simp only [go_sem]<;>and_intros<;>rfl) (by simp only [go_sem]<;>and_intros<;>rfl) (jfn hr hl2 h12 hJ.four (by have:=hJ.seq;omega) (by have:=hJ.tot;omega) rfl rfl rfl) ?_
   rintro _ o1 ⟨c,g2,g3,x2,x3,rfl,j99,j90,j91,j92,j93,j94,j95,j96⟩;have j92':o1 92=ZYd b2 tYd:=j92;have j93':o1 93=.loose (qp (kv y)) (ηl 0):=j93;generalize kM z k r2=z2 at*;simp only [go_sem,j99,j90,j92',hw];exact ⟨(i+1,g2,g3),by (try dsimp only);first|omega|assumption|(and_intros<;>first|omega|assumption),(jg [some 92,some 90,some 93] (by simp only [go_sem,hnt,j90,j92',j93']<;>and_intros<;>first|rfl|assumption|trivial)),by (try dsimp only);omega⟩
 have hlt':¬(i:Int)<(kv y).length:=by omega
 obtain rfl:i=(kv y).length:=by omega
 have hzn:=hJ.now;generalize tickI y (kv y).length=z at*;have hw1z:IntKind.i64.wrap (z.now+1)=y.now+1:=by rw [hzn,hw1]
 simp only [go_sem,hlt',hw1z];refine qh _ _ _ _ _ ?_;simp only [go_sem,jb]
section
variable {L:List (List Int)} {i:Nat} {d:D}
theorem jpr (L:List (List Int)):(L.flatMap fun es=>[jh es]).length=L.length:=by rw [jH (enc:=fun es=>[jh es]) (size:=1) (fun _=>rfl),Nat.mul_one]
theorem jeF:((L.flatMap fun es=>[jh es]).set i d).length=L.length:=by rw [List.length_set,jpr]
theorem jnX:(D.sl 1 tIs ((L.flatMap fun es=>[jh es]).set i d)).len=L.length:=by
 simp only [D.len,D.cells,D.size,jeF,Nat.div_one]
theorem jsk (h:i<L.length):(((L.flatMap fun es=>[jh es]).set i d).drop i).take 1=[d]:=by
 have hl:i<((L.flatMap fun es=>[jh es]).set i d).length:=by rw [jeF];exact h
 rw [List.drop_eq_getElem_cons hl,List.take_succ_cons,List.take_zero,List.getElem_set_self]
theorem jps {l:List Int} (h:L[i]?=some l):(L.flatMap fun es=>[jh es])[i]?=some (jh l):=by
 have e:L.flatMap (fun es=>[jh es])=L.map jh:=by clear h;induction L<;>simp_all
 simp [e,h]
end
theorem ju7 {k t b6:Nat} {y:Yd} {r:Rn} {id tri:Int} {η6:js} (hr:y.runs[k]?=some r) (hrun:vq r t=true):jvz Tryz.prog 121 [.bp 91 0 b6] (.box b6 tIs [.own (jh [id,(t:Int),tri]) η6]) k y (jG r t):=by
 intro o b e2 e3 h90 h91;refine jit (β:=6000000) Tryz.func121 jig (by simp) ?_
 unfold jgc;simp only [go_sem,h91,Nat.mul_one];refine kN (vs:=[.c (.ep 90 3 [] (k*8) (e3 [])),Ni t]) (by simp only [go_sem]) (jmu hr hrun _ b e2 e3 (by simp only [go_sem];exact h90)) ?_
 rintro _ o1 ⟨rfl,j90,j91,j92,j93,j94,j95,j96,j97⟩;simp only [go_sem] at j91 j92 j93 j94 j95 j96 j97;rw [h91] at j91;exact ⟨.tup [],⟨by decide,rfl⟩,rfl,rfl,j90,j91,j92,j93,j94,j95,j96,j97⟩
theorem jeD (y:Yd) (ht:jJ y≤1990000):kj Tryz.prog 51 [.agg (jb y)] (.tup [(true,jb (vE y)),(false,[.val (.int .i64 (zE y))])]):=by
 refine zn [[1,1,1,1,0,1,0,0,1,1,0,0,0],[1,1,1,1,0,1,0,0,1,1,0,0,1,0],[1,1,1,1,0,1,0,0,1,1,1]] Tryz.func51 jky (by simp) ?_
 unfold jjW;simp only [C.ghs,C.ghAt,List.foldr];have ht2:jJ y≤2000000:=by omega
 simp only [go_sem,jb];intro b1 b2;refine jc (kn y ht2) (by simp only [go_sem,jb]) fun ηc=>?_
 simp only [go_sem,jb];intro b4;refine jc (kI y ht2) (by simp only [go_sem,jb]) fun η=>?_
 simp only [go_sem,jb];cases hok:jD y
 ·have hc:zE y=8:=by simp [zE,hok]
  have hy:vE y=y:=by rw [vE,if_neg (by rw [hc];decide)]
  simp only [go_sem,jb,hok,hc,hy];refine qh _ _ _ _ _ ?_;simp only [go_sem,jb]
 have hP:=yard_iff.1 hok;have hnow:=hP.now;have hw1:IntKind.i64.wrap (y.now+1)=y.now+1:=jf (by omega) (by omega)
 by_cases hgt:y.now+1>999999980
 ·have hc:zE y=7:=by rw [zE,if_neg (by rw [hok];decide),if_pos hgt]
  have hy:vE y=y:=by rw [vE,if_neg (by rw [hc];decide)]
  simp only [go_sem,jb,hok,hw1,hgt,hc,hy];refine qh _ _ _ _ _ ?_;simp only [go_sem,jb]
 have hc:zE y=0:=by rw [zE,if_neg (by rw [hok];decide),if_neg hgt]
 rw [hc,vE,if_pos hc];simp only [go_sem,jb,hok,hw1,hgt];refine jc (jfe y ht2 (je1 hP)) (by simp only [go_sem,jb]) fun ηl=>?_
 simp only [go_sem,jb];have h96:=jmf hP;refine jn (fun i:Nat×js×js×js=>St.of [(2,Bx 92 b2),(4,Bx 90 b4),(25,Hd 93 i.2.2.2),(26,Ni (kv y).length),(27,Ni i.1)] [(92,ZYd b2 tYd),(90,kq b4 tYd (y.now+1) (tickI y i.1).seq (tickI y i.1).shelf i.2.1 (tickI y i.1).runs i.2.2.1),(93,.loose (qp (kv y)) i.2.2.2)]) (fun i=>i.1≤(kv y).length) (fun i=>(kv y).length-i.1) (0,ηc 2,ηc 3,ηl 0) (by (try dsimp only);first|omega|(simp;done)|(and_intros<;>first|omega|simp)) (jg [some 200,some 400,some 2500] (by simp only [go_sem,jb,show tickI y 0=y from rfl]<;>and_intros<;>first|rfl|assumption|trivial)) ?_
 rintro ⟨i,f2,f3,f9⟩ hi;dsimp only at hi;have hJ:=jgr hP i;by_cases hlt:i<(kv y).length
 ·have hlt':(i:Int)<(kv y).length:=by omega
  have h0i:(i:Int)≥0:=by omega
  obtain ⟨l,hl⟩:=je hlt;obtain ⟨k,t,r0,x0,hr0,hx0,hra,hs0,hll⟩:=jqG hP (List.mem_of_getElem? hl);have hw:IntKind.i64.wrap ((i:Int)+1)=((i+1:Nat):Int):=jf (by omega) (by omega)
  have hnt:tickI y (i+1)=failK (tickI y i) k t:=by rw [jet hl,hll,jmW];simp only [List.headD_cons,List.tail_cons,hJ.later.runAt,hra,Int.toNat_natCast]
  generalize tickI y i=z at*;obtain ⟨r,hr,hid,hpl,hR,hrl,hr3⟩:=hJ.later.runs k r0 hr0;have h12:=hR.le12;have htl:=(List.getElem?_eq_some_iff.1 hx0).1;have hlt3:t<r.tasks.length:=by omega
  obtain ⟨x,hx⟩:=je hlt3;have hfy:failK z k t=if x.state==3 then kM z k (jG r t) else z:=by rw [failK,hr,Option.getD_some,kw hx]
  have hho:qK z r0.id t x0.tri=(x.state==3):=by rw [jld hJ.later hr0 hra hx0,hr,Option.getD_some,kw hx]
  have hrz:runAt z r0.id=(k:Int):=by rw [hJ.later.runAt,hra]
  subst hll;simp only [go_sem,hlt'];refine kY ?_;refine jer 93 0 i 94 (η:=f9) (sz:=1) (tyo:=tIs) (ds0:=(kv y).flatMap fun es=>[jh es]) (cs:=[r0.id,(t:Int),x0.tri].flatMap fun n=>[iv n]) rfl (jps hl) rfl (by decide) fun ηa ηA hA1 hA2 hA3=>?_
  rw [←hA2];rw [←hA2] at hA3;refine WkK.wk (s':=St.of [(2,Bx 92 b2),(4,Bx 90 b4),(25,Hd 93 ηA),(26,Ni (kv y).length),(27,Ni i)] [(92,ZYd b2 tYd),(90,kq b4 tYd (y.now+1) z.seq z.shelf f2 z.runs f3),(93,.loose (.sl 1 tIs (((kv y).flatMap fun es=>[jh es]).set i (.val (ηa [])))) ηA),(94,.loose (jh [r0.id,(t:Int),x0.tri]) ηa)]) (jg [some 92,some 90,some 93,some 94] (by simp only [go_sem,hA1]<;>and_intros<;>first|rfl|assumption|trivial)) ?_
  refine WkK.of ?_;have hi1:i+1≤(kv y).length:=hlt;simp only [go_sem,hlt',hlt,h0i,Nat.mul_one,jnX,jeF,jsk hlt,hA3,hi1];intro b6;refine kY ?_;refine WkK.wk (s':=St.of [(2,Bx 92 b2),(4,Bx 90 b4),(6,Bx 91 b6),(25,Hd 93 ηA),(26,Ni (kv y).length),(27,Ni i)] [(92,ZYd b2 tYd),(90,kq b4 tYd (y.now+1) z.seq z.shelf f2 z.runs f3),(93,.loose (.sl 1 tIs (((kv y).flatMap fun es=>[jh es]).set i (.val (ηa [])))) ηA),(94,.loose (jh [r0.id,(t:Int),x0.tri]) ηa),(91,.box b6 tIs [.a (.v (ηa []))])]) (jg [some 92,some 90,some 93,some 94,some 600] (by simp only [go_sem]<;>and_intros<;>first|rfl|assumption|trivial)) ?_
  refine qN 91 0 94 (d:=jh [r0.id,(t:Int),x0.tri]) (η:=ηa) rfl rfl rfl ?_;refine WkK.wk (s':=St.of [(2,Bx 92 b2),(4,Bx 90 b4),(6,Bx 91 b6),(25,Hd 93 ηA),(26,Ni (kv y).length),(27,Ni i)] [(92,ZYd b2 tYd),(90,kq b4 tYd (y.now+1) z.seq z.shelf f2 z.runs f3),(93,.loose (.sl 1 tIs (((kv y).flatMap fun es=>[jh es]).set i (.val (ηa [])))) ηA),(91,.box b6 tIs [.own (jh [r0.id,(t:Int),x0.tri]) ηa])]) (jg [some 92,some 90,some 93,some 91] (by simp only [go_sem]<;>and_intros<;>first|rfl|assumption|trivial)) ?_
  refine WkK.of ?_;simp only [go_sem,Nat.mul_one];refine jc (zH ⟨y.now+1,z.seq,z.shelf,z.runs⟩ r0.id t x0.tri) (by simp only [go_sem,jb]) fun η=>?_
  simp only [go_sem,jb];rw [show qK ⟨y.now+1,z.seq,z.shelf,z.runs⟩ r0.id t x0.tri=(x.state==3) from hho]
  cases hs:x.state==3
  ·rw [hs,if_neg (by decide)] at hfy
   rw [hfy] at hnt;simp only [go_sem,hs];refine kY ?_;refine WkK.wk (s':=St.of [(2,Bx 92 b2),(4,Bx 90 b4),(25,Hd 93 ηA),(26,Ni (kv y).length),(27,Ni i)] [(92,ZYd b2 tYd),(90,kq b4 tYd (y.now+1) z.seq z.shelf f2 z.runs f3),(93,.loose (.sl 1 tIs (((kv y).flatMap fun es=>[jh es]).set i (.val (ηa [])))) ηA),(91,.box b6 tIs [.own (jh [r0.id,(t:Int),x0.tri]) ηa])]) (jg [some 92,some 90,some 93,some 91] (by simp only [go_sem]<;>and_intros<;>first|rfl|assumption|trivial)) ?_
   refine qG 91 0 94 (d:=jh [r0.id,(t:Int),x0.tri]) (η:=ηa) rfl rfl (by decide) fun _=>?_
   refine qx 93 0 i 94 (η:=ηA) (η2:=ηa) (sz:=1) (tyo:=tIs) (ds0:=((kv y).flatMap fun es=>[jh es]).set i (.val (ηa []))) (cs:=[r0.id,(t:Int),x0.tri].flatMap fun n=>[iv n]) rfl (List.getElem?_set_self (by rw [jpr];exact hlt)) (.inl rfl) rfl (by decide) fun ηE hE=>?_
   rw [List.set_set,show D.sl 1 jgn ([r0.id,(t:Int),x0.tri].flatMap fun n=>[iv n])=jh [r0.id,(t:Int),x0.tri] from rfl,jad (jps hl)]
   refine WkK.of ?_;simp only [go_sem,hw];exact ⟨(i+1,f2,f3,ηE),by (try dsimp only);first|omega|assumption|(and_intros<;>first|omega|assumption),(jg [some 92,some 90,some 93] (by simp only [go_sem,hnt,hE,qp]<;>and_intros<;>first|rfl|assumption|trivial)),by (try dsimp only);omega⟩
  ·rw [hs,if_pos rfl] at hfy
   rw [hfy] at hnt;have hs':x.state=3:=by simpa using hs
   simp only [go_sem,hs,Nat.mul_one];refine jc (ql ⟨y.now+1,z.seq,z.shelf,z.runs⟩ r0.id) (by simp only [go_sem,jb]) fun η=>?_
   simp only [go_sem,jb];rw [show runAt ⟨y.now+1,z.seq,z.shelf,z.runs⟩ r0.id=(k:Int) from hrz]
   have hq:=hJ.seq;have htz:=hJ.tot
   have hte:jJ ⟨y.now+1,z.seq,z.shelf,z.runs⟩≤2000000:=by
    have e:jJ ⟨y.now+1,z.seq,z.shelf,z.runs⟩=jJ z:=rfl;rw [e];omega
   refine kN (vs:=[Bx 90 b4,Ni k,.fn 121 [.bp 91 0 b6]]) (by simp only [go_sem]) (jdm (y:=⟨y.now+1,z.seq,z.shelf,z.runs⟩) (H:=.box b6 tIs [.own (jh [r0.id,(t:Int),x0.tri]) ηa]) hr (kX r t) h12 hJ.four (by dsimp only;omega) hte (ju7 hr (jgs hR hx hs')) (e2:=f2) (e3:=f3) (by simp only [go_sem]) (by simp only [go_sem])) ?_
   rintro _ o1 ⟨rfl,⟨g2,g3,j90⟩,j91,j92,j93,j94,j95,j96⟩;have j92':o1 92=ZYd b2 tYd:=j92;have j93':o1 93=.loose (.sl 1 tIs (((kv y).flatMap fun es=>[jh es]).set i (.val (ηa [])))) ηA:=j93
   have j90':o1 90=kq b4 tYd (y.now+1) (kM z k (jG r t)).seq (kM z k (jG r t)).shelf g2 (kM z k (jG r t)).runs g3:=j90;generalize kM z k (jG r t)=z2 at*;refine kY ?_;refine WkK.wk (s':=St.of [(2,Bx 92 b2),(4,Bx 90 b4),(25,Hd 93 ηA),(26,Ni (kv y).length),(27,Ni i)] [(92,ZYd b2 tYd),(90,kq b4 tYd (y.now+1) z2.seq z2.shelf g2 z2.runs g3),(93,.loose (.sl 1 tIs (((kv y).flatMap fun es=>[jh es]).set i (.val (ηa [])))) ηA),(91,.box b6 tIs [.own (jh [r0.id,(t:Int),x0.tri]) ηa])]) (jg [some 92,some 90,some 93,some 91] (by simp only [go_sem,j90',j91,j92',j93']<;>and_intros<;>first|rfl|assumption|trivial)) ?_
   refine qG 91 0 94 (d:=jh [r0.id,(t:Int),x0.tri]) (η:=ηa) rfl rfl (by decide) fun _=>?_
   refine qx 93 0 i 94 (η:=ηA) (η2:=ηa) (sz:=1) (tyo:=tIs) (ds0:=((kv y).flatMap fun es=>[jh es]).set i (.val (ηa []))) (cs:=[r0.id,(t:Int),x0.tri].flatMap fun n=>[iv n]) rfl (List.getElem?_set_self (by rw [jpr];exact hlt)) (.inl rfl) rfl (by decide) fun ηE hE=>?_
   rw [List.set_set,show D.sl 1 jgn ([r0.id,(t:Int),x0.tri].flatMap fun n=>[iv n])=jh [r0.id,(t:Int),x0.tri] from rfl,jad (jps hl)]
   refine WkK.of ?_;simp only [go_sem,hw];exact ⟨(i+1,g2,g3,ηE),by (try dsimp only);first|omega|assumption|(and_intros<;>first|omega|assumption),(jg [some 92,some 90,some 93] (by simp only [go_sem,hnt,hE,qp]<;>and_intros<;>first|rfl|assumption|trivial)),by (try dsimp only);omega⟩
 have hlt':¬(i:Int)<(kv y).length:=by omega
 obtain rfl:i=(kv y).length:=by omega
 generalize tickI y (kv y).length=z at*;simp only [go_sem,hlt'];refine qh _ _ _ _ _ ?_;simp only [go_sem,jb]
end Go.Proofs.YtcehjhiglmifjaaGreat
