/- Parts. -/
import Derived.Test.YtmnpailnelmpiaaGreatQAb
import Derived.Test.YtmnpailnelmpiaaGreatQFresh
import Derived.Test.YtmnpailnelmpiaaGreatQOpen
import Derived.Test.YtmnpailnelmpiaaGreatProg
set_option linter.unusedSimpArgs false
set_option linter.unusedVariables false
set_option maxHeartbeats 4000000
set_option maxRecDepth 100000
namespace Go.Proofs.YtmnpailnelmpiaaGreat
open Go.RowKit Go.Sort
def je9:C:=iS [iA 1 (.box 37 4 (.t 0)),iA 2 (.mov (.c (.slice none 0 0)))] (iS [iA 7 (.bsl 104 1 0 [] []),iA 3 (iM 7)] (.seq (iS [iA 4 (iN 0)] (.blk 0 (.loop (.seq (iS [iA 8 (iM 4),iA 9 (iF 3 1),iA 10 (iL 9),iA 11 (iG 10),iA 12 (iP .lss 3 8 11)] (iD 12 .skip (.exit 0))) (.seq (.blk 1 (iS [iA 5 (iN 0)] (.blk 2 (.loop (.seq (iS [iA 15 (iM 5),iA 16 (iF 3 1),iA 17 (iL 16),iA 18 (iM 4),iA 19 (iI 8 17 18),iA 20 (iF 7 19),iA 21 (iL 20),iA 22 (iG 21),iA 23 (iP .lss 3 15 22)] (iD 23 .skip (.exit 2))) (.seq (.blk 3 (iS [iA 26 (iF 3 1),iA 27 (iL 26),iA 28 (iM 4),iA 29 (iI 8 27 28),iA 30 (iF 7 29),iA 31 (iL 30),iA 32 (iM 5),iA 33 (iI 4 31 32),iA 34 (iT 4 33),iA 6 (.alloc 172 [.int .i64 0,.int .i64 0,.int .i64 0,.int .i64 0]),iC (.st 4 [none,none,none,none] (.t 6) (.t 34))] (iS [iA 35 (iF 0 6),iA 36 (iL 35),iA 37 (iQ .eql 3 36 3),iA 38 (iM 37),iB 39 38 true (iF 3 6),iB 40 38 true (iL 39),iB 41 38 true (iF 0 1),iB 42 38 true (iL 41),iB 43 38 true (iP .leq 3 40 42),iB 44 38 true (iM 43),iB 45 44 false (iF 3 6),iB 46 44 false (iL 45),iB 47 44 false (iQ .sub 3 46 1),iB 48 44 false (iF 0 1),iB 49 44 false (iL 48),iB 50 44 false (iP .leq 3 47 49),iB 51 38 true (.pick (.t 44) (.c (.bool true)) (.t 50)),iA 52 (.pick (.t 38) (.t 51) (.c (.bool false)))] (iD 52 (.dreg (T.pure 0 (iA 53 (iM 3)) (T.pure 1 (iA 54 (iF 3 1)) (T.pure 2 (iA 55 (iL 54)) (T.pure 3 (iA 56 (iM 4)) (T.pure 4 (iA 57 (iI 8 55 56)) (T.pure 5 (iA 58 (iF 0 57)) (T.pure 6 (iA 59 (iL 58)) (T.pure 7 (iA 60 (iM 5)) (T.pure 8 (iA 61 (iF 2 6)) (T.pure 9 (iA 62 (iL 61)) (T.alt (iA 63 (.bsl 3 1 3 [none,none,none] [(0,1,.t 59),(1,1,.t 60),(2,1,.t 62)])) [0] (T.alt (iA 64 (.bsl 104 1 1 [some (1,3)] [(0,1,.t 63)])) [0] (T.alt (iA 65 (.app 104 1 24 (.t 53) (.t 64))) [] (T.pure 13 (iA 3 (iM 65)) T.done) T.stop) T.stop) T.stop)))))))))))) .skip)))) (.reg [iA 24 (iM 5),iA 25 (iQ .add 3 24 1),iA 5 (iM 25)]))))))) (.reg [iA 13 (iM 4),iA 14 (iQ .add 3 13 1),iA 4 (iM 14)])))))) (iS [iA 66 (iM 3),iA 2 (iM 66)] .ret)))
theorem jhd:fnC Tryz.prog Tryz.f200=some (je9,[.t 2],67):=by kernel_rfl
def jfp:C:=iS [iA 1 (.box 37 4 (.t 0)),iA 2 (.mov (.c (.slice none 0 0)))] (iS [iA 3 (.mov (.c (.slice none 0 0)))] (.seq (iS [iA 8 (iF 3 1),iA 9 (iL 8),iA 10 (iG 9),iA 11 (iN 0)] (.blk 0 (.loop (iS [iA 12 (iP .lss 3 11 10)] (.seq (iD 12 .skip (.exit 0)) (.seq (.blk 1 (iS [iA 13 (iI 8 9 11),iA 14 (iT 8 13),iA 5 (.alloc 108 [.int .i64 0,.int .i64 0,.int .i64 0,.int .i64 0,.int .i64 0,.slice none 0 0,.int .i64 0,.slice none 0 0]),iC (.st 8 [none,none,none,none,none,some (2,253),none,some (4,172)] (.t 5) (.t 14))] (iS [iA 15 (iF 7 5),iA 16 (iL 15),iA 17 (iG 16),iA 18 (iN 0)] (.blk 2 (.loop (iS [iA 19 (iP .lss 3 18 17)] (.seq (iD 19 .skip (.exit 2)) (.seq (.blk 3 (iS [iA 20 (iM 18),iA 21 (iI 4 16 18),iA 22 (iT 4 21),iA 7 (.alloc 172 [.int .i64 0,.int .i64 0,.int .i64 0,.int .i64 0]),iA 6 (iM 20),iC (.st 4 [none,none,none,none] (.t 7) (.t 22))] (iS [iA 23 (iF 0 7),iA 24 (iL 23),iA 25 (iQ .eql 3 24 3),iA 26 (iM 25),iB 27 26 true (iF 3 7),iB 28 26 true (iL 27),iB 29 26 true (iF 0 1),iB 30 26 true (iL 29),iB 31 26 true (iP .leq 3 28 30),iB 32 26 true (iM 31),iB 33 32 false (iF 3 7),iB 34 32 false (iL 33),iB 35 32 false (iQ .sub 3 34 1),iB 36 32 false (iF 0 1),iB 37 32 false (iL 36),iB 38 32 false (iP .eql 3 35 37),iB 39 26 true (.pick (.t 32) (.c (.bool true)) (.t 38)),iA 40 (.pick (.t 26) (.t 39) (.c (.bool false)))] (iD 40 (.reg [iA 41 (iM 3),iA 42 (iF 0 5),iA 43 (iL 42),iA 44 (iM 6),iA 45 (iF 2 7),iA 46 (iL 45),iA 47 (.bsl 3 1 3 [none,none,none] [(0,1,.t 43),(1,1,.t 44),(2,1,.t 46)]),iA 48 (.bsl 104 1 1 [some (1,3)] [(0,1,.t 47)]),iA 49 (.app 104 1 24 (.t 41) (.t 48)),iA 3 (iM 49)]) .skip)))) (.reg [iA 50 (iQ .add 3 18 1),iA 18 (iM 50)]))))))))) (.reg [iA 51 (iQ .add 3 11 1),iA 11 (iM 51)]))))))) (iS [iA 52 (iM 3),iA 2 (iM 52)] .ret)))
theorem jht:fnC Tryz.prog Tryz.f226=some (jfp,[.t 2],53):=by kernel_rfl
def wfL (y:Yd):Prop:=inR y.now∧∀r∈y.runs,∀x∈r.tasks,inR x.til
theorem jeB (l:List (List Int)) (a b c:Int):D.sl 1 tIs (l.flatMap (fun es=>[jg es])++[D.sl 1 jfE [iv a,iv b,iv c]])=qB (l++[[a,b,c]]):=by simp [qB,jg]
theorem jkS (y:Yd) (ht:jt y≤2000000) (wf:wfL y):kf Tryz.prog 200 [.agg (jb y)] (.c (qB (kN y))):=by
 refine jr Tryz.func200 jhd (by simp) ?_
 unfold je9;have hl:=jfF ht;have htr:kj km y.runs≤2000000:=by simp only [jt,qz] at ht;omega
 rw [jo9];simp only [go_sem,jb];intro b η0;refine jq (fun i:Nat×jp=>St.of [(1,Bx 100 b),(3,Hd 700 i.2),(4,Ni i.1)] [(100,Bi b _ (jb y)),(700,.loose (qB ((y.runs.take i.1).flatMap (jis y.now))) i.2)]) (fun i=>i.1≤y.runs.length) (fun i=>y.runs.length-i.1) (0,η0) (Nat.zero_le _) (jk [some 100,some 700] (by simp only [go_sem,jb]<;>and_intros<;>rfl)) ?_
 rintro ⟨i,η⟩ hi;dsimp only at hi;by_cases hlt:i<y.runs.length
 ·have hlt':(i:Int)<y.runs.length:=by omega
  obtain ⟨r,hr⟩:=je hlt;have hrw:=wf.2 r (List.mem_of_getElem? hr);have hwi:IntKind.i64.wrap ((i:Int)+1)=((i+1:Nat):Int):=jo (by omega) (by omega)
  have hbi:=jsY y.now (y.runs.take i);have hts:=kJ (tot:=km) hr;have htl:=qD km y.runs (i+1);have hrt:r.tasks.length≤km r:=by simp only [km];omega
  have hnx:=jmx (now:=y.now) hr;simp only [go_sem,jb,hlt,hlt'];generalize hL:(y.runs.take i).flatMap (jis y.now)=L at*;refine jq (fun k:Nat×jp=>St.of [(1,Bx 100 b),(3,Hd 700 k.2),(4,Ni i),(5,Ni k.1)] [(100,Bi b _ (jb y)),(700,.loose (qB (L++zV y.now r 0 (r.tasks.take k.1))) k.2)]) (fun k=>k.1≤r.tasks.length) (fun k=>r.tasks.length-k.1) (0,η) (Nat.zero_le _) (jk [some 100,some 700] (by simp only [go_sem,jb,List.take_zero,zV,List.append_nil]<;>and_intros<;>rfl)) ?_
  rintro ⟨j,η1⟩ hj;dsimp only at hj;by_cases hjt:j<r.tasks.length
  ·have hjt':(j:Int)<r.tasks.length:=by omega
   obtain ⟨x,hx⟩:=je hjt;have hxw:=hrw x (List.mem_of_getElem? hx);have hwj:IntKind.i64.wrap ((j:Int)+1)=((j+1:Nat):Int):=jo (by omega) (by omega)
   have hlr:=jeA y.now r (r.tasks.take j) 0;have hn:=jj7 (now:=y.now) (r:=r) hx;rw [List.length_take] at hlr;obtain ⟨hx1,hx2⟩:=hxw;obtain ⟨⟨hy1,hy2⟩,-⟩:=wf;simp only [go_sem,jb,hlt,hlt',hjt,hjt',jV hr,jd,ja,jU hx,jn];generalize hM:zV y.now r 0 (r.tasks.take j)=M at*;have hone:1≤maxLen:=by unfold maxLen;omega
   have h3m:3≤maxLen:=by unfold maxLen;omega
   have hm1:(L++M).length+1≤maxLen:=by rw [List.length_append];unfold maxLen;omega
   have hm2:((L++M).length+1)*24≤140737488355328:=by rw [List.length_append];omega
   intro b2;by_cases hs:x.state=3
   ·by_cases hle:x.til≤y.now
    ·have hlate:jas y.now r.id x j=some [r.id,j,x.tri]:=by simp [jas,hs,hle]
     rw [hlate] at hn;simp only [go_sem,jb,jn,hs,hle,beq_self_eq_true,jV hr,hlt,hlt',jd,ja,hm1,hm2,jeB,hwj];intro η2 η3 η4;exact ⟨(j+1,η4),by dsimp only;omega,jk [some 100,some 6500] (by simp only [go_sem,jb,hn,Option.toList,List.append_assoc]<;>and_intros<;>rfl),by dsimp only;omega⟩
    ·by_cases heq:x.til-1=y.now
     ·have hlate:jas y.now r.id x j=some [r.id,j,x.tri]:=by simp [jas,hs,heq]
      have hsub:IntKind.i64.wrap (x.til-1)=x.til-1:=jo (by omega) (by omega)
      have hle2:x.til-1≤y.now:=by omega
      rw [hlate] at hn;simp only [go_sem,jb,jn,hs,hle,hsub,hle2,beq_self_eq_true,jV hr,hlt,hlt',jd,ja,hm1,hm2,jeB,hwj];intro η2 η3 η4;exact ⟨(j+1,η4),by dsimp only;omega,jk [some 100,some 6500] (by simp only [go_sem,jb,hn,Option.toList,List.append_assoc]<;>and_intros<;>rfl),by dsimp only;omega⟩
     ·have hlate:jas y.now r.id x j=none:=by simp [jas,hle,heq]
      have hsub:IntKind.i64.wrap (x.til-1)=x.til-1:=jo (by omega) (by omega)
      have hle2:¬x.til-1≤y.now:=by omega
      rw [hlate] at hn;simp only [go_sem,jb,jn,hs,hle,hsub,hle2,beq_self_eq_true,hlt,hlt',hwj];exact ⟨(j+1,η1),by dsimp only;omega,jk [some 100,some 700] (by simp only [go_sem,jb,hn,Option.toList,List.append_nil]<;>and_intros<;>rfl),by dsimp only;omega⟩
   ·have hlate:jas y.now r.id x j=none:=by simp [jas,hs]
    have hs':(x.state==3)=false:=by simpa using hs
    rw [hlate] at hn;simp only [go_sem,jb,jn,hs',hwj];exact ⟨(j+1,η1),by dsimp only;omega,jk [some 100,some 700] (by simp only [go_sem,jb,hn,Option.toList,List.append_nil]<;>and_intros<;>rfl),by dsimp only;omega⟩
  ·have hjt':¬(j:Int)<r.tasks.length:=by omega
   rw [List.take_of_length_le (by omega)]
   simp only [go_sem,jb,hlt,hlt',jV hr,jd,ja,hjt',hwi];exact ⟨(i+1,η1),by dsimp only;omega,jk [some 100,some 700] (by simp only [go_sem,jb,hnx]<;>and_intros<;>rfl),by dsimp only;omega⟩
 ·have hlt':¬(i:Int)<y.runs.length:=by omega
  rw [List.take_of_length_le (by omega)]
  simp only [go_sem,jb,hlt']
theorem jk4 (y:Yd) (ht:jt y≤2000000) (wf:wfL y):kf Tryz.prog 226 [.agg (jb y)] (.c (qB (kN y))):=by
 refine jr Tryz.func226 jht (by simp) ?_
 unfold jfp;have hl:=jfF ht;have htr:kj km y.runs≤2000000:=by simp only [jt,qz] at ht;omega
 rw [jo9];simp only [go_sem,jb];intro b;refine jq (fun i:Nat×jp=>St.of [(1,Bx 100 b),(3,Hd 7 i.2),(9,Ro (jM y.runs)),(10,Ni y.runs.length),(11,Ni i.1)] [(100,Bi b _ (jb y)),(7,.loose (qB ((y.runs.take i.1).flatMap (jis y.now))) i.2)]) (fun i=>i.1≤y.runs.length) (fun i=>y.runs.length-i.1) (0,jlF) (by (try dsimp only);first|omega|(simp;done)|(and_intros<;>first|omega|simp)) (jk [some 100,none] (by simp only [go_sem,jb]<;>and_intros<;>first|rfl|assumption)) ?_
 rintro ⟨i0,η⟩ hi;dsimp only at hi;by_cases hlt:i0<y.runs.length
 ·have hlt':(i0:Int)<y.runs.length:=by omega
  obtain ⟨r,hr⟩:=je hlt;have hrw:=wf.2 r (List.mem_of_getElem? hr);have hwi:IntKind.i64.wrap ((i0:Int)+1)=((i0+1:Nat):Int):=jo (by omega) (by omega)
  have hbi:=jsY y.now (y.runs.take i0);have hts:=kJ (tot:=km) hr;have htl:=qD km y.runs (i0+1);have hrt:r.tasks.length≤km r:=by simp only [km];omega
  have hnx:=jmx (now:=y.now) hr;simp only [go_sem,jb,hlt,hlt',jV hr,jd,ja];generalize hL:(y.runs.take i0).flatMap (jis y.now)=L at*;intro b2;refine jq (fun i:Nat×jp=>St.of [(1,Bx 100 b),(3,Hd 7 i.2),(5,Bx 500 b2),(9,Ro (jM y.runs)),(10,Ni y.runs.length),(11,Ni i0),(16,Ro (jx r.tasks)),(17,Ni r.tasks.length),(18,Ni i.1)] [(100,Bi b _ (jb y)),(500,Bi b2 _ (jd r)),(7,.loose (qB (L++zV y.now r 0 (r.tasks.take i.1))) i.2)]) (fun i=>i.1≤r.tasks.length) (fun i=>r.tasks.length-i.1) (0,η) (by (try dsimp only);first|omega|(simp;done)|(and_intros<;>first|omega|simp)) (jk [some 100,some 500,some 7] (by simp only [go_sem,jb,jd,ja,List.take_zero,zV,List.append_nil]<;>and_intros<;>first|rfl|assumption)) ?_
  rintro ⟨j,η1⟩ hj;dsimp only at hj;by_cases hjt:j<r.tasks.length
  ·have hjt':(j:Int)<r.tasks.length:=by omega
   obtain ⟨x,hx⟩:=je hjt;have hxw:=hrw x (List.mem_of_getElem? hx);have hwj:IntKind.i64.wrap ((j:Int)+1)=((j+1:Nat):Int):=jo (by omega) (by omega)
   have hlr:=jeA y.now r (r.tasks.take j) 0;have hn:=jj7 (now:=y.now) (r:=r) hx;rw [List.length_take] at hlr;obtain ⟨hx1,hx2⟩:=hxw;obtain ⟨⟨hy1,hy2⟩,-⟩:=wf;simp only [go_sem,jb,hjt,hjt',jU hx,jn];generalize hM:zV y.now r 0 (r.tasks.take j)=M at*;have hm1:(L++M).length+1≤maxLen:=by rw [List.length_append];unfold maxLen;omega
   have hm2:((L++M).length+1)*24≤140737488355328:=by rw [List.length_append];omega
   intro b3;by_cases hs:x.state=3
   ·by_cases hle:x.til≤y.now
    ·have hlate:jas y.now r.id x j=some [r.id,j,x.tri]:=by simp [jas,hs,hle]
     rw [hlate] at hn;simp only [go_sem,jb,jn,jd,ja,hs,hle,beq_self_eq_true,hm1,hm2,jeB,hwj];intro η2 η3 η4;exact ⟨(j+1,η4),by (try dsimp only);first|omega|assumption|(and_intros<;>first|omega|assumption),(jk [some 100,some 500,some 4900] (by simp only [go_sem,jb,jd,ja,hn,Option.toList,List.append_assoc]<;>and_intros<;>first|rfl|assumption)),by (try dsimp only);omega⟩
    ·by_cases heq:x.til-1=y.now
     ·have hlate:jas y.now r.id x j=some [r.id,j,x.tri]:=by simp [jas,hs,heq]
      have heq':(x.til-1==y.now)=true:=by simpa using heq
      have hsub:IntKind.i64.wrap (x.til-1)=x.til-1:=jo (by omega) (by omega)
      rw [hlate] at hn;simp only [go_sem,jb,jn,jd,ja,hs,hle,hsub,heq',beq_self_eq_true,hm1,hm2,jeB,hwj];intro η2 η3 η4;exact ⟨(j+1,η4),by (try dsimp only);first|omega|assumption|(and_intros<;>first|omega|assumption),(jk [some 100,some 500,some 4900] (by simp only [go_sem,jb,jd,ja,hn,Option.toList,List.append_assoc]<;>and_intros<;>first|rfl|assumption)),by (try dsimp only);omega⟩
     ·have hlate:jas y.now r.id x j=none:=by simp [jas,hle,heq]
      have hsub:IntKind.i64.wrap (x.til-1)=x.til-1:=jo (by omega) (by omega)
      have heq':(x.til-1==y.now)=false:=by simpa using heq
      rw [hlate] at hn;simp only [go_sem,jb,jn,hs,hle,hsub,heq',beq_self_eq_true,hwj];exact ⟨(j+1,η1),by (try dsimp only);first|omega|assumption|(and_intros<;>first|omega|assumption),(jk [some 100,some 500,some 7] (by simp only [go_sem,jb,jd,ja,hn,Option.toList,List.append_nil]<;>and_intros<;>first|rfl|assumption)),by (try dsimp only);omega⟩
   ·have hlate:jas y.now r.id x j=none:=by simp [jas,hs]
    have hs':(x.state==3)=false:=by simpa using hs
    rw [hlate] at hn;simp only [go_sem,jb,jn,hs',hwj];exact ⟨(j+1,η1),by (try dsimp only);first|omega|assumption|(and_intros<;>first|omega|assumption),(jk [some 100,some 500,some 7] (by simp only [go_sem,jb,jd,ja,hn,Option.toList,List.append_nil]<;>and_intros<;>first|rfl|assumption)),by (try dsimp only);omega⟩
  ·have hjt':¬(j:Int)<r.tasks.length:=by omega
   rw [List.take_of_length_le (by omega)]
   simp only [go_sem,hjt',hwi];exact ⟨(i0+1,η1),by (try dsimp only);first|omega|assumption|(and_intros<;>first|omega|assumption),(jk [some 100,some 7] (by simp only [go_sem,jb,hnx,jis]<;>and_intros<;>first|rfl|assumption)),by (try dsimp only);omega⟩
 ·have hlt':¬(i0:Int)<y.runs.length:=by omega
  rw [List.take_of_length_le (by omega)]
  simp only [go_sem,jb,hlt']
end Go.Proofs.YtmnpailnelmpiaaGreat
