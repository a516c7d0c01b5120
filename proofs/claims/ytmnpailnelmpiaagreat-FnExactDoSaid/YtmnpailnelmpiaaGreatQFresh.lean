/- Parts. -/
import Derived.Test.YtmnpailnelmpiaaGreatQAb
import Derived.Test.YtmnpailnelmpiaaGreatQData
import Derived.Test.YtmnpailnelmpiaaGreatQMarkB
import Derived.Test.YtmnpailnelmpiaaGreatQOpen
import Derived.Test.YtmnpailnelmpiaaGreatQRunD
import Derived.Test.YtmnpailnelmpiaaGreatQTy
import Derived.Test.YtmnpailnelmpiaaGreatProg
set_option linter.unusedSimpArgs false
set_option linter.unusedVariables false
set_option maxHeartbeats 8000000
set_option maxRecDepth 100000
namespace Go.Proofs.YtmnpailnelmpiaaGreat
open Go.RowKit Go.Sort
theorem jfy {y:Yd} (h:jt y≤2000000):y.runs.length≤2000000:=by
 simp only [jt,qu] at h;omega
theorem joA {y:Yd} (h:jt y≤2000000):y.shelf.length≤2000000:=by
 simp only [jt,vJ] at h;omega
theorem jxR (l:List (List En)):l.flatten.length≤vJ l:=by
 induction l with
 |nil=>simp
 |cons x l ih=>
  simp only [List.flatten_cons,List.length_append,vJ,List.length_cons,kt,List.map_cons,List.sum_cons,kS] at ih⊢;omega
theorem jip {l:List (List En)} {k:Nat} {x:List En} (h:l[k]?=some x):(l.take (k+1)).flatten=(l.take k).flatten++x:=by
 rw [List.take_add_one,h];simp
theorem jb5 (l:List (List En)) (k:Nat):(l.take k).flatten.length≤l.flatten.length:=by
 have h:l.flatten=(l.take k).flatten++(l.drop k).flatten:=by rw [←List.flatten_append,List.take_append_drop]
 rw [h,List.length_append];omega
theorem zf {y:Yd} (h:jt y≤2000000):y.shelf.flatten.length≤2000000:=by
 have:=jxR y.shelf;simp only [jt] at h;omega
theorem jn6 {α:Type} {f:α→Bool} {l:List α} {k:Nat} {x:α} (h:l[k]?=some x):(l.take (k+1)).filter f=if f x=true then (l.take k).filter f++[x] else (l.take k).filter f:=by
 rw [List.take_add_one,h];cases hx:f x<;>simp [List.filter_append,hx]
def jaF:C:=iS [iA 2 (.mov (.c (.slice none 0 0)))] (iS [iA 3 (iM 0),iA 4 (.app 111 4 32 (.c (.slice none 0 0)) (.t 3)),iA 2 (iM 4)] .ret)
theorem jce:fnC Tryz.prog Tryz.f208=some (jaF,[.t 2],5):=by kernel_rfl
def jcn:C:=iS [iA 1 (.box 37 4 (.t 0)),iA 2 (.alloc 37 [.int .i64 0,.int .i64 0,.slice none 0 0,.slice none 0 0])] (iS [iA 8 (iF 0 1),iA 9 (iL 8),iA 10 (iF 1 1),iA 11 (iL 10),iA 12 (.bld [.int .i64 0,.int .i64 0,.slice none 0 0,.slice none 0 0] [(0,1,.t 9),(1,1,.t 11)]),iA 3 (.alloc 37 [.int .i64 0,.int .i64 0,.slice none 0 0,.slice none 0 0]),iC (.st 4 [none,none,some (1,102),some (8,108)] (.t 3) (.t 12))] (.seq (iS [iA 13 (iF 2 1),iA 14 (iL 13),iA 15 (iG 14),iA 16 (iN 0)] (.blk 0 (.loop (iS [iA 17 (iP .lss 3 16 15)] (.seq (iD 17 .skip (.exit 0)) (.seq (.blk 1 (iS [iA 18 (iI 1 14 16),iA 19 (iL 18),iA 5 (iM 19)] (.dreg (T.pure 0 (iA 20 (iF 2 3)) (T.pure 1 (iA 21 (iL 20)) (T.pure 2 (iA 22 (iM 5)) (T.alt (iA 23 (.call 208 [.t 22])) [1,0] (T.alt (iA 24 (.bsl 102 1 1 [some (4,111)] [(0,1,.t 23)])) [1,0] (T.alt (iA 25 (.app 102 1 24 (.t 21) (.t 24))) [] (T.pure 6 (iA 26 (iF 2 3)) (T.alt (iC (.st 1 [some (1,102)] (.t 26) (.t 25))) [] T.done T.stop)) T.stop) T.stop) T.stop))))))) (.reg [iA 27 (iQ .add 3 16 1),iA 16 (iM 27)]))))))) (.seq (iS [iA 28 (iF 3 1),iA 29 (iL 28),iA 30 (iG 29),iA 31 (iN 0)] (.blk 2 (.loop (iS [iA 32 (iP .lss 3 31 30)] (.seq (iD 32 .skip (.exit 2)) (.seq (.blk 3 (iS [iA 33 (iI 8 29 31),iA 34 (iT 8 33),iA 7 (.alloc 108 [.int .i64 0,.int .i64 0,.int .i64 0,.int .i64 0,.int .i64 0,.slice none 0 0,.int .i64 0,.slice none 0 0]),iC (.st 8 [none,none,none,none,none,some (2,253),none,some (4,172)] (.t 7) (.t 34))] (.dreg (T.pure 0 (iA 35 (iF 3 3)) (T.pure 1 (iA 36 (iL 35)) (T.pure 2 (iA 37 (iT 8 7)) (T.alt (iA 38 (.call 209 [.t 37])) [1,0] (T.alt (iA 39 (.bsl 108 8 1 [none,none,none,none,none,some (2,253),none,some (4,172)] [(0,8,.t 38)])) [1,0] (T.alt (iA 40 (.app 108 8 96 (.t 36) (.t 39))) [] (T.pure 6 (iA 41 (iF 3 3)) (T.alt (iC (.st 1 [some (8,108)] (.t 41) (.t 40))) [] T.done T.stop)) T.stop) T.stop) T.stop))))))) (.reg [iA 42 (iQ .add 3 31 1),iA 31 (iM 42)]))))))) (iS [iA 43 (iT 4 3),iC (.st 4 [none,none,some (1,102),some (8,108)] (.t 2) (.t 43))] .ret))))
theorem jeQ:fnC Tryz.prog Tryz.f118=some (jcn,[.cell 2 true 4],44):=by kernel_rfl
def jdg:C:=iS [iA 1 (.box 37 4 (.t 0)),iA 2 (.alloc 37 [.int .i64 0,.int .i64 0,.slice none 0 0,.slice none 0 0])] (iS [iA 6 (iF 0 1),iA 7 (iL 6),iA 8 (iF 1 1),iA 9 (iL 8),iA 10 (.bld [.int .i64 0,.int .i64 0,.slice none 0 0,.slice none 0 0] [(0,1,.t 7),(1,1,.t 9)]),iA 3 (.alloc 37 [.int .i64 0,.int .i64 0,.slice none 0 0,.slice none 0 0]),iC (.st 4 [none,none,some (1,102),some (8,108)] (.t 3) (.t 10))] (.seq (iS [iA 4 (iN 0)] (.blk 0 (.loop (.seq (iS [iA 11 (iM 4),iA 12 (iF 2 1),iA 13 (iL 12),iA 14 (iG 13),iA 15 (iP .lss 3 11 14)] (iD 15 .skip (.exit 0))) (.seq (.blk 1 (.dreg (T.pure 0 (iA 18 (iF 2 3)) (T.pure 1 (iA 19 (iL 18)) (T.pure 3 (iA 21 (iF 2 1)) (T.pure 4 (iA 22 (iL 21)) (T.pure 5 (iA 23 (iM 4)) (T.pure 6 (iA 24 (iI 1 22 23)) (T.pure 7 (iA 25 (iL 24)) (T.alt (iA 20 (.bsl 111 4 0 [] [])) [7,6,5,4,3,1,0] (T.alt (iA 26 (.app 111 4 32 (.t 20) (.t 25))) [1,0] (T.alt (iA 27 (.bsl 102 1 1 [some (4,111)] [(0,1,.t 26)])) [1,0] (T.alt (iA 28 (.app 102 1 24 (.t 19) (.t 27))) [] (T.pure 11 (iA 29 (iF 2 3)) (T.alt (iC (.st 1 [some (1,102)] (.t 29) (.t 28))) [] T.done T.stop)) T.stop) T.stop) T.stop) T.stop)))))))))) (.reg [iA 16 (iM 4),iA 17 (iQ .add 3 16 1),iA 4 (iM 17)])))))) (.seq (iS [iA 5 (iN 0)] (.blk 2 (.loop (.seq (iS [iA 30 (iM 5),iA 31 (iF 3 1),iA 32 (iL 31),iA 33 (iG 32),iA 34 (iP .lss 3 30 33)] (iD 34 .skip (.exit 2))) (.seq (.blk 3 (.dreg (T.pure 0 (iA 37 (iF 3 3)) (T.pure 1 (iA 38 (iL 37)) (T.pure 2 (iA 39 (iF 3 1)) (T.pure 3 (iA 40 (iL 39)) (T.pure 4 (iA 41 (iM 5)) (T.pure 5 (iA 42 (iI 8 40 41)) (T.pure 6 (iA 43 (iT 8 42)) (T.alt (iA 44 (.call 185 [.t 43])) [1,0] (T.alt (iA 45 (.bsl 108 8 1 [none,none,none,none,none,some (2,253),none,some (4,172)] [(0,8,.t 44)])) [1,0] (T.alt (iA 46 (.app 108 8 96 (.t 38) (.t 45))) [] (T.pure 10 (iA 47 (iF 3 3)) (T.alt (iC (.st 1 [some (8,108)] (.t 47) (.t 46))) [] T.done T.stop)) T.stop) T.stop) T.stop)))))))))) (.reg [iA 35 (iM 5),iA 36 (iQ .add 3 35 1),iA 5 (iM 36)])))))) (iS [iA 48 (iT 4 3),iC (.st 4 [none,none,some (1,102),some (8,108)] (.t 2) (.t 48))] .ret))))
theorem jfP:fnC Tryz.prog Tryz.f105=some (jdg,[.cell 2 true 4],49):=by kernel_rfl
abbrev kw (b ty:Nat) (now seq:Int) (sh:List (List En)) (e1:jp) (rn:List Rn) (e2:jp):Ob:=.box b ty [.a (.v (.int .i64 now)),.a (.v (.int .i64 seq)),.own (ko sh) e1,.own (jM rn) e2]
abbrev ZYd (b ty:Nat):Ob:=.box b ty [.a (.v (.int .i64 0)),.a (.v (.int .i64 0)),.a (.v (.slice none 0 0)),.a (.v (.slice none 0 0))]
theorem ka (l:List En):D.sl 4 tEn (l.flatMap jf)=ji l:=rfl
theorem jrM (l:List (List En)) (x:List En):D.sl 1 jng (l.flatMap (fun es=>[ji es])++[ji x])=ko (l++[x]):=by simp [ko]
theorem joF (l:List Rn) (r:Rn):D.sl 8 tRn (l.flatMap jd++[.val (.int .i64 r.id),.val (.int .i64 r.plan.prio),.val (.int .i64 r.plan.most),.val (.int .i64 r.plan.wait),.val (.int .i64 r.plan.tasks),jC r.plan.edges,.val (.int .i64 r.state),jw r.tasks])=jM (l++[r]):=by simp [jM,jd,ja]
theorem jaR {y:Yd} (ht:jt y≤2000000) {l:List En} (h:l∈y.shelf):l.length≤4000000:=by
 obtain ⟨k,hk,rfl⟩:=List.getElem_of_mem h;have h1:=List.getElem?_eq_getElem hk;have h2:=kZ (tot:=kS) h1;have h3:=vf kS y.shelf (k+1);simp only [jt,vJ,kS] at*;omega
theorem jbQ {y:Yd} (ht:jt y≤2000000) {r:Rn} (h:r∈y.runs):r.plan.edges.length≤4000000∧r.tasks.length≤4000000:=by
 obtain ⟨k,hk,rfl⟩:=List.getElem_of_mem h;have h1:=List.getElem?_eq_getElem hk;have h2:=kZ (tot:=kh) h1;have h3:=vf kh y.runs (k+1);simp only [jt,qu,kh,zK] at*;omega
theorem jW (l:List En) (hl:l.length≤4000000):kb Tryz.prog 208 [.c (ji l)] (.c (ji l)):=by
 refine jr Tryz.func208 jce (by simp) ?_
 unfold jaF;have h1:l.length≤maxLen:=by unfold maxLen;omega
 have h2:l.length*32≤140737488355328:=by omega
 simp only [go_sem,h1,h2,ka]
theorem jY (y:Yd) (ht:jt y≤2000000):kb Tryz.prog 118 [.agg (jb y)] (.agg (jb y)):=by
 refine jr Tryz.func118 jeQ (by simp) ?_
 unfold jcn;have hsl:y.shelf.length≤2000000:=by simp only [jt,vJ] at ht;omega
 have hrl:=jfy ht;simp only [go_sem,jb];intro b1 b2 b3;refine jq (fun i:Nat×jp=>St.of [(1,Bx 100 b1),(2,Bx 200 b2),(3,Bx 300 b3),(14,Ro (ko y.shelf)),(15,Ni y.shelf.length),(16,Ni i.1)] [(100,Bi b1 _ (jb y)),(200,ZYd b2 _),(300,.box b3 _ [.a (.v (.int .i64 y.now)),.a (.v (.int .i64 y.seq)),.own (ko (y.shelf.take i.1)) i.2,.a (.v (.slice none 0 0))])]) (fun i=>i.1≤y.shelf.length) (fun i=>y.shelf.length-i.1) (0,jlu) (by (try dsimp only);first|omega|(simp;done)|(and_intros<;>first|omega|simp)) (jn [some 100,some 200,some 300] (by simp only [go_sem,jb,List.take_zero]<;>and_intros<;>first|rfl|assumption)) ?_
 rintro ⟨k,η⟩ hk;dsimp only at hk;by_cases hlt:k<y.shelf.length
 ·have hlt':(k:Int)<y.shelf.length:=by omega
  obtain ⟨l,hl⟩:=je hlt;have hw:IntKind.i64.wrap ((k:Int)+1)=((k+1:Nat):Int):=jo (by omega) (by omega)
  have hm1:k+1≤maxLen:=by unfold maxLen;omega
  have hm2:(k+1)*24≤140737488355328:=by omega
  have htk:(y.shelf.take k).length=k:=by rw [List.length_take];omega
  have hts:y.shelf.take (k+1)=y.shelf.take k++[l]:=by rw [List.take_add_one,hl];rfl
  generalize y.shelf.take k=M at*;simp only [go_sem,jb,hlt,hlt',kQ hl];refine jc (jW l (jaR ht (List.mem_of_getElem? hl))) (by simp only [go_sem,jb]) fun η=>?_
  simp only [go_sem,jb];simp only [go_sem,htk,hm1,hm2,jrM];intro η7 η8;simp only [go_sem,hw];exact ⟨(k+1,η8),by (try dsimp only);first|omega|assumption|(and_intros<;>first|omega|assumption),(jn [some 100,some 200,some 300] (by simp only [go_sem,jb,hts]<;>and_intros<;>first|rfl|assumption)),by (try dsimp only);omega⟩
 have hlt':¬(k:Int)<y.shelf.length:=by omega
 rw [List.take_of_length_le (by omega)]
 simp only [go_sem,jb,hlt'];refine jq (fun i:Nat×jp=>St.of [(1,Bx 100 b1),(2,Bx 200 b2),(3,Bx 300 b3),(29,Ro (jM y.runs)),(30,Ni y.runs.length),(31,Ni i.1)] [(100,Bi b1 _ (jb y)),(200,ZYd b2 _),(300,kw b3 _ y.now y.seq y.shelf η (y.runs.take i.1) i.2)]) (fun i=>i.1≤y.runs.length) (fun i=>y.runs.length-i.1) (0,jlu) (by (try dsimp only);first|omega|(simp;done)|(and_intros<;>first|omega|simp)) (jn [some 100,some 200,some 300] (by simp only [go_sem,jb,List.take_zero]<;>and_intros<;>first|rfl|assumption)) ?_
 rintro ⟨j,η2⟩ hj;dsimp only at hj;by_cases hjl:j<y.runs.length
 ·have hjl':(j:Int)<y.runs.length:=by omega
  obtain ⟨r,hr⟩:=je hjl;have hw:IntKind.i64.wrap ((j:Int)+1)=((j+1:Nat):Int):=jo (by omega) (by omega)
  have hm1:j+1≤maxLen:=by unfold maxLen;omega
  have hm2:(j+1)*96≤140737488355328:=by omega
  have hjk:(y.runs.take j).length=j:=by rw [List.length_take];omega
  have hjs:y.runs.take (j+1)=y.runs.take j++[r]:=by rw [List.take_add_one,hr];rfl
  have hrb:=jbQ ht (List.mem_of_getElem? hr);generalize y.runs.take j=M at*;simp only [go_sem,jb,hjl,hjl',jT hr,jd,ja];intro b7;refine jc (jc9 r hrb.1 hrb.2) (by simp only [go_sem,jb,jd,ja]) fun η=>?_
  simp only [go_sem,jb,jd,ja];simp only [go_sem,hjk,hm1,hm2,joF];intro η7 η8;simp only [go_sem,hw];exact ⟨(j+1,η8),by (try dsimp only);first|omega|assumption|(and_intros<;>first|omega|assumption),(jn [some 100,some 200,some 300] (by simp only [go_sem,jb,hjs]<;>and_intros<;>first|rfl|assumption)),by (try dsimp only);omega⟩
 have hjl':¬(j:Int)<y.runs.length:=by omega
 rw [List.take_of_length_le (by omega)]
 simp only [go_sem,jb,hjl']
theorem ki (y:Yd) (ht:jt y≤2000000):kb Tryz.prog 105 [.agg (jb y)] (.agg (jb y)):=by
 refine jr Tryz.func105 jfP (by simp) ?_
 unfold jdg;have hsl:y.shelf.length≤2000000:=by simp only [jt,vJ] at ht;omega
 have hrl:=jfy ht;simp only [go_sem,jb];intro b1 b2 b3;refine jq (fun i:Nat×jp=>St.of [(1,Bx 100 b1),(2,Bx 200 b2),(3,Bx 300 b3),(4,Ni i.1)] [(100,Bi b1 _ (jb y)),(200,ZYd b2 _),(300,.box b3 _ [.a (.v (.int .i64 y.now)),.a (.v (.int .i64 y.seq)),.own (ko (y.shelf.take i.1)) i.2,.a (.v (.slice none 0 0))])]) (fun i=>i.1≤y.shelf.length) (fun i=>y.shelf.length-i.1) (0,jlu) (by (try dsimp only);first|omega|(simp;done)|(and_intros<;>first|omega|simp)) (jn [some 100,some 200,some 300] (by simp only [go_sem,jb,List.take_zero]<;>and_intros<;>first|rfl|assumption)) ?_
 rintro ⟨k,η⟩ hk;dsimp only at hk;by_cases hlt:k<y.shelf.length
 ·have hlt':(k:Int)<y.shelf.length:=by omega
  have h0k:(k:Int)≥0:=by omega
  obtain ⟨l,hl⟩:=je hlt;have hll:=jaR ht (List.mem_of_getElem? hl);have hw:IntKind.i64.wrap ((k:Int)+1)=((k+1:Nat):Int):=jo (by omega) (by omega)
  have hm1:k+1≤maxLen:=by unfold maxLen;omega
  have hm2:(k+1)*24≤140737488355328:=by omega
  have hm3:l.length≤maxLen:=by unfold maxLen;omega
  have hm4:l.length*32≤140737488355328:=by omega
  have htk:(y.shelf.take k).length=k:=by rw [List.length_take];omega
  have hts:y.shelf.take (k+1)=y.shelf.take k++[l]:=by rw [List.take_add_one,hl];rfl
  generalize y.shelf.take k=M at*;simp only [go_sem,jb,hlt,hlt',h0k,kQ hl,hm3,hm4,ka];intro η5 η6;simp only [go_sem,htk,hm1,hm2,hm3,hm4,ka,jrM];intro η7 η8;simp only [go_sem,hw];exact ⟨(k+1,η8),by (try dsimp only);first|omega|assumption|(and_intros<;>first|omega|assumption),(jn [some 100,some 200,some 300] (by simp only [go_sem,jb,hts]<;>and_intros<;>first|rfl|assumption)),by (try dsimp only);omega⟩
 have hlt':¬(k:Int)<y.shelf.length:=by omega
 rw [List.take_of_length_le (by omega)]
 simp only [go_sem,jb,hlt'];refine jq (fun i:Nat×jp=>St.of [(1,Bx 100 b1),(2,Bx 200 b2),(3,Bx 300 b3),(5,Ni i.1)] [(100,Bi b1 _ (jb y)),(200,ZYd b2 _),(300,kw b3 _ y.now y.seq y.shelf η (y.runs.take i.1) i.2)]) (fun i=>i.1≤y.runs.length) (fun i=>y.runs.length-i.1) (0,jlu) (by (try dsimp only);first|omega|(simp;done)|(and_intros<;>first|omega|simp)) (jn [some 100,some 200,some 300] (by simp only [go_sem,jb,List.take_zero]<;>and_intros<;>first|rfl|assumption)) ?_
 rintro ⟨j,η2⟩ hj;dsimp only at hj;by_cases hjl:j<y.runs.length
 ·have hjl':(j:Int)<y.runs.length:=by omega
  have h0j:(j:Int)≥0:=by omega
  obtain ⟨r,hr⟩:=je hjl;have hw:IntKind.i64.wrap ((j:Int)+1)=((j+1:Nat):Int):=jo (by omega) (by omega)
  have hm1:j+1≤maxLen:=by unfold maxLen;omega
  have hm2:(j+1)*96≤140737488355328:=by omega
  have hjk:(y.runs.take j).length=j:=by rw [List.length_take];omega
  have hjs:y.runs.take (j+1)=y.runs.take j++[r]:=by rw [List.take_add_one,hr];rfl
  have hrb:=jbQ ht (List.mem_of_getElem? hr);generalize y.runs.take j=M at*;simp only [go_sem,jb,hjl,hjl',h0j,jT hr,jd,ja];refine jc (vo r hrb.1 hrb.2) (by simp only [go_sem,jb,jd,ja]) fun η=>?_
  simp only [go_sem,jb,jd,ja];simp only [go_sem,hjk,hm1,hm2,joF];intro η7 η8;simp only [go_sem,hw];exact ⟨(j+1,η8),by (try dsimp only);first|omega|assumption|(and_intros<;>first|omega|assumption),(jn [some 100,some 200,some 300] (by simp only [go_sem,jb,hjs]<;>and_intros<;>first|rfl|assumption)),by (try dsimp only);omega⟩
 have hjl':¬(j:Int)<y.runs.length:=by omega
 rw [List.take_of_length_le (by omega)]
 simp only [go_sem,jb,hjl']
open Go.RowKit Go.Sort Go.BigFrame
theorem jgd {w w1:World} {b o:Nat} {v:Value} (hB:Below w.heap.size w w1) (h:w.cell? ⟨b,o,none⟩=some v) (d:Nat) (os:Array Obj):(grow (redrawn w1 d) os).cell? ⟨b,o,none⟩=some v:=
 cell_regrown ((hB.cell (p:=⟨b,o,none⟩) (World.block_lt_of_cell? w _ h)).trans h) d os
theorem ju {w w1:World} {b o:Nat} {v:Value} (hB:Below w.heap.size w w1) (h:w.cell? ⟨b,o,none⟩=some v):w1.cell? ⟨b,o,none⟩=some v:=
 (hB.cell (p:=⟨b,o,none⟩) (World.block_lt_of_cell? w _ h)).trans h
def inb (n low high:Int):Bool:=decide (low≤n∧n≤high)
theorem jay {n low high:Int} (h:low≤n∧n≤high):inb n low high=true:=decide_eq_true h
theorem vr {n low high:Int} (h:¬(low≤n∧n≤high)):inb n low high=false:=decide_eq_false h
theorem vq (a b c:Int) (w:World):Calls Tryz.prog 78 #[.int .i64 a,.int .i64 b,.int .i64 c] w fun e w'=>e=.returned (.bool (inb a b c))∧Below w.heap.size w w':=by
 by_cases h1:b≤a
 ·by_cases h2:a≤c
  ·have H:Hid (inb a b c=true):=jay ⟨h1,h2⟩
   go_enter Tryz.func78,Tryz.ntmps78
   go_wp2
   go_ret
   exact ⟨jz H.out.symm,Below.refl _ _⟩
  ·have H:Hid (inb a b c=false):=vr fun h=>h2 h.2
   go_enter Tryz.func78,Tryz.ntmps78
   go_wp2
   go_ret
   exact ⟨jz H.out.symm,Below.refl _ _⟩
 ·have H:Hid (inb a b c=false):=vr fun h=>h1 h.1
  go_enter Tryz.func78,Tryz.ntmps78
  go_wp2
  go_ret
  exact ⟨jz H.out.symm,Below.refl _ _⟩
theorem zl (a b c:Int) (w:World):Calls Tryz.prog 74 #[.int .i64 a,.int .i64 b,.int .i64 c] w fun e w'=>e=.returned (.bool (inb a b c))∧Below w.heap.size w w':=by
 by_cases h1:b≤a
 ·by_cases h2:a≤c
  ·have H:Hid (inb a b c=true):=jay ⟨h1,h2⟩
   go_enter Tryz.func74,Tryz.ntmps74
   go_wp2
   go_ret
   exact ⟨jz H.out.symm,Below.refl _ _⟩
  ·have H:Hid (inb a b c=false):=vr fun h=>h2 h.2
   go_enter Tryz.func74,Tryz.ntmps74
   go_wp2
   go_ret
   exact ⟨jz H.out.symm,Below.refl _ _⟩
 ·have H:Hid (inb a b c=false):=vr fun h=>h1 h.1
  go_enter Tryz.func74,Tryz.ntmps74
  go_wp2
  go_ret
  exact ⟨jz H.out.symm,Below.refl _ _⟩
theorem jk8 (y:Yd) (e:En) (a b:Value) (S S':List Nat) (w:World) (own own':Bool) (ha:AggRep w own (jb y) a S) (hb:AggRep w own' (jf e) b S'):
 Calls Tryz.prog 57 #[a,b] w fun e1 w'=>e1=.returned (.bool (kn y e))∧Below w.heap.size w w':=by
 obtain ⟨_,rfl,ha⟩:=ha;obtain ⟨_,rfl,hb⟩:=hb;obtain ⟨rfl,rfl⟩:=qo hb;obtain ⟨sv,rv,S1,S2,rfl,ah0,ah1,rfl⟩:=kY ha;clear ha hb;rcases vC y e.run e.task with ⟨hr,ht⟩|⟨k,r,hr,hx,⟨hno,ht⟩|⟨j,t,hj,htx,ht⟩⟩
 ·have HR:=Lib.hid hr
  have HF:Hid (kn y e=false):=by unfold kn;rw [ht];rfl
  clear hr ht
  go_enter Tryz.func57,Tryz.ntmps57
  go_wp2_with (go_at_call 56;refine (ci (jaA y e.run _ _ _ own ⟨_,rfl,jao (upA (upA ah0 _) _) (upA (upA ah1 _) _)⟩) HR.out).mono ?_;rintro e1 w1 ⟨rfl,hb1⟩;obtain ⟨hc1,hf1⟩:=kU hb1)
  refine wp_region_quiet_below (by kernel_rfl) (by kernel_rfl) ?_
  repeat (go_big_quiet_step (fail))
  refine wpQuiet_nil ?_;intro _ hw';obtain ⟨⟨dq,osq⟩,hw''⟩:=hw';subst hw''
  go_wp2
  go_ret
  exact ⟨jz (by rw [HF.out]),jx (jx (((Below.refl _ _).alloc (by simp) _).alloc (by simp) _) hb1) (below_regrown w1 dq osq)⟩
 all_goals
  have HR:=Lib.hid hr;obtain ⟨A,c,rfl,hc1,hc2,hca⟩:=Rep.open_ (size:=8) (enc:=jd) (fun _=>rfl) (by decide) ah1
  have hk:k<y.runs.length:=(List.getElem?_eq_some_iff.1 hx).1;unfold maxLen at hc2;have hl1:y.runs.length≤9223372036854775807:=by omega
  obtain ⟨b1,o1,vk1,T1,rfl,-,hr1,-,-,hbl,hx1⟩:=hca k r hx;clear hca;obtain ⟨v0,v1,U0,U1,rfl,-,hts,-⟩:=ke hr1;have p7:=hx1 7 _ rfl;clear hx1 hr1;obtain ⟨B,d,rfl,hd1,hd2,hdb⟩:=Rep.open_ (size:=4) (enc:=jm) (fun _=>rfl) (by decide) hts
  unfold maxLen at hd2;have hl2:r.tasks.length≤9223372036854775807:=by omega
  have hk0:decide ((k:Int)≥0)=true:=by simp
  have hk1:decide ((k:Int)<0)=false:=by simp
  clear hr hx
 ·clear hdb
  have HF:Hid (kn y e=false):=by unfold kn;rw [ht];rfl
  have HW:Hid (inb e.task 0 ((r.tasks.length:Int)-1)=false):=vr hno;clear ht hno
  go_enter Tryz.func57,Tryz.ntmps57
  go_wp2_with (go_at_call 56;refine (ci (jaA y e.run _ _ _ own ⟨_,rfl,jao (upA (upA ah0 _) _) (upA (upA ah1 _) _)⟩) HR.out).mono ?_;rintro e1 w1 ⟨rfl,hb1⟩;obtain ⟨hc1,hf1⟩:=kU hb1)
  have hBw:Below w.heap.size w w1:=jx (((Below.refl _ _).alloc (by simp) _).alloc (by simp) _) hb1
  have p7':=jgd hBw p7;have q3:∀(d:Nat) (os:Array Obj),(grow (redrawn w1 d) os).cell? ⟨w.heap.size,3,none⟩=some (.slice (some ⟨b1,o1,none⟩) y.runs.length c):=fun d os=>cell_regrown ((hc1 _ _ (by simp;try omega)).trans (by simp [go_sem])) d os
  have r3:∀(d:Nat) (os:Array Obj),(grow (redrawn w1 d) os).cell? ⟨w.heap.size+1,3,none⟩=some (.int .i64 e.task):=fun d os=>cell_regrown ((hc1 _ _ (by simp;try omega)).trans (by simp [go_sem])) d os
  refine wp_region_quiet_below (by kernel_rfl) (by kernel_rfl) ?_
  repeat (go_big_quiet_step (exact Calls.regrown_of (cb (vq _ _ _ _) HW.out)))
  refine wpQuiet_nil ?_;intro _ hw';obtain ⟨⟨dq,osq⟩,hw''⟩:=hw';subst hw''
  go_wp2
  go_ret
  exact ⟨jz (by rw [HF.out]),jx hBw (below_regrown w1 dq osq)⟩
 ·obtain ⟨b2,o2,vk2,T2,rfl,-,hr2,-,-,hbl2,hx2⟩:=hdb j t htx
  clear hdb;obtain ⟨rfl,rfl⟩:=qy hr2;have p0:w.cell? ⟨b2,o2+j*4,none⟩=some (.int .i64 t.state):=hx2 0 _ rfl;have hjl:j<r.tasks.length:=(List.getElem?_eq_some_iff.1 htx).1;clear hx2 hr2 htx;obtain ⟨e1,e2,e3,e4⟩:=e;simp only at hj HR ht;subst hj;have HW:Hid (inb (j:Int) 0 ((r.tasks.length:Int)-1)=true):=jay (by omega)
  by_cases hst:t.state=2
  all_goals
   first|(have hs:(t.state==2)=true:=by simpa using hst)|(have hs:(t.state==2)=false:=by simpa using hst)
   have HF:=Lib.hid (show kn y ⟨e1,e2,e3,j⟩=(t.state==2) by unfold kn;rw [ht])
   clear ht hst
   go_enter Tryz.func57,Tryz.ntmps57
   go_wp2_with (go_at_call 56;refine (ci (jaA y e3 _ _ _ own ⟨_,rfl,jao (upA (upA ah0 _) _) (upA (upA ah1 _) _)⟩) HR.out).mono ?_;rintro e1 w1 ⟨rfl,hb1⟩;obtain ⟨hc1,hf1⟩:=kU hb1)
   have hBw:Below w.heap.size w w1:=jx (((Below.refl _ _).alloc (by simp) _).alloc (by simp) _) hb1
   have p7':=jgd hBw p7;have q3:∀(d:Nat) (os:Array Obj),(grow (redrawn w1 d) os).cell? ⟨w.heap.size,3,none⟩=some (.slice (some ⟨b1,o1,none⟩) y.runs.length c):=fun d os=>cell_regrown ((hc1 _ _ (by simp;try omega)).trans (by simp [go_sem])) d os
   have r3:∀(d:Nat) (os:Array Obj),(grow (redrawn w1 d) os).cell? ⟨w.heap.size+1,3,none⟩=some (.int .i64 j):=fun d os=>cell_regrown ((hc1 _ _ (by simp;try omega)).trans (by simp [go_sem])) d os
   have p0':=jgd hBw p0;refine wp_region_quiet_below (by kernel_rfl) (by kernel_rfl) ?_
   repeat (go_big_quiet_step (exact Calls.regrown_of (cb (vq _ _ _ _) HW.out)))
   refine wpQuiet_nil ?_;intro _ hw';obtain ⟨⟨dq,osq⟩,hw''⟩:=hw';subst hw''
   go_wp2
   go_ret
   exact ⟨jz (by rw [HF.out,hs]),jx hBw (below_regrown w1 dq osq)⟩
theorem joB (y:Yd) (e:En) (a b:Value) (S S':List Nat) (w:World) (own own':Bool) (ha:AggRep w own (jb y) a S) (hb:AggRep w own' (jf e) b S'):
 Calls Tryz.prog 141 #[a,b] w fun e1 w'=>e1=.returned (.bool (kn y e))∧Below w.heap.size w w':=by
 obtain ⟨_,rfl,ha⟩:=ha;obtain ⟨_,rfl,hb⟩:=hb;obtain ⟨rfl,rfl⟩:=qo hb;obtain ⟨sv,rv,S1,S2,rfl,ah0,ah1,rfl⟩:=kY ha;clear ha hb;rcases vC y e.run e.task with ⟨hr,ht⟩|⟨k,r,hr,hx,⟨hno,ht⟩|⟨j,t,hj,htx,ht⟩⟩
 ·have HR:=Lib.hid hr
  have HF:Hid (kn y e=false):=by unfold kn;rw [ht];rfl
  clear hr ht
  go_enter Tryz.func141,Tryz.ntmps141
  go_wp2_with (go_at_call 152;refine (ci (jaw y e.run _ _ _ own ⟨_,rfl,jao (upA (upA ah0 _) _) (upA (upA ah1 _) _)⟩) HR.out).mono ?_;rintro e1 w1 ⟨rfl,hb1⟩;obtain ⟨hc1,hf1⟩:=kU hb1)
  refine wp_region_quiet_below (by kernel_rfl) (by kernel_rfl) ?_
  repeat (go_big_quiet_step (fail))
  refine wpQuiet_nil ?_;intro _ hw';obtain ⟨⟨dq,osq⟩,hw''⟩:=hw';subst hw''
  go_wp2
  go_ret
  exact ⟨jz (by rw [HF.out]),jx (jx (((Below.refl _ _).alloc (by simp) _).alloc (by simp) _) hb1) (below_regrown w1 dq osq)⟩
 all_goals
  have HR:=Lib.hid hr;obtain ⟨A,c,rfl,hc1,hc2,hca⟩:=Rep.open_ (size:=8) (enc:=jd) (fun _=>rfl) (by decide) ah1
  have hk:k<y.runs.length:=(List.getElem?_eq_some_iff.1 hx).1;unfold maxLen at hc2;have hl1:y.runs.length≤9223372036854775807:=by omega
  obtain ⟨b1,o1,vk1,T1,rfl,-,hr1,-,-,hbl,hx1⟩:=hca k r hx;clear hca;obtain ⟨v0,v1,U0,U1,rfl,-,hts,-⟩:=ke hr1;have p7:=hx1 7 _ rfl;clear hx1 hr1;obtain ⟨B,d,rfl,hd1,hd2,hdb⟩:=Rep.open_ (size:=4) (enc:=jm) (fun _=>rfl) (by decide) hts
  unfold maxLen at hd2;have hl2:r.tasks.length≤9223372036854775807:=by omega
  have hk0:decide ((k:Int)≥0)=true:=by simp
  have hk1:decide ((k:Int)<0)=false:=by simp
  clear hr hx
 ·clear hdb
  have HF:Hid (kn y e=false):=by unfold kn;rw [ht];rfl
  have HW:Hid (inb e.task 0 ((r.tasks.length:Int)-1)=false):=vr hno;clear ht hno
  go_enter Tryz.func141,Tryz.ntmps141
  go_wp2_with (go_at_call 152;refine (ci (jaw y e.run _ _ _ own ⟨_,rfl,jao (upA (upA ah0 _) _) (upA (upA ah1 _) _)⟩) HR.out).mono ?_;rintro e1 w1 ⟨rfl,hb1⟩;obtain ⟨hc1,hf1⟩:=kU hb1)
  have hBw:Below w.heap.size w w1:=jx (((Below.refl _ _).alloc (by simp) _).alloc (by simp) _) hb1
  have p7':=jgd hBw p7;have q3:∀(d:Nat) (os:Array Obj),(grow (redrawn w1 d) os).cell? ⟨w.heap.size,3,none⟩=some (.slice (some ⟨b1,o1,none⟩) y.runs.length c):=fun d os=>cell_regrown ((hc1 _ _ (by simp;try omega)).trans (by simp [go_sem])) d os
  have r3:∀(d:Nat) (os:Array Obj),(grow (redrawn w1 d) os).cell? ⟨w.heap.size+1,3,none⟩=some (.int .i64 e.task):=fun d os=>cell_regrown ((hc1 _ _ (by simp;try omega)).trans (by simp [go_sem])) d os
  refine wp_region_quiet_below (by kernel_rfl) (by kernel_rfl) ?_
  repeat (go_big_quiet_step (exact Calls.regrown_of (cb (zl _ _ _ _) HW.out)))
  refine wpQuiet_nil ?_;intro _ hw';obtain ⟨⟨dq,osq⟩,hw''⟩:=hw';subst hw''
  go_wp2
  go_ret
  exact ⟨jz (by rw [HF.out]),jx hBw (below_regrown w1 dq osq)⟩
 ·obtain ⟨b2,o2,vk2,T2,rfl,-,hr2,-,-,hbl2,hx2⟩:=hdb j t htx
  clear hdb;obtain ⟨rfl,rfl⟩:=qy hr2;have p0:w.cell? ⟨b2,o2+j*4,none⟩=some (.int .i64 t.state):=hx2 0 _ rfl;have hjl:j<r.tasks.length:=(List.getElem?_eq_some_iff.1 htx).1;clear hx2 hr2 htx;obtain ⟨e1,e2,e3,e4⟩:=e;simp only at hj HR ht;subst hj;have HW:Hid (inb (j:Int) 0 ((r.tasks.length:Int)-1)=true):=jay (by omega)
  by_cases hst:t.state=2
  all_goals
   first|(have hs:(t.state==2)=true:=by simpa using hst)|(have hs:(t.state==2)=false:=by simpa using hst)
   have HF:=Lib.hid (show kn y ⟨e1,e2,e3,j⟩=(t.state==2) by unfold kn;rw [ht])
   clear ht hst
   go_enter Tryz.func141,Tryz.ntmps141
   go_wp2_with (go_at_call 152;refine (ci (jaw y e3 _ _ _ own ⟨_,rfl,jao (upA (upA ah0 _) _) (upA (upA ah1 _) _)⟩) HR.out).mono ?_;rintro e1 w1 ⟨rfl,hb1⟩;obtain ⟨hc1,hf1⟩:=kU hb1)
   have hBw:Below w.heap.size w w1:=jx (((Below.refl _ _).alloc (by simp) _).alloc (by simp) _) hb1
   have p7':=jgd hBw p7;have q3:∀(d:Nat) (os:Array Obj),(grow (redrawn w1 d) os).cell? ⟨w.heap.size,3,none⟩=some (.slice (some ⟨b1,o1,none⟩) y.runs.length c):=fun d os=>cell_regrown ((hc1 _ _ (by simp;try omega)).trans (by simp [go_sem])) d os
   have r3:∀(d:Nat) (os:Array Obj),(grow (redrawn w1 d) os).cell? ⟨w.heap.size+1,3,none⟩=some (.int .i64 j):=fun d os=>cell_regrown ((hc1 _ _ (by simp;try omega)).trans (by simp [go_sem])) d os
   have p0':=jgd hBw p0;refine wp_region_quiet_below (by kernel_rfl) (by kernel_rfl) ?_
   repeat (go_big_quiet_step (exact Calls.regrown_of (cb (zl _ _ _ _) HW.out)))
   refine wpQuiet_nil ?_;intro _ hw';obtain ⟨⟨dq,osq⟩,hw''⟩:=hw';subst hw''
   go_wp2
   go_ret
   exact ⟨jz (by rw [HF.out,hs]),jx hBw (below_regrown w1 dq osq)⟩
def ja0:C:=iS [iA 1 (.box 37 4 (.t 0)),iA 2 (.mov (.c (.slice none 0 0)))] (iS [iA 5 (.bsl 111 4 0 [] []),iA 3 (iM 5)] (.seq (iS [iA 4 (iN 0)] (.blk 0 (.loop (.seq (iS [iA 6 (iM 4),iA 7 (iF 2 1),iA 8 (iL 7),iA 9 (iG 8),iA 10 (iP .lss 3 6 9)] (iD 10 .skip (.exit 0))) (.seq (.blk 1 (.reg [iA 13 (iM 3),iA 14 (iF 2 1),iA 15 (iL 14),iA 16 (iM 4),iA 17 (iI 1 15 16),iA 18 (iL 17),iA 19 (.app 111 4 32 (.t 13) (.t 18)),iA 3 (iM 19)])) (.reg [iA 11 (iM 4),iA 12 (iQ .add 3 11 1),iA 4 (iM 12)])))))) (iS [iA 20 (iM 3),iA 2 (iM 20)] .ret)))
theorem jcU:fnC Tryz.prog Tryz.f140=some (ja0,[.t 2],21):=by kernel_rfl
def ja3:C:=iS [iA 1 (.box 37 4 (.t 0)),iA 2 (.mov (.c (.slice none 0 0)))] (iS [iA 3 (.mov (.c (.slice none 0 0)))] (.seq (iS [iA 6 (iF 2 1),iA 7 (iL 6),iA 8 (iG 7),iA 9 (iN 0)] (.blk 0 (.loop (iS [iA 10 (iP .lss 3 9 8)] (.seq (iD 10 .skip (.exit 0)) (.seq (.blk 1 (iS [iA 11 (iI 1 7 9),iA 12 (iL 11),iA 5 (iM 12)] (.reg [iA 13 (iM 3),iA 14 (iM 5),iA 15 (.app 111 4 32 (.t 13) (.t 14)),iA 3 (iM 15)]))) (.reg [iA 16 (iQ .add 3 9 1),iA 9 (iM 16)]))))))) (iS [iA 17 (iM 3),iA 2 (iM 17)] .ret)))
theorem jcX:fnC Tryz.prog Tryz.f133=some (ja3,[.t 2],18):=by kernel_rfl
theorem jl7 (y:Yd) (e:En):kb Tryz.prog 57 [.agg (jb y),.agg (jf e)] (.c (.val (.bool (kn y e)))):=jgF ⟨_,Tryz.func57,by kernel_rfl,by kernel_rfl⟩ fun w a b ⟨S,ha⟩ ⟨S2,hb⟩=>jk8 y e a b S S2 w false false ha hb
theorem jl4 (y:Yd) (e:En):kb Tryz.prog 141 [.agg (jb y),.agg (jf e)] (.c (.val (.bool (kn y e)))):=jgF ⟨_,Tryz.func141,by kernel_rfl,by kernel_rfl⟩ fun w a b ⟨S,ha⟩ ⟨S2,hb⟩=>joB y e a b S S2 w false false ha hb
theorem js5 (l m:List En):D.sl 4 tEn (l.flatMap jf++m.flatMap jf)=ji (l++m):=by simp [ji]
theorem jaV (y:Yd) (ht:jt y≤2000000):kb Tryz.prog 140 [.agg (jb y)] (.c (ji y.shelf.flatten)):=by
 refine jr Tryz.func140 jcU (by simp) ?_
 unfold ja0;have hl:=joA ht;have hf:=zf ht;simp only [go_sem,jb];intro b η0;refine vx (fun s=>∃(k g ty:Nat) (η:jp),k≤y.shelf.length∧(g=500∨g=1900)∧s.t 1=.c (.bp 100 0 b)∧s.o 100=.box b ty ((jb y).map fun x=>.a x.toRo)∧s.t 4=.c (.v (.int .i64 k))∧s.t 3=.c (.h g 0 [] (η []))∧s.o g=.loose (ji (y.shelf.take k).flatten) η) (fun s=>y.shelf.length-s.n 4) ?_ ?_
 ·exact ⟨0,500,_,η0,Nat.zero_le _,.inl rfl,by simp only [go_sem]<;>rfl,by simp only [go_sem]<;>rfl,by simp only [go_sem]<;>rfl,by simp only [go_sem]<;>rfl,by simp only [go_sem]<;>rfl⟩
 ·rintro s ⟨k,g,ty,η,hk,hg,h1,ho1,h4,h3,hob⟩
  by_cases hlt:k<y.shelf.length
  ·have hlt':(k:Int)<y.shelf.length:=by omega
   obtain ⟨x,hx⟩:=je hlt;have hw:IntKind.i64.wrap ((k:Int)+1)=((k+1:Nat):Int):=jo (by omega) (by omega)
   have hn:=jip hx;have hle:=jb5 y.shelf (k+1);rw [hn,List.length_append] at hle;generalize (y.shelf.take k).flatten=l at*;have h1':l.length+x.length≤maxLen:=by unfold maxLen;omega
   have h2':(l.length+x.length)*32≤140737488355328:=by omega
   rcases hg with rfl|rfl
   all_goals
    simp only [go_sem,h1,ho1,h4,h3,hob,jb,hlt,hlt',kQ hx,h1',h2',hw,js5];intro η2;refine ⟨⟨k+1,1900,ty,η2,?_⟩,?_⟩
    ·and_intros<;>first|rfl|omega|exact .inr rfl|(rw [hn];rfl)
    ·rw [jdJ (k:=.i64) (n:=((k+1:Nat):Int)) (by simp only [go_sem]),jdJ h4];omega
  ·have hlt':¬(k:Int)<y.shelf.length:=by omega
   rw [List.take_of_length_le (by omega)] at hob
   rcases hg with rfl|rfl
   all_goals
    simp only [go_sem,h1,ho1,h4,h3,hob,jb,hlt']
theorem jfJ (y:Yd) (ht:jt y≤2000000):kb Tryz.prog 133 [.agg (jb y)] (.c (ji y.shelf.flatten)):=by
 refine jr Tryz.func133 jcX (by simp) ?_
 unfold ja3;have hl:=joA ht;have hf:=zf ht;simp only [go_sem,jb];intro b;refine vx (fun s=>∃k:Nat,k≤y.shelf.length∧s.t 7=.c (.ro (ko y.shelf))∧s.t 8=.c (.v (.int .i64 y.shelf.length))∧s.t 9=.c (.v (.int .i64 k))∧(((y.shelf.take k).flatten=[]∧s.t 3=.c (.v (.slice none 0 0)))∨∃η:jp,s.t 3=.c (.h 1500 0 [] (η []))∧s.o 1500=.loose (ji (y.shelf.take k).flatten) η)) (fun s=>y.shelf.length-s.n 9) ?_ ?_
 ·exact ⟨0,Nat.zero_le _,by simp only [go_sem]<;>rfl,by simp only [go_sem]<;>rfl,by simp only [go_sem]<;>rfl,.inl ⟨rfl,by simp only [go_sem]⟩⟩
 ·rintro s ⟨k,hk,h7,h8,h9,hg⟩
  by_cases hlt:k<y.shelf.length
  ·have hlt':(k:Int)<y.shelf.length:=by omega
   obtain ⟨x,hx⟩:=je hlt;have hw:IntKind.i64.wrap ((k:Int)+1)=((k+1:Nat):Int):=jo (by omega) (by omega)
   have hn:=jip hx;have hle:=jb5 y.shelf (k+1);rw [hn,List.length_append] at hle;generalize (y.shelf.take k).flatten=l at*;have h1':l.length+x.length≤maxLen:=by unfold maxLen;omega
   have h2':(l.length+x.length)*32≤140737488355328:=by omega
   rcases hg with ⟨hnil,h3⟩|⟨η,h3,hob⟩
   ·have h3':x.length≤maxLen:=by unfold maxLen;omega
    have h4':x.length*32≤140737488355328:=by omega
    rw [hnil,List.nil_append] at hn;simp only [go_sem,h7,h8,h9,h3,hlt,hlt',kQ hx,hw,h3',h4',jn5];intro η2;refine ⟨⟨k+1,by omega,rfl,.inr ⟨η2,rfl,by rw [hn]⟩⟩,?_⟩
    rw [jdJ (k:=.i64) (n:=((k+1:Nat):Int)) (by simp only [go_sem]),jdJ h9];omega
   ·simp only [go_sem,h7,h8,h9,h3,hob,hlt,hlt',kQ hx,hw,h1',h2',js5]
    intro η2;refine ⟨⟨k+1,by omega,rfl,.inr ⟨η2,rfl,by rw [hn]⟩⟩,?_⟩
    rw [jdJ (k:=.i64) (n:=((k+1:Nat):Int)) (by simp only [go_sem]),jdJ h9];omega
  ·have hlt':¬(k:Int)<y.shelf.length:=by omega
   have hk':y.shelf.take k=y.shelf:=List.take_of_length_le (by omega)
   rcases hg with ⟨hnil,h3⟩|⟨η,h3,hob⟩
   ·rw [hk'] at hnil
    simp only [go_sem,h7,h8,h9,h3,hlt',hnil]
   ·rw [hk'] at hob
    simp only [go_sem,h7,h8,h9,h3,hob,hlt']
abbrev tIs:TypeId:=104
def qw (l:List (List Int)):D:=.sl 1 tIs (l.flatMap fun es=>[jh es])
section
variable {P:Program} {β:Nat} {s:St}
theorem jqp (l:List (List Int)):(qw l).len=l.length:=jaB (enc:=fun es=>[jh es]) (fun _=>rfl) (by decide) _ _
theorem job {l:List (List Int)} {k:Nat} {x:List Int} (h:l[k]?=some x):(qw l).elem k=[jh x]:=zw (enc:=fun es=>[jh es]) (fun _=>rfl) h
theorem jrE (l:List (List Int)):(qw l).isSl=true:=(rfl)
theorem jrp (l:List (List Int)):(qw l).size=1:=(rfl)
theorem jqc (l:List (List Int)) (g:Nat) (η:jp):(qw l).obj g η=[(g,.loose (qw l) η)]:=(rfl)
theorem jp6 (l:List (List Int)) (g c:Nat) (p:List Nat) (η:jp):(qw l).toOwn g c p η=.h g c p (η p):=(rfl)
theorem jmP (l:List (List Int)):(qw l).cells=l.flatMap (fun es=>[jh es]):=(rfl)
theorem jpJ (l:List (List Int)) (e:Nat) (k:List D→Prop):slK (qw l) e 1 k=(tIs=e∧k (l.flatMap (fun es=>[jh es]))):=by rw [show qw l=.sl 1 tIs (l.flatMap (fun es=>[jh es])) from rfl,jwE];simp
theorem jqN (l:List (List Int)):(l.flatMap (fun es=>[jh es])).length/1=l.length:=by rw [jJ (enc:=fun es=>[jh es]) (size:=1) (fun _=>rfl)];exact Nat.mul_div_cancel _ (by decide)
theorem jtC {l:List (List Int)} {k:Nat} {x:List Int} (h:l[k]?=some x):((l.flatMap (fun es=>[jh es])).drop (k*1)).take 1=[jh x]:=job h
theorem jsP {l:List (List Int)} {k:Nat} (h:k<l.length):k*1+1≤(l.flatMap (fun es=>[jh es])).length:=by rw [jJ (enc:=fun es=>[jh es]) (size:=1) (fun _=>rfl)];omega
attribute [go_sem] jqp jrE jrp jqc jp6 jmP jpJ jqN
end
def jaq (now id:Int) (t:Tk) (k:Nat):Option (List Int):=if (t.state==3&&decide (t.til≤now∨t.til-1=now))=true then some [id,k,t.tri] else none
def zR (now:Int) (r:Rn):Nat→List Tk→List (List Int)
 |_,[]=>[]
 |k,t::ts=>(jaq now r.id t k).toList++zR now r (k+1) ts
def kH (y:Yd):List (List Int):=y.runs.flatMap fun r=>zR y.now r 0 r.tasks
open Go.RowKit Go.Sort Go.BigFrame
theorem jjW (now:Int) (r:Rn) (x:Tk):∀(ts:List Tk) (k:Nat),zR now r k (ts++[x])=zR now r k ts++(jaq now r.id x (k+ts.length)).toList
 |[],k=>by simp [zR]
 |t::ts,k=>by
  rw [List.cons_append,zR,zR,jjW now r x ts (k+1),List.append_assoc]
  congr 3
  simp only [List.length_cons];congr 1;omega
theorem jjV {now:Int} {r:Rn} {ts:List Tk} {k:Nat} {x:Tk} (h:ts[k]?=some x):zR now r 0 (ts.take (k+1))=zR now r 0 (ts.take k)++(jaq now r.id x k).toList:=by
 have hk:k<ts.length:=(List.getElem?_eq_some_iff.1 h).1;rw [List.take_add_one,h];have:=jjW now r x (ts.take k) 0;rw [List.length_take,Nat.min_eq_left (by omega),Nat.zero_add] at this
 exact this
theorem jev (now:Int) (r:Rn):∀(ts:List Tk) (k:Nat),(zR now r k ts).length≤ts.length
 |[],k=>by simp [zR]
 |t::ts,k=>by
  have:=jev now r ts (k+1)
  have h2:(jaq now r.id t k).toList.length≤1:=by
   unfold jaq;split<;>simp
  rw [zR,List.length_append,List.length_cons];omega
def jig (now:Int) (r:Rn):List (List Int):=zR now r 0 r.tasks
theorem joZ (y:Yd):kH y=y.runs.flatMap (jig y.now):=rfl
theorem jmo {now:Int} {l:List Rn} {k:Nat} {r:Rn} (h:l[k]?=some r):(l.take (k+1)).flatMap (jig now)=(l.take k).flatMap (jig now)++jig now r:=by
 rw [List.take_add_one,h];simp
theorem jsC (now:Int) (l:List Rn):(l.flatMap (jig now)).length≤kt kh l:=by
 induction l with
 |nil=>simp
 |cons r l ih=>
  have:=jev now r r.tasks 0;simp only [List.flatMap_cons,List.length_append,jig,kt,List.map_cons,List.sum_cons,kh] at ih⊢;omega
end Go.Proofs.YtmnpailnelmpiaaGreat
