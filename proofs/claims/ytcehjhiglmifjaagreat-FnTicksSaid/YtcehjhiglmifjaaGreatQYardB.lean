/- Parts. -/
import Derived.Test.YtcehjhiglmifjaaGreatQFresh
set_option linter.unusedSimpArgs false
set_option linter.unusedVariables false
set_option maxHeartbeats 16000000
set_option maxRecDepth 100000
namespace Go.Proofs.YtcehjhiglmifjaaGreat
open Go.RowKit Go.Sort
def jhD:C:=iS [iA 2 (.box 44 4 (.t 0)),iA 3 (.box 44 4 (.t 1)),iA 4 (iO false)] (iS [iA 5 (iF 0 2),iA 6 (iL 5),iA 7 (iF 0 3),iA 8 (iL 7),iA 9 (iP .gtr 3 6 8),iA 10 (iM 9),iB 11 10 false (iF 0 2),iB 12 10 false (iL 11),iB 13 10 false (iF 0 3),iB 14 10 false (iL 13),iB 15 10 false (iP .eql 3 12 14),iB 16 10 false (iM 15),iB 17 16 true (iF 1 2),iB 18 16 true (iL 17),iB 19 16 true (iF 1 3),iB 20 16 true (iL 19),iB 21 16 true (iP .lss 3 18 20),iB 22 10 false (.pick (.t 16) (.t 21) (.c (.bool false))),iA 23 (.pick (.t 10) (.c (.bool true)) (.t 22)),iA 4 (iM 23)] .ret)
theorem jjL:fnC Tryz.prog Tryz.f180=some (jhD,[.t 4],24):=by kernel_rfl
def jhI:C:=iS [iA 2 (.box 44 4 (.t 0)),iA 3 (.box 44 4 (.t 1)),iA 4 (iO false)] (iS [iA 5 (iF 0 2),iA 6 (iL 5),iA 7 (iF 0 3),iA 8 (iL 7),iA 9 (iP .gtr 3 6 8),iA 10 (iM 9),iB 11 10 false (iF 0 2),iB 12 10 false (iL 11),iB 13 10 false (iF 0 3),iB 14 10 false (iL 13),iB 15 10 false (iP .eql 3 12 14),iB 16 10 false (iM 15),iB 17 16 true (iF 1 2),iB 18 16 true (iL 17),iB 19 16 true (iF 1 3),iB 20 16 true (iL 19),iB 21 16 true (iP .lss 3 18 20),iB 22 10 false (.pick (.t 16) (.t 21) (.c (.bool false))),iA 23 (.pick (.t 10) (.c (.bool true)) (.t 22)),iA 4 (iM 23)] .ret)
theorem jjR:fnC Tryz.prog Tryz.f138=some (jhI,[.t 4],24):=by kernel_rfl
def jd8:C:=iS [iA 2 (iO false)] (.seq (iS [iA 4 (iM 0),iA 5 (iG 4),iA 6 (iQ .gtr 3 5 80)] (iD 6 (iS [iA 2 (iO false)] .ret) .skip)) (.seq (iS [iA 3 (iN 1)] (.blk 0 (.loop (.seq (iS [iA 7 (iM 3),iA 8 (iM 0),iA 9 (iG 8),iA 10 (iP .lss 3 7 9)] (iD 10 .skip (.exit 0))) (.seq (.blk 1 (.seq (.dreg (T.pure 0 (iA 13 (iM 0)) (T.pure 1 (iA 14 (iM 3)) (T.pure 2 (iA 15 (iQ .sub 3 14 1)) (T.pure 3 (iA 16 (iI 4 13 15)) (T.pure 4 (iA 17 (iT 4 16)) (T.pure 5 (iA 18 (iM 0)) (T.pure 6 (iA 19 (iM 3)) (T.pure 7 (iA 20 (iI 4 18 19)) (T.pure 8 (iA 21 (iT 4 20)) (T.alt (iA 22 (.call 180 [.t 17,.t 21])) [] (T.pure 10 (iA 23 (iU 22)) T.done) T.stop))))))))))) (iD 23 (iS [iA 2 (iO false)] .ret) .skip))) (.reg [iA 11 (iM 3),iA 12 (iQ .add 3 11 1),iA 3 (iM 12)])))))) (iS [iA 2 (iO true)] .ret)))
theorem jg1:fnC Tryz.prog Tryz.f177=some (jd8,[.t 2],24):=by kernel_rfl
def jek:C:=iS [iA 2 (iO false)] (.seq (iS [iA 3 (iN 1)] (.blk 0 (.loop (.seq (iS [iA 4 (iM 3),iA 5 (iM 0),iA 6 (iG 5),iA 7 (iP .lss 3 4 6)] (iD 7 .skip (.exit 0))) (.seq (.blk 1 (.seq (.dreg (T.pure 0 (iA 10 (iM 0)) (T.pure 1 (iA 11 (iM 3)) (T.pure 2 (iA 12 (iQ .sub 3 11 1)) (T.pure 3 (iA 13 (iI 4 10 12)) (T.pure 4 (iA 14 (iT 4 13)) (T.pure 5 (iA 15 (iM 0)) (T.pure 6 (iA 16 (iM 3)) (T.pure 7 (iA 17 (iI 4 15 16)) (T.pure 8 (iA 18 (iT 4 17)) (T.alt (iA 19 (.call 138 [.t 14,.t 18])) [] (T.pure 10 (iA 20 (iU 19)) T.done) T.stop))))))))))) (iD 20 (iS [iA 2 (iO false)] .ret) .skip))) (.reg [iA 8 (iM 3),iA 9 (iQ .add 3 8 1),iA 3 (iM 9)])))))) (iS [iA 21 (iM 0),iA 22 (iG 21),iA 23 (iQ .leq 3 22 80),iA 2 (iM 23)] .ret))
theorem jhd:fnC Tryz.prog Tryz.f78=some (jek,[.t 2],24):=by kernel_rfl
def za:C:=iS [iA 4 (iN 0)] (.seq (iS [iA 6 (iM 0),iA 7 (iG 6),iA 8 (iN 0)] (.blk 0 (.loop (iS [iA 9 (iP .lss 3 8 7)] (.seq (iD 9 .skip (.exit 0)) (.seq (.blk 1 (iS [iA 10 (iM 8),iA 5 (iM 10)] (iS [iA 11 (iM 1),iA 12 (iM 0),iA 13 (iM 5),iA 14 (iI 1 12 13),iA 15 (iL 14),iA 16 (iP .eql 3 11 15)] (iD 16 (iS [iA 17 (iM 5),iA 4 (iM 17)] .ret) .skip)))) (.reg [iA 18 (iQ .add 3 8 1),iA 8 (iM 18)]))))))) (iS [iA 4 (iN (-1))] .ret))
theorem jaG:fnC Tryz.prog Tryz.f139=some (za,[.t 4],19):=by kernel_rfl
def vn:C:=iS [iA 4 (iO false)] (iS [iA 5 (iM 0),iA 6 (iM 1),iA 7 (.call 139 [.t 5,.t 6]),iA 8 (iQ .geq 3 7 0),iA 4 (iM 8)] .ret)
theorem zT:fnC Tryz.prog Tryz.f80=some (vn,[.t 4],9):=by kernel_rfl
theorem jht (x y:En):kj Tryz.prog 180 [.agg (jk x),.agg (jk y)] (.c (.val (.bool (kt x y)))):=by
 refine jq Tryz.func180 jjL (by simp) ?_
 unfold jhD;simp only [go_sem,jk];intro b b2;by_cases h1:x.prio>y.prio
 ·have hb:kt x y=true:=by simp [kt,h1]
  simp only [go_sem,jk,h1,hb]
 ·cases h2:x.prio==y.prio
  ·have hb:kt x y=false:=by
    have:¬x.prio=y.prio:=by simpa using h2
    simp only [kt,decide_eq_false_iff_not];omega
   simp only [go_sem,jk,h1,h2,hb]
  ·have hb:kt x y=decide (x.seq<y.seq):=by
    have:x.prio=y.prio:=by simpa using h2
    simp only [kt,this,Int.lt_irrefl,gt_iff_lt,false_or,true_and]
   simp only [go_sem,jk,h1,h2,hb]
theorem jhw (x y:En):kj Tryz.prog 138 [.agg (jk x),.agg (jk y)] (.c (.val (.bool (kt x y)))):=by
 refine jq Tryz.func138 jjR (by simp) ?_
 unfold jhI;simp only [go_sem,jk];intro b b2;by_cases h1:x.prio>y.prio
 ·have hb:kt x y=true:=by simp [kt,h1]
  simp only [go_sem,jk,h1,hb]
 ·cases h2:x.prio==y.prio
  ·have hb:kt x y=false:=by
    have:¬x.prio=y.prio:=by simpa using h2
    simp only [kt,decide_eq_false_iff_not];omega
   simp only [go_sem,jk,h1,h2,hb]
  ·have hb:kt x y=decide (x.seq<y.seq):=by
    have:x.prio=y.prio:=by simpa using h2
    simp only [kt,this,Int.lt_irrefl,gt_iff_lt,false_or,true_and]
   simp only [go_sem,jk,h1,h2,hb]
theorem jke (l:List En) (hl:l.length≤4000000):kj Tryz.prog 177 [.c (jm l)] (.c (.val (.bool (zX l)))):=by
 refine jq Tryz.func177 jg1 (by simp) ?_
 unfold jd8;simp only [go_sem];by_cases h80:80<l.length
 ·have h80':(l.length:Int)>80:=by omega
  have hb:zX l=false:=jiy fun h=>by have:=h.most;omega
  simp only [go_sem,h80',hb]
 have h80':¬(l.length:Int)>80:=by omega
 simp only [go_sem,h80'];refine jn (fun i:Nat=>St.of [(0,Ro (jm l)),(3,Ni i)] []) (fun i=>1≤i∧(i≤l.length∨i=1)∧∀(k:Nat) (a b:En),k+1<i→l[k]?=some a→l[k+1]?=some b→kt a b=true) (fun i=>l.length-i) 1 (⟨by omega,.inr rfl,fun k a b h=>by omega⟩) (jg [] (by simp only [go_sem]<;>and_intros<;>first|rfl|assumption|trivial)) ?_
 rintro i ⟨hi1,hi2,hio⟩;by_cases hlt:i<l.length
 ·have hlt':(i:Int)<l.length:=by omega
  obtain ⟨j,rfl⟩:∃j,i=j+1:=⟨i-1,by omega⟩
  obtain ⟨x,hx⟩:=je (show j<l.length by omega)
  obtain ⟨y,hy⟩:=je hlt;have hjl:j<l.length:=by omega
  have hw:IntKind.i64.wrap (((j+1:Nat):Int)+1)=((j+1+1:Nat):Int):=jf (by omega) (by omega)
  have hw1:IntKind.i64.wrap (((j+1:Nat):Int)-1)=(j:Int):=by rw [jf (by omega) (by omega)];omega
  simp only [go_sem,hlt',hlt,hjl,hw1,jI hx,jI hy,jk];refine jc (jht x y) (by simp only [go_sem,jk]) fun η=>?_
  simp only [go_sem,jk];cases ha:kt x y
  ·have hb:zX l=false:=jiy fun h=>by have:=h.ahead j x y hx hy;rw [ha] at this;cases this
   simp only [go_sem,ha,hb]
  ·simp only [go_sem,ha,hw]
   exact ⟨j+1+1,⟨by omega,.inl (by omega),fun k a b hk ha' hb'=>by rcases Nat.lt_or_ge (k+1) (j+1) with h'|h';exact hio k a b h' ha' hb';obtain rfl:k=j:=(by omega);rw [hx] at ha';rw [hy] at hb';cases ha';cases hb';exact ha⟩,(jg [] (by simp only [go_sem]<;>and_intros<;>first|rfl|assumption|trivial)),by (try dsimp only);omega⟩
 have hlt':¬(i:Int)<l.length:=by omega
 have hb:zX l=true:=je7 ⟨by omega,fun k a b ha hb=>hio k a b (by have:=(List.getElem?_eq_some_iff.1 hb).1;omega) ha hb⟩
 simp only [go_sem,hlt',hb]
theorem jkk (l:List En) (hl:l.length≤4000000):kj Tryz.prog 78 [.c (jm l)] (.c (.val (.bool (zX l)))):=by
 refine jq Tryz.func78 jhd (by simp) ?_
 unfold jek;simp only [go_sem];refine jn (fun i:Nat=>St.of [(0,Ro (jm l)),(3,Ni i)] []) (fun i=>1≤i∧(i≤l.length∨i=1)∧∀(k:Nat) (a b:En),k+1<i→l[k]?=some a→l[k+1]?=some b→kt a b=true) (fun i=>l.length-i) 1 (⟨by omega,.inr rfl,fun k a b h=>by omega⟩) (jg [] (by simp only [go_sem]<;>and_intros<;>first|rfl|assumption|trivial)) ?_
 rintro i ⟨hi1,hi2,hio⟩;by_cases hlt:i<l.length
 ·have hlt':(i:Int)<l.length:=by omega
  obtain ⟨j,rfl⟩:∃j,i=j+1:=⟨i-1,by omega⟩
  obtain ⟨x,hx⟩:=je (show j<l.length by omega)
  obtain ⟨y,hy⟩:=je hlt;have hjl:j<l.length:=by omega
  have hw:IntKind.i64.wrap (((j+1:Nat):Int)+1)=((j+1+1:Nat):Int):=jf (by omega) (by omega)
  have hw1:IntKind.i64.wrap (((j+1:Nat):Int)-1)=(j:Int):=by rw [jf (by omega) (by omega)];omega
  simp only [go_sem,hlt',hlt,hjl,hw1,jI hx,jI hy,jk];refine jc (jhw x y) (by simp only [go_sem,jk]) fun η=>?_
  simp only [go_sem,jk];cases ha:kt x y
  ·have hb:zX l=false:=jiy fun h=>by have:=h.ahead j x y hx hy;rw [ha] at this;cases this
   simp only [go_sem,ha,hb]
  ·simp only [go_sem,ha,hw]
   exact ⟨j+1+1,⟨by omega,.inl (by omega),fun k a b hk ha' hb'=>by rcases Nat.lt_or_ge (k+1) (j+1) with h'|h';exact hio k a b h' ha' hb';obtain rfl:k=j:=(by omega);rw [hx] at ha';rw [hy] at hb';cases ha';cases hb';exact ha⟩,(jg [] (by simp only [go_sem]<;>and_intros<;>first|rfl|assumption|trivial)),by (try dsimp only);omega⟩
 have hlt':¬(i:Int)<l.length:=by omega
 by_cases h80:l.length≤80
 ·have h80':(l.length:Int)≤80:=by omega
  have hb:zX l=true:=je7 ⟨h80,fun k a b ha hb=>hio k a b (by have:=(List.getElem?_eq_some_iff.1 hb).1;omega) ha hb⟩
  simp only [go_sem,hlt',h80',hb]
 ·have h80':¬(l.length:Int)≤80:=by omega
  have hb:zX l=false:=jiy fun h=>h80 h.most
  simp only [go_sem,hlt',h80',hb]
theorem jwi (l:List Int) (e:Int) (hl:l.length≤4000000):kj Tryz.prog 139 [.c (jh l),.c (.val (.int .i64 e))] (.c (.val (.int .i64 (jds (fun x=>e==x) l)))):=by
 refine jq Tryz.func139 jaG (by simp) ?_
 unfold za;simp only [go_sem];refine jn (fun i:Nat=>St.of [(0,Ro (jh l)),(1,Ni e),(7,Ni l.length),(8,Ni i)] []) (fun i=>i≤l.length∧∀y∈l.take i,(fun x=>e==x) y=false) (fun i=>l.length-i) 0 (by (try dsimp only);first|omega|(simp;done)|(and_intros<;>first|omega|simp)) (jg [] (by simp only [go_sem]<;>and_intros<;>first|rfl|assumption|trivial)) ?_
 rintro k ⟨hk,hko⟩;by_cases hlt:k<l.length
 ·have hlt':(k:Int)<l.length:=by omega
  obtain ⟨x,hx⟩:=je hlt;have hw:IntKind.i64.wrap ((k:Int)+1)=((k+1:Nat):Int):=jf (by omega) (by omega)
  cases heq:e==x
  ·simp only [go_sem,hlt,hlt',jcE hx,heq,hw]
   exact ⟨k+1,⟨hlt,jlA hx heq hko⟩,(jg [] (by simp only [go_sem]<;>and_intros<;>first|rfl|assumption|trivial)),by (try dsimp only);omega⟩
  ·simp only [go_sem,hlt,hlt',jcE hx,heq,jbj hx heq hko]
 ·have hlt':¬(k:Int)<l.length:=by omega
  rw [List.take_of_length_le (by omega)] at hko
  simp only [go_sem,hlt',jak hko]
theorem jjk (l:List Int) (e:Int) (hl:l.length≤4000000):kj Tryz.prog 80 [.c (jh l),.c (.val (.int .i64 e))] (.c (.val (.bool (decide (e∈l))))):=by
 refine jq Tryz.func80 zT (by simp) ?_
 unfold vn;simp only [go_sem];refine jc (jwi l e hl) (by simp only [go_sem]) fun η=>?_
 simp only [go_sem];rcases zq (fun x=>e==x) l with ⟨h1,h2⟩|⟨k,x,h1,h2,h3,-⟩
 ·have hm:decide (e∈l)=false:=decide_eq_false fun h=>by have:=h2 e h;simp at this
  rw [h1,hm];simp only [go_sem]
 ·have hm:decide (e∈l)=true:=decide_eq_true (by have h4:e=x:=by simpa using h3
                                                exact h4▸List.mem_of_getElem? h2)
  have hk:(k:Int)≥0:=by omega
  rw [h1,hm];simp only [go_sem,hk]
def jfV:C:=iS [iA 3 (.box 27 4 (.t 0)),iA 4 (.box 52 8 (.t 1)),iA 6 (iO false)] (.seq (iS [iA 7 (iN 0)] (.blk 0 (.loop (.seq (iS [iA 10 (iM 7),iA 11 (iF 7 4),iA 12 (iL 11),iA 13 (iG 12),iA 14 (iP .lss 3 10 13)] (iD 14 .skip (.exit 0))) (.seq (.blk 1 (iS [iA 8 (iN 0)] (.seq (iS [iA 9 (iN 0)] (.blk 2 (.loop (.seq (iS [iA 17 (iM 9),iA 18 (iM 2),iA 19 (iG 18),iA 20 (iP .lss 3 17 19)] (iD 20 .skip (.exit 2))) (.seq (.blk 3 (.seq (.dreg (T.pure 0 (iA 23 (iM 2)) (T.pure 1 (iA 24 (iM 9)) (T.pure 2 (iA 25 (iI 4 23 24)) (T.pure 3 (iA 26 (iF 2 25)) (T.pure 4 (iA 27 (iL 26)) (T.pure 5 (iA 28 (iF 0 4)) (T.pure 6 (iA 29 (iL 28)) (T.pure 7 (iA 30 (iP .eql 3 27 29)) (T.pure 8 (iA 31 (iM 30)) (T.pure 9 (iB 32 31 true (iM 2)) (T.pure 10 (iB 33 31 true (iM 9)) (T.pure 11 (iB 34 31 true (iI 4 32 33)) (T.pure 12 (iB 35 31 true (iF 3 34)) (T.pure 13 (iB 36 31 true (iL 35)) (T.pure 14 (iB 37 31 true (iM 7)) (T.pure 15 (iB 38 31 true (iP .eql 3 36 37)) (T.pure 16 (iA 39 (.pick (.t 31) (.t 38) (.c (.bool false)))) T.done)))))))))))))))))) (iD 39 (iS [iA 40 (iM 8),iA 41 (iQ .add 3 40 1),iA 8 (iM 41)] (.seq (.dreg (T.pure 0 (iA 42 (iF 7 4)) (T.pure 1 (iA 43 (iL 42)) (T.pure 2 (iA 44 (iM 7)) (T.pure 3 (iA 45 (iI 4 43 44)) (T.pure 4 (iA 46 (iF 0 45)) (T.pure 5 (iA 47 (iL 46)) (T.pure 6 (iA 48 (iQ .eql 3 47 2)) (T.pure 7 (iA 49 (iM 48)) (T.pure 8 (iB 50 49 true (iM 2)) (T.pure 9 (iB 51 49 true (iM 9)) (T.pure 10 (iB 52 49 true (iI 4 50 51)) (T.pure 11 (iB 53 49 true (iF 0 52)) (T.pure 12 (iB 54 49 true (iL 53)) (T.pure 13 (iB 55 49 true (iF 1 4)) (T.pure 14 (iB 56 49 true (iF 0 55)) (T.pure 15 (iB 57 49 true (iL 56)) (T.pure 16 (iB 58 49 true (iP .neq 3 54 57)) (T.pure 17 (iA 59 (.pick (.t 49) (.t 58) (.c (.bool false)))) T.done))))))))))))))))))) (iD 59 (iS [iA 6 (iO false)] .ret) .skip))) .skip))) (.reg [iA 21 (iM 9),iA 22 (iQ .add 3 21 1),iA 9 (iM 22)])))))) (.seq (.dreg (T.pure 0 (iA 60 (iF 7 4)) (T.pure 1 (iA 61 (iL 60)) (T.pure 2 (iA 62 (iM 7)) (T.pure 3 (iA 63 (iI 4 61 62)) (T.pure 4 (iA 64 (iF 0 63)) (T.pure 5 (iA 65 (iL 64)) (T.pure 6 (iA 66 (iQ .eql 3 65 2)) (T.pure 7 (iA 67 (iM 66)) (T.pure 8 (iB 68 67 true (iM 8)) (T.pure 9 (iB 69 67 true (iQ .neq 3 68 1)) (T.pure 10 (iA 70 (.pick (.t 67) (.t 69) (.c (.bool false)))) (T.pure 11 (iA 71 (iM 70)) (T.pure 12 (iB 72 71 false (iF 7 4)) (T.pure 13 (iB 73 71 false (iL 72)) (T.pure 14 (iB 74 71 false (iM 7)) (T.pure 15 (iB 75 71 false (iI 4 73 74)) (T.pure 16 (iB 76 71 false (iF 0 75)) (T.pure 17 (iB 77 71 false (iL 76)) (T.pure 18 (iB 78 71 false (iQ .eql 3 77 3)) (T.pure 19 (iB 79 71 false (iM 78)) (T.pure 20 (iB 80 79 true (iF 7 4)) (T.pure 21 (iB 81 79 true (iL 80)) (T.pure 22 (iB 82 79 true (iM 7)) (T.pure 23 (iB 83 79 true (iI 4 81 82)) (T.pure 24 (iB 84 79 true (iF 3 83)) (T.pure 25 (iB 85 79 true (iL 84)) (T.pure 26 (iB 86 79 true (iF 0 3)) (T.pure 27 (iB 87 79 true (iL 86)) (T.pure 28 (iB 88 79 true (iQ .add 3 87 1)) (T.pure 29 (iB 89 79 true (iF 0 3)) (T.pure 30 (iB 90 79 true (iL 89)) (T.pure 31 (iB 91 79 true (iF 1 4)) (T.pure 32 (iB 92 79 true (iF 2 91)) (T.pure 33 (iB 93 79 true (iL 92)) (T.pure 34 (iB 94 79 true (iP .add 3 90 93)) (T.alt (iB 95 79 true (.call 68 [.t 85,.t 88,.t 94])) [] (T.pure 36 (iB 96 79 true (iU 95)) (T.pure 37 (iB 97 71 false (.pick (.t 79) (.t 96) (.c (.bool false)))) (T.pure 38 (iA 98 (.pick (.t 71) (.c (.bool true)) (.t 97))) T.done))) T.stop))))))))))))))))))))))))))))))))))))) (iD 98 (iS [iA 6 (iO false)] .ret) .skip))))) (.reg [iA 15 (iM 7),iA 16 (iQ .add 3 15 1),iA 7 (iM 16)])))))) (iS [iA 6 (iO true)] .ret))
theorem jhZ:fnC Tryz.prog Tryz.f131=some (jfV,[.t 6],99):=by kernel_rfl
def jf8:C:=iS [iA 3 (.box 27 4 (.t 0)),iA 4 (.box 52 8 (.t 1)),iA 6 (iO false)] (.seq (iS [iA 12 (iF 7 4),iA 13 (iL 12),iA 14 (iG 13),iA 15 (iN 0)] (.blk 0 (.loop (iS [iA 16 (iP .lss 3 15 14)] (.seq (iD 16 .skip (.exit 0)) (.seq (.blk 1 (iS [iA 17 (iM 15),iA 18 (iI 4 13 15),iA 19 (iT 4 18),iA 8 (.alloc 46 [.int .i64 0,.int .i64 0,.int .i64 0,.int .i64 0]),iA 7 (iM 17),iC (.st 4 [none,none,none,none] (.t 8) (.t 19))] (iS [iA 9 (iN 0)] (.seq (iS [iA 20 (iM 2),iA 21 (iG 20),iA 22 (iN 0)] (.blk 2 (.loop (iS [iA 23 (iP .lss 3 22 21)] (.seq (iD 23 .skip (.exit 2)) (.seq (.blk 3 (iS [iA 24 (iI 4 20 22),iA 25 (iT 4 24),iA 11 (.alloc 44 [.int .i64 0,.int .i64 0,.int .i64 0,.int .i64 0]),iC (.st 4 [none,none,none,none] (.t 11) (.t 25))] (iS [iA 26 (iF 2 11),iA 27 (iL 26),iA 28 (iF 0 4),iA 29 (iL 28),iA 30 (iP .eql 3 27 29),iA 31 (iM 30),iB 32 31 true (iF 3 11),iB 33 31 true (iL 32),iB 34 31 true (iM 7),iB 35 31 true (iP .eql 3 33 34),iA 36 (.pick (.t 31) (.t 35) (.c (.bool false)))] (iD 36 (.seq (iS [iA 37 (iF 0 8),iA 38 (iL 37),iA 39 (iQ .eql 3 38 2),iA 40 (iM 39),iB 41 40 true (iF 0 11),iB 42 40 true (iL 41),iB 43 40 true (iF 1 4),iB 44 40 true (iF 0 43),iB 45 40 true (iL 44),iB 46 40 true (iP .neq 3 42 45),iA 47 (.pick (.t 40) (.t 46) (.c (.bool false)))] (iD 47 (iS [iA 6 (iO false)] .ret) .skip)) (.reg [iA 48 (iM 9),iA 49 (iQ .add 3 48 1),iA 9 (iM 49)])) .skip)))) (.reg [iA 50 (iQ .add 3 22 1),iA 22 (iM 50)]))))))) (iS [iA 51 (iF 0 8),iA 52 (iL 51),iA 53 (iQ .eql 3 52 2),iA 54 (iM 53),iB 55 54 true (iM 9),iB 56 54 true (iQ .neq 3 55 1),iA 57 (.pick (.t 54) (.t 56) (.c (.bool false))),iA 58 (iM 57),iB 59 58 false (iF 0 8),iB 60 58 false (iL 59),iB 61 58 false (iQ .eql 3 60 3),iB 62 58 false (iM 61),iB 63 62 true (iF 3 8),iB 64 62 true (iL 63),iB 65 62 true (iF 0 3),iB 66 62 true (iL 65),iB 67 62 true (iQ .add 3 66 1),iB 68 62 true (iF 0 3),iB 69 62 true (iL 68),iB 70 62 true (iF 1 4),iB 71 62 true (iF 2 70),iB 72 62 true (iL 71),iB 73 62 true (iP .add 3 69 72),iB 74 62 true (.call 62 [.t 64,.t 67,.t 73]),iB 75 62 true (iU 74),iB 76 58 false (.pick (.t 62) (.t 75) (.c (.bool false))),iA 77 (.pick (.t 58) (.c (.bool true)) (.t 76))] (iD 77 (iS [iA 6 (iO false)] .ret) .skip)))))) (.reg [iA 78 (iQ .add 3 15 1),iA 15 (iM 78)]))))))) (iS [iA 6 (iO true)] .ret))
theorem jic:fnC Tryz.prog Tryz.f82=some (jf8,[.t 6],79):=by kernel_rfl
theorem jlR (y:Yd) (r:Rn) (l:List En) (hl:l.length≤4000000) (ht:r.tasks.length≤4000000) (hy:0≤y.now∧y.now≤999999980) (hwt:1≤r.plan.wait∧r.plan.wait≤20):kj Tryz.prog 131 [.agg (jb y),.agg (jd r),.c (jm l)] (.c (.val (.bool (zf y r l)))):=by
 refine jq Tryz.func131 jhZ (by simp) ?_
 unfold jfV;have hwn:IntKind.i64.wrap (y.now+1)=y.now+1:=jf (by omega) (by omega)
 have hww:IntKind.i64.wrap (y.now+r.plan.wait)=y.now+r.plan.wait:=jf (by omega) (by omega)
 simp only [go_sem,jb,jd,ja,jo,jk];intro b3 b4;refine jn (fun i:Nat=>St.of [(2,Ro (jm l)),(3,Bx 300 b3),(4,Bx 400 b4),(7,Ni i)] [(300,Bi b3 _ (jb y)),(400,Bi b4 _ (jd r))]) (fun i=>i≤r.tasks.length∧∀(t:Nat) (x:Tk),t<i→r.tasks[t]?=some x→jiV y r l t x) (fun i=>r.tasks.length-i) 0 (by (try dsimp only);first|omega|(simp;done)|(and_intros<;>first|omega|simp)) (jg [some 300,some 400] (by simp only [go_sem,jb,jd,ja,jo,jk]<;>and_intros<;>first|rfl|assumption|trivial)) ?_
 rintro k ⟨hk,hko⟩;by_cases hlt:k<r.tasks.length
 ·have hlt':(k:Int)<r.tasks.length:=by omega
  have h0k:(k:Int)≥0:=by omega
  obtain ⟨x,hx⟩:=je hlt;have hw:IntKind.i64.wrap ((k:Int)+1)=((k+1:Nat):Int):=jf (by omega) (by omega)
  simp only [go_sem,jb,jd,ja,jo,jk,hlt'];refine jn (fun i:Nat=>St.of [(2,Ro (jm l)),(3,Bx 300 b3),(4,Bx 400 b4),(7,Ni k),(8,Ni (zM r.id k (l.take i))),(9,Ni i)] [(300,Bi b3 _ (jb y)),(400,Bi b4 _ (jd r))]) (fun i=>i≤l.length∧(x.state=2→∀e∈l.take i,e.run=r.id→e.task=k→e.prio=r.plan.prio)) (fun i=>l.length-i) 0 (by (try dsimp only);first|omega|(simp;done)|(and_intros<;>first|omega|simp)) (jg [some 300,some 400] (by simp only [go_sem,jb,jd,ja,jo,jk,List.take_zero,zM,List.filter_nil,List.length_nil]<;>and_intros<;>first|rfl|assumption|trivial)) ?_
  rintro j ⟨hj,hjo⟩;by_cases hjl:j<l.length
  ·as_aux_lemma=>
    have hjl':(j:Int)<l.length:=by omega
    obtain ⟨e,he⟩:=je hjl;have hwj:IntKind.i64.wrap ((j:Int)+1)=((j+1:Nat):Int):=jf (by omega) (by omega)
    have hcl:=ju6 (l.take j) r.id k;rw [List.length_take] at hcl;have hwc:IntKind.i64.wrap ((zM r.id k (l.take j):Int)+1)=((zM r.id k (l.take j)+1:Nat):Int):=jf (by omega) (by omega)
    have hnx:¬(e.run=r.id∧e.task=k)→(x.state=2→∀e∈l.take (j+1),e.run=r.id→e.task=k→e.prio=r.plan.prio):=fun hno h2 e2 he2 h3 h4=>by
     rw [List.take_add_one,he] at he2;rcases List.mem_append.1 he2 with he2|he2
     ·exact hjo h2 e2 he2 h3 h4
     ·simp at he2;subst he2;exact absurd ⟨h3,h4⟩ hno
    simp only [go_sem,jb,jd,ja,jo,jk,hjl,hjl',jI he];cases hr:e.run==r.id
    ·have hs:=jmC (id:=r.id) (t:=k) he (fun h=>by have:=h.1;simp [this] at hr)
     simp only [go_sem,jb,jd,ja,jo,jk,hjl,hjl',jI he,hr,hwj];exact ⟨j+1,⟨hjl,hnx (fun h=>by have:=h.1;simp [this] at hr)⟩,(jg [some 300,some 400] (by simp only [go_sem,jb,jd,ja,jo,jk,hs]<;>and_intros<;>first|rfl|assumption|trivial)),by (try dsimp only);omega⟩
    have hr':e.run=r.id:=by simpa using hr
    cases htk:e.task==(k:Int)
    ·have hs:=jmC (id:=r.id) (t:=k) he (fun h=>by have:=h.2;simp [this] at htk)
     simp only [go_sem,jb,jd,ja,jo,jk,hjl,hjl',jI he,hr,htk,hwj];exact ⟨j+1,⟨hjl,hnx (fun h=>by have:=h.2;simp [this] at htk)⟩,(jg [some 300,some 400] (by simp only [go_sem,jb,jd,ja,jo,jk,hs]<;>and_intros<;>first|rfl|assumption|trivial)),by (try dsimp only);omega⟩
    have htk':e.task=k:=by simpa using htk
    have hs:=jq7 he hr' htk';simp only [go_sem,jb,jd,ja,jo,jk,hjl,hjl',jI he,hr,htk,hwc,hlt,hlt',h0k,jQ hx];cases h2:x.state==2
    ·simp only [go_sem,jb,jd,ja,jo,jk,hjl,hjl',jI he,h2,hwj,hwc]
     exact ⟨j+1,⟨hjl,fun h=>by simp [h] at h2⟩,(jg [some 300,some 400] (by simp only [go_sem,jb,jd,ja,jo,jk,hs]<;>and_intros<;>first|rfl|assumption|trivial)),by (try dsimp only);omega⟩
    have h2':x.state=2:=by simpa using h2
    cases hp:e.prio !=r.plan.prio
    ·have hp':e.prio=r.plan.prio:=by simpa using hp
     simp only [go_sem,jb,jd,ja,jo,jk,hjl,hjl',jI he,h2,hp,hwj,hwc];exact ⟨j+1,⟨hjl,fun _ e2 he2 h3 h4=>by rw [List.take_add_one,he] at he2;rcases List.mem_append.1 he2 with he2|he2;exact hjo h2' e2 he2 h3 h4;simp at he2;subst he2;exact hp'⟩,(jg [some 300,some 400] (by simp only [go_sem,jb,jd,ja,jo,jk,hs]<;>and_intros<;>first|rfl|assumption|trivial)),by (try dsimp only);omega⟩
    ·have hb:zf y r l=false:=jda fun h=>by
      have:=((h k x hx).1 h2').1 e (List.mem_of_getElem? he) hr' htk';simp [this] at hp
     simp only [go_sem,jb,jd,ja,jo,jk,hjl,hjl',jI he,h2,hp,hb]
  as_aux_lemma=>
   have hjl':¬(j:Int)<l.length:=by omega
   rw [List.take_of_length_le (by omega)] at hjo
   rw [List.take_of_length_le (by omega)]
   have hnx2:jiV y r l k x→∀(t:Nat) (z:Tk),t<k+1→r.tasks[t]?=some z→jiV y r l t z:=fun h t z ht hz=>by
    rcases Nat.lt_or_ge t k with h'|h'
    ·exact hko t z h' hz
    ·obtain rfl:t=k:=by omega
     rw [hx] at hz;cases hz;exact h
   cases h2:x.state==2;rotate_left
   ·have h2':x.state=2:=by simpa using h2
    have h3:(x.state==3)=false:=by simp [h2']
    cases hc:((zM r.id k l:Nat):Int) !=1
    ·as_aux_lemma=>
      have hc':zM r.id k l=1:=by have:((zM r.id k l:Nat):Int)=1:=by simpa only [bne_eq_false_iff_eq] using hc
                                 omega
      simp only [go_sem,jb,jd,ja,jo,jk,hjl',hlt,hlt',h0k,jQ hx,h2,hc,h3,hw];exact ⟨k+1,⟨hlt,hnx2 ⟨fun _=>⟨hjo h2',hc'⟩,fun h=>by omega⟩⟩,(jg [some 300,some 400] (by simp only [go_sem,jb,jd,ja,jo,jk]<;>and_intros<;>first|rfl|assumption|trivial)),by (try dsimp only);omega⟩
    ·as_aux_lemma=>
      have hb:zf y r l=false:=jda fun h=>by
       have:=((h k x hx).1 h2').2;rw [this] at hc;cases hc
      simp only [go_sem,jb,jd,ja,jo,jk,hjl',hlt,hlt',h0k,jQ hx,h2,hc,hb]
   ·have h2':¬x.state=2:=by simpa using h2
    cases h3:x.state==3
    ·as_aux_lemma=>
      have h3':¬x.state=3:=by simpa using h3
      simp only [go_sem,jb,jd,ja,jo,jk,hjl',hlt,hlt',h0k,jQ hx,h2,h3,hw];exact ⟨k+1,⟨hlt,hnx2 ⟨fun h=>absurd h h2',fun h=>absurd h h3'⟩⟩,(jg [some 300,some 400] (by simp only [go_sem,jb,jd,ja,jo,jk]<;>and_intros<;>first|rfl|assumption|trivial)),by (try dsimp only);omega⟩
    ·have h3':x.state=3:=by simpa using h3
     as_aux_lemma=>
      simp only [go_sem,jb,jd,ja,jo,jk,hjl',hlt,hlt',h0k,jQ hx,h2,h3,hwn,hww];refine jc (jL x.til (y.now+1) (y.now+r.plan.wait)) (by simp only [go_sem,jb,jd,ja,jo,jk,hwn,hww]) fun η=>?_
      simp only [go_sem,jb,jd,ja,jo,jk,hwn,hww];cases ht:decide (y.now+1≤x.til∧x.til≤y.now+r.plan.wait)
      ·have hb:zf y r l=false:=jda fun h=>by
        have:=(h k x hx).2 h3';simp [this] at ht
       simp only [go_sem,jb,jd,ja,jo,jk,ht,hb]
      ·have ht':y.now+1≤x.til∧x.til≤y.now+r.plan.wait:=of_decide_eq_true ht
       simp only [go_sem,jb,jd,ja,jo,jk,ht,hw];exact ⟨k+1,⟨hlt,hnx2 ⟨fun h=>absurd h h2',fun _=>ht'⟩⟩,(jg [some 300,some 400] (by simp only [go_sem,jb,jd,ja,jo,jk]<;>and_intros<;>first|rfl|assumption|trivial)),by (try dsimp only);omega⟩
 have hlt':¬(k:Int)<r.tasks.length:=by omega
 have hb:zf y r l=true:=jfa fun t x hx=>hko t x (by have:=(List.getElem?_eq_some_iff.1 hx).1;omega) hx
 simp only [go_sem,jb,jd,ja,jo,jk,hlt',hb]
theorem jl1 (y:Yd) (r:Rn) (l:List En) (hl:l.length≤4000000) (ht:r.tasks.length≤4000000) (hy:0≤y.now∧y.now≤999999980) (hwt:1≤r.plan.wait∧r.plan.wait≤20):kj Tryz.prog 82 [.agg (jb y),.agg (jd r),.c (jm l)] (.c (.val (.bool (zf y r l)))):=by
 refine jq Tryz.func82 jic (by simp) ?_
 unfold jf8;have hwn:IntKind.i64.wrap (y.now+1)=y.now+1:=jf (by omega) (by omega)
 have hww:IntKind.i64.wrap (y.now+r.plan.wait)=y.now+r.plan.wait:=jf (by omega) (by omega)
 simp only [go_sem,jb,jd,ja,jo,jk];intro b3 b4;refine jn (fun i:Nat=>St.of [(2,Ro (jm l)),(3,Bx 300 b3),(4,Bx 400 b4),(13,Ro (jB r.tasks)),(14,Ni r.tasks.length),(15,Ni i)] [(300,Bi b3 _ (jb y)),(400,Bi b4 _ (jd r))]) (fun i=>i≤r.tasks.length∧∀(t:Nat) (x:Tk),t<i→r.tasks[t]?=some x→jiV y r l t x) (fun i=>r.tasks.length-i) 0 (by (try dsimp only);first|omega|(simp;done)|(and_intros<;>first|omega|simp)) (jg [some 300,some 400] (by simp only [go_sem,jb,jd,ja,jo,jk]<;>and_intros<;>first|rfl|assumption|trivial)) ?_
 rintro k ⟨hk,hko⟩;by_cases hlt:k<r.tasks.length
 ·have hlt':(k:Int)<r.tasks.length:=by omega
  have h0k:(k:Int)≥0:=by omega
  obtain ⟨x,hx⟩:=je hlt;have hw:IntKind.i64.wrap ((k:Int)+1)=((k+1:Nat):Int):=jf (by omega) (by omega)
  simp only [go_sem,jb,jd,ja,jo,jk,hlt,hlt',jQ hx];intro b8;refine jn (fun i:Nat=>St.of [(2,Ro (jm l)),(3,Bx 300 b3),(4,Bx 400 b4),(7,Ni k),(8,Bx 800 b8),(9,Ni (zM r.id k (l.take i))),(13,Ro (jB r.tasks)),(14,Ni r.tasks.length),(15,Ni k),(20,Ro (jm l)),(21,Ni l.length),(22,Ni i)] [(300,Bi b3 _ (jb y)),(400,Bi b4 _ (jd r)),(800,Bi b8 _ (jo x))]) (fun i=>i≤l.length∧(x.state=2→∀e∈l.take i,e.run=r.id→e.task=k→e.prio=r.plan.prio)) (fun i=>l.length-i) 0 (by (try dsimp only);first|omega|(simp;done)|(and_intros<;>first|omega|simp)) (jg [some 300,some 400,some 800] (by simp only [go_sem,jb,jd,ja,jo,jk,List.take_zero,zM,List.filter_nil,List.length_nil]<;>and_intros<;>first|rfl|assumption|trivial)) ?_
  rintro j ⟨hj,hjo⟩;by_cases hjl:j<l.length
  ·as_aux_lemma=>
    have hjl':(j:Int)<l.length:=by omega
    obtain ⟨e,he⟩:=je hjl;have hwj:IntKind.i64.wrap ((j:Int)+1)=((j+1:Nat):Int):=jf (by omega) (by omega)
    have hcl:=ju6 (l.take j) r.id k;rw [List.length_take] at hcl;have hwc:IntKind.i64.wrap ((zM r.id k (l.take j):Int)+1)=((zM r.id k (l.take j)+1:Nat):Int):=jf (by omega) (by omega)
    have hnx:¬(e.run=r.id∧e.task=k)→(x.state=2→∀e∈l.take (j+1),e.run=r.id→e.task=k→e.prio=r.plan.prio):=fun hno h2 e2 he2 h3 h4=>by
     rw [List.take_add_one,he] at he2;rcases List.mem_append.1 he2 with he2|he2
     ·exact hjo h2 e2 he2 h3 h4
     ·simp at he2;subst he2;exact absurd ⟨h3,h4⟩ hno
    simp only [go_sem,jb,jd,ja,jo,jk,hjl,hjl',jI he];intro b11;cases hr:e.run==r.id
    ·have hs:=jmC (id:=r.id) (t:=k) he (fun h=>by have:=h.1;simp [this] at hr)
     simp only [go_sem,jb,jd,ja,jo,jk,hjl,hjl',jI he,hr,hwj];exact ⟨j+1,⟨hjl,hnx (fun h=>by have:=h.1;simp [this] at hr)⟩,(jg [some 300,some 400,some 800] (by simp only [go_sem,jb,jd,ja,jo,jk,hs]<;>and_intros<;>first|rfl|assumption|trivial)),by (try dsimp only);omega⟩
    have hr':e.run=r.id:=by simpa using hr
    cases htk:e.task==(k:Int)
    ·have hs:=jmC (id:=r.id) (t:=k) he (fun h=>by have:=h.2;simp [this] at htk)
     simp only [go_sem,jb,jd,ja,jo,jk,hjl,hjl',jI he,hr,htk,hwj];exact ⟨j+1,⟨hjl,hnx (fun h=>by have:=h.2;simp [this] at htk)⟩,(jg [some 300,some 400,some 800] (by simp only [go_sem,jb,jd,ja,jo,jk,hs]<;>and_intros<;>first|rfl|assumption|trivial)),by (try dsimp only);omega⟩
    have htk':e.task=k:=by simpa using htk
    have hs:=jq7 he hr' htk';simp only [go_sem,jb,jd,ja,jo,jk,hjl,hjl',jI he,hr,htk,hwc,hlt,hlt',h0k];cases h2:x.state==2
    ·simp only [go_sem,jb,jd,ja,jo,jk,hjl,hjl',jI he,h2,hwj,hwc]
     exact ⟨j+1,⟨hjl,fun h=>by simp [h] at h2⟩,(jg [some 300,some 400,some 800] (by simp only [go_sem,jb,jd,ja,jo,jk,hs]<;>and_intros<;>first|rfl|assumption|trivial)),by (try dsimp only);omega⟩
    have h2':x.state=2:=by simpa using h2
    cases hp:e.prio !=r.plan.prio
    ·have hp':e.prio=r.plan.prio:=by simpa using hp
     simp only [go_sem,jb,jd,ja,jo,jk,hjl,hjl',jI he,h2,hp,hwj,hwc];exact ⟨j+1,⟨hjl,fun _ e2 he2 h3 h4=>by rw [List.take_add_one,he] at he2;rcases List.mem_append.1 he2 with he2|he2;exact hjo h2' e2 he2 h3 h4;simp at he2;subst he2;exact hp'⟩,(jg [some 300,some 400,some 800] (by simp only [go_sem,jb,jd,ja,jo,jk,hs]<;>and_intros<;>first|rfl|assumption|trivial)),by (try dsimp only);omega⟩
    ·have hb:zf y r l=false:=jda fun h=>by
      have:=((h k x hx).1 h2').1 e (List.mem_of_getElem? he) hr' htk';simp [this] at hp
     simp only [go_sem,jb,jd,ja,jo,jk,hjl,hjl',jI he,h2,hp,hb]
  as_aux_lemma=>
   have hjl':¬(j:Int)<l.length:=by omega
   rw [List.take_of_length_le (by omega)] at hjo
   rw [List.take_of_length_le (by omega)]
   have hnx2:jiV y r l k x→∀(t:Nat) (z:Tk),t<k+1→r.tasks[t]?=some z→jiV y r l t z:=fun h t z ht hz=>by
    rcases Nat.lt_or_ge t k with h'|h'
    ·exact hko t z h' hz
    ·obtain rfl:t=k:=by omega
     rw [hx] at hz;cases hz;exact h
   simp only [go_sem,jb,jd,ja,jo,jk,hjl',hlt,hlt',h0k];cases h2:x.state==2;rotate_left
   ·have h2':x.state=2:=by simpa using h2
    have h3:(x.state==3)=false:=by simp [h2']
    cases hc:((zM r.id k l:Nat):Int) !=1
    ·have hc':zM r.id k l=1:=by have:((zM r.id k l:Nat):Int)=1:=by simpa only [bne_eq_false_iff_eq] using hc
                                omega
     simp only [go_sem,jb,jd,ja,jo,jk,h2,hc,h3,hw,hlt,hlt',h0k];exact ⟨k+1,⟨hlt,hnx2 ⟨fun _=>⟨hjo h2',hc'⟩,fun h=>by omega⟩⟩,(jg [some 300,some 400] (by simp only [go_sem,jb,jd,ja,jo,jk]<;>and_intros<;>first|rfl|assumption|trivial)),by (try dsimp only);omega⟩
    ·have hb:zf y r l=false:=jda fun h=>by
      have:=((h k x hx).1 h2').2;rw [this] at hc;cases hc
     simp only [go_sem,jb,jd,ja,jo,jk,h2,hc,hb]
   ·have h2':¬x.state=2:=by simpa using h2
    cases h3:x.state==3
    ·have h3':¬x.state=3:=by simpa using h3
     simp only [go_sem,jb,jd,ja,jo,jk,h2,h3,hw,hlt,hlt',h0k];exact ⟨k+1,⟨hlt,hnx2 ⟨fun h=>absurd h h2',fun h=>absurd h h3'⟩⟩,(jg [some 300,some 400] (by simp only [go_sem,jb,jd,ja,jo,jk]<;>and_intros<;>first|rfl|assumption|trivial)),by (try dsimp only);omega⟩
    ·have h3':x.state=3:=by simpa using h3
     simp only [go_sem,jb,jd,ja,jo,jk,h2,h3,hwn,hww,hlt,hlt',h0k];refine jc (jE x.til (y.now+1) (y.now+r.plan.wait)) (by simp only [go_sem,jb,jd,ja,jo,jk,hwn,hww]) fun η=>?_
     simp only [go_sem,jb,jd,ja,jo,jk,hwn,hww];cases ht:decide (y.now+1≤x.til∧x.til≤y.now+r.plan.wait)
     ·have hb:zf y r l=false:=jda fun h=>by
       have:=(h k x hx).2 h3';simp [this] at ht
      simp only [go_sem,jb,jd,ja,jo,jk,ht,hb]
     ·have ht':y.now+1≤x.til∧x.til≤y.now+r.plan.wait:=of_decide_eq_true ht
      simp only [go_sem,jb,jd,ja,jo,jk,ht,hw];exact ⟨k+1,⟨hlt,hnx2 ⟨fun h=>absurd h h2',fun _=>ht'⟩⟩,(jg [some 300,some 400] (by simp only [go_sem,jb,jd,ja,jo,jk]<;>and_intros<;>first|rfl|assumption|trivial)),by (try dsimp only);omega⟩
 have hlt':¬(k:Int)<r.tasks.length:=by omega
 have hb:zf y r l=true:=jfa fun t x hx=>hko t x (by have:=(List.getElem?_eq_some_iff.1 hx).1;omega) hx
 simp only [go_sem,jb,jd,ja,jo,jk,hlt',hb]
def jbm:C:=iS [iA 1 (.box 27 4 (.t 0)),iA 2 (iO false)] (.seq (iS [iA 7 (iF 2 1),iA 8 (iL 7),iA 9 (iG 8),iA 10 (iQ .neq 3 9 4)] (iD 10 (iS [iA 2 (iO false)] .ret) .skip)) (.seq (iS [iA 3 (iN 0)] (.blk 0 (.loop (.seq (iS [iA 11 (iM 3),iA 12 (iF 2 1),iA 13 (iL 12),iA 14 (iG 13),iA 15 (iP .lss 3 11 14)] (iD 15 .skip (.exit 0))) (.seq (.blk 1 (iS [iA 18 (iF 2 1),iA 19 (iL 18),iA 20 (iM 3),iA 21 (iI 1 19 20),iA 22 (iL 21),iA 23 (.call 177 [.t 22]),iA 24 (iU 23)] (iD 24 (iS [iA 2 (iO false)] .ret) .skip))) (.reg [iA 16 (iM 3),iA 17 (iQ .add 3 16 1),iA 3 (iM 17)])))))) (iS [iA 25 (iT 4 1),iA 26 (.call 74 [.t 25]),iA 4 (iM 26)] (.seq (iS [iA 5 (iN 0)] (.blk 2 (.loop (.seq (iS [iA 27 (iM 5),iA 28 (iM 4),iA 29 (iG 28),iA 30 (iP .lss 3 27 29)] (iD 30 .skip (.exit 2))) (.seq (.blk 3 (.seq (.seq (.dreg (T.pure 0 (iA 33 (iM 4)) (T.pure 1 (iA 34 (iM 5)) (T.pure 2 (iA 35 (iI 4 33 34)) (T.pure 3 (iA 36 (iF 1 35)) (T.pure 4 (iA 37 (iL 36)) (T.pure 5 (iA 38 (iF 1 1)) (T.pure 6 (iA 39 (iL 38)) (T.pure 7 (iA 40 (iQ .sub 3 39 1)) (T.alt (iA 41 (.call 68 [.t 37,.c (.int .i64 1),.t 40])) [] (T.pure 9 (iA 42 (iU 41)) T.done) T.stop)))))))))) (iD 42 (iS [iA 2 (iO false)] .ret) .skip)) (iS [iA 6 (iN 0)] (.blk 4 (.loop (.seq (iS [iA 43 (iM 6),iA 44 (iM 5),iA 45 (iP .lss 3 43 44)] (iD 45 .skip (.exit 4))) (.seq (.blk 5 (.seq (.dreg (T.pure 0 (iA 48 (iM 4)) (T.pure 1 (iA 49 (iM 6)) (T.pure 2 (iA 50 (iI 4 48 49)) (T.pure 3 (iA 51 (iF 1 50)) (T.pure 4 (iA 52 (iL 51)) (T.pure 5 (iA 53 (iM 4)) (T.pure 6 (iA 54 (iM 5)) (T.pure 7 (iA 55 (iI 4 53 54)) (T.pure 8 (iA 56 (iF 1 55)) (T.pure 9 (iA 57 (iL 56)) (T.pure 10 (iA 58 (iP .eql 3 52 57)) T.done)))))))))))) (iD 58 (iS [iA 2 (iO false)] .ret) .skip))) (.reg [iA 46 (iM 6),iA 47 (iQ .add 3 46 1),iA 6 (iM 47)])))))))) (.reg [iA 31 (iM 5),iA 32 (iQ .add 3 31 1),iA 5 (iM 32)])))))) (iS [iA 2 (iO true)] .ret)))))
theorem jdt:fnC Tryz.prog Tryz.f129=some (jbm,[.t 2],59):=by kernel_rfl
def jfX:C:=iS [iA 1 (.box 27 4 (.t 0)),iA 2 (iO false)] (.seq (iS [iA 6 (iF 0 1),iA 7 (iL 6),iA 8 (.call 68 [.t 7,.c (.int .i64 0),.c (.int .i64 999999980)]),iA 9 (iU 8),iA 10 (iM 9),iB 11 10 false (iF 1 1),iB 12 10 false (iL 11),iB 13 10 false (.call 68 [.t 12,.c (.int .i64 1),.c (.int .i64 1000000000)]),iB 14 10 false (iU 13),iA 15 (.pick (.t 10) (.c (.bool true)) (.t 14)),iA 16 (iM 15),iB 17 16 false (iF 3 1),iB 18 16 false (iL 17),iB 19 16 false (iG 18),iB 20 16 false (iQ .gtr 3 19 8),iA 21 (.pick (.t 16) (.c (.bool true)) (.t 20)),iA 22 (iM 21),iB 23 22 false (iT 4 1),iB 24 22 false (.call 129 [.t 23]),iB 25 22 false (iU 24),iA 26 (.pick (.t 22) (.c (.bool true)) (.t 25))] (iD 26 (iS [iA 2 (iO false)] .ret) .skip)) (.seq (iS [iA 3 (iN 0)] (.blk 0 (.loop (.seq (iS [iA 27 (iM 3),iA 28 (iF 3 1),iA 29 (iL 28),iA 30 (iG 29),iA 31 (iP .lss 3 27 30)] (iD 31 .skip (.exit 0))) (.seq (.blk 1 (.seq (.dreg (T.pure 0 (iA 34 (iF 3 1)) (T.pure 1 (iA 35 (iL 34)) (T.pure 2 (iA 36 (iM 3)) (T.pure 3 (iA 37 (iI 8 35 36)) (T.pure 4 (iA 38 (iT 8 37)) (T.alt (iA 39 (.call 130 [.t 38])) [] (T.pure 6 (iA 40 (iU 39)) (T.pure 7 (iA 41 (iM 40)) (T.pure 8 (iB 42 41 false (iT 4 1)) (T.pure 9 (iB 43 41 false (iF 3 1)) (T.pure 10 (iB 44 41 false (iL 43)) (T.pure 11 (iB 45 41 false (iM 3)) (T.pure 12 (iB 46 41 false (iI 8 44 45)) (T.pure 13 (iB 47 41 false (iF 0 46)) (T.pure 14 (iB 48 41 false (iL 47)) (T.pure 16 (iB 50 41 false (iM 3)) (T.alt (iB 49 41 false (.call 26 [.t 42,.t 48])) [16] (T.pure 17 (iB 51 41 false (iP .neq 3 49 50)) (T.pure 18 (iA 52 (.pick (.t 41) (.c (.bool true)) (.t 51))) T.done)) T.stop))))))))))) T.stop))))))) (iD 52 (iS [iA 2 (iO false)] .ret) .skip))) (.reg [iA 32 (iM 3),iA 33 (iQ .add 3 32 1),iA 3 (iM 33)])))))) (iS [iA 53 (iT 4 1),iA 54 (.call 74 [.t 53]),iA 4 (iM 54)] (.seq (iS [iA 5 (iN 0)] (.blk 2 (.loop (.seq (iS [iA 55 (iM 5),iA 56 (iF 3 1),iA 57 (iL 56),iA 58 (iG 57),iA 59 (iP .lss 3 55 58)] (iD 59 .skip (.exit 2))) (.seq (.blk 3 (.seq (.dreg (T.pure 0 (iA 62 (iT 4 1)) (T.pure 1 (iA 63 (iF 3 1)) (T.pure 2 (iA 64 (iL 63)) (T.pure 3 (iA 65 (iM 5)) (T.pure 4 (iA 66 (iI 8 64 65)) (T.pure 5 (iA 67 (iT 8 66)) (T.pure 6 (iA 68 (iM 4)) (T.alt (iA 69 (.call 131 [.t 62,.t 67,.t 68])) [] (T.pure 8 (iA 70 (iU 69)) T.done) T.stop))))))))) (iD 70 (iS [iA 2 (iO false)] .ret) .skip))) (.reg [iA 60 (iM 5),iA 61 (iQ .add 3 60 1),iA 5 (iM 61)])))))) (iS [iA 71 (iT 4 1),iA 72 (.call 132 [.t 71]),iA 73 (iQ .leq 3 72 40),iA 2 (iM 73)] .ret)))))
theorem jh1:fnC Tryz.prog Tryz.f66=some (jfX,[.t 2],74):=by kernel_rfl
def jgb:C:=iS [iA 1 (.box 27 4 (.t 0)),iA 2 (iO false)] (.seq (iS [iA 11 (iF 0 1),iA 12 (iL 11),iA 13 (.call 62 [.t 12,.c (.int .i64 0),.c (.int .i64 999999980)]),iA 14 (iU 13),iA 15 (iM 14),iB 16 15 false (iF 1 1),iB 17 15 false (iL 16),iB 18 15 false (.call 62 [.t 17,.c (.int .i64 1),.c (.int .i64 1000000000)]),iB 19 15 false (iU 18),iA 20 (.pick (.t 15) (.c (.bool true)) (.t 19)),iA 21 (iM 20),iB 22 21 false (iF 2 1),iB 23 21 false (iL 22),iB 24 21 false (iG 23),iB 25 21 false (iQ .neq 3 24 4),iA 26 (.pick (.t 21) (.c (.bool true)) (.t 25)),iA 27 (iM 26),iB 28 27 false (iF 3 1),iB 29 27 false (iL 28),iB 30 27 false (iG 29),iB 31 27 false (iQ .gtr 3 30 8),iA 32 (.pick (.t 27) (.c (.bool true)) (.t 31))] (iD 32 (iS [iA 2 (iO false)] .ret) .skip)) (.seq (iS [iA 33 (iF 2 1),iA 34 (iL 33),iA 35 (iG 34),iA 36 (iN 0)] (.blk 0 (.loop (iS [iA 37 (iP .lss 3 36 35)] (.seq (iD 37 .skip (.exit 0)) (.seq (.blk 1 (iS [iA 38 (iI 1 34 36),iA 39 (iL 38),iA 4 (iM 39)] (iS [iA 40 (iM 4),iA 41 (.call 78 [.t 40]),iA 42 (iU 41)] (iD 42 (iS [iA 2 (iO false)] .ret) .skip)))) (.reg [iA 43 (iQ .add 3 36 1),iA 36 (iM 43)]))))))) (iS [iA 44 (iT 4 1),iA 45 (.call 79 [.t 44]),iA 5 (iM 45)] (iS [iA 6 (.mov (.c (.slice none 0 0)))] (.seq (iS [iA 46 (iM 5),iA 47 (iG 46),iA 48 (iN 0)] (.blk 2 (.loop (iS [iA 49 (iP .lss 3 48 47)] (.seq (iD 49 .skip (.exit 2)) (.seq (.blk 3 (iS [iA 50 (iI 4 46 48),iA 51 (iT 4 50),iA 8 (.alloc 44 [.int .i64 0,.int .i64 0,.int .i64 0,.int .i64 0]),iC (.st 4 [none,none,none,none] (.t 8) (.t 51))] (.seq (iS [iA 52 (iF 1 8),iA 53 (iL 52),iA 54 (iF 1 1),iA 55 (iL 54),iA 56 (iQ .sub 3 55 1),iA 57 (.call 62 [.t 53,.c (.int .i64 1),.t 56]),iA 58 (iU 57),iA 59 (iM 58),iB 60 59 false (iM 6),iB 61 59 false (iF 1 8),iB 62 59 false (iL 61),iB 63 59 false (.call 80 [.t 60,.t 62]),iA 64 (.pick (.t 59) (.c (.bool true)) (.t 63))] (iD 64 (iS [iA 2 (iO false)] .ret) .skip)) (.reg [iA 65 (iM 6),iA 66 (iF 1 8),iA 67 (iL 66),iA 68 (.bsl 3 1 1 [none] [(0,1,.t 67)]),iA 69 (.app 3 1 8 (.t 65) (.t 68)),iA 6 (iM 69)])))) (.reg [iA 70 (iQ .add 3 48 1),iA 48 (iM 70)]))))))) (.seq (iS [iA 71 (iF 3 1),iA 72 (iL 71),iA 73 (iG 72),iA 74 (iN 0)] (.blk 4 (.loop (iS [iA 75 (iP .lss 3 74 73)] (.seq (iD 75 .skip (.exit 4)) (.seq (.blk 5 (iS [iA 76 (iM 74),iA 77 (iI 8 72 74),iA 78 (iT 8 77),iA 10 (.alloc 52 [.int .i64 0,.int .i64 0,.int .i64 0,.int .i64 0,.int .i64 0,.slice none 0 0,.int .i64 0,.slice none 0 0]),iA 9 (iM 76),iC (.st 8 [none,none,none,none,none,some (2,161),none,some (4,46)] (.t 10) (.t 78))] (iS [iA 79 (iT 8 10),iA 80 (.call 81 [.t 79]),iA 81 (iU 80),iA 82 (iM 81),iB 83 82 false (iT 4 1),iB 84 82 false (iF 0 10),iB 85 82 false (iL 84),iB 86 82 false (.call 25 [.t 83,.t 85]),iB 87 82 false (iM 9),iB 88 82 false (iP .neq 3 86 87),iA 89 (.pick (.t 82) (.c (.bool true)) (.t 88)),iA 90 (iM 89),iB 91 90 false (iT 4 1),iB 92 90 false (iT 8 10),iB 93 90 false (iM 5),iB 94 90 false (.call 82 [.t 91,.t 92,.t 93]),iB 95 90 false (iU 94),iA 96 (.pick (.t 90) (.c (.bool true)) (.t 95))] (iD 96 (iS [iA 2 (iO false)] .ret) .skip)))) (.reg [iA 97 (iQ .add 3 74 1),iA 74 (iM 97)]))))))) (iS [iA 98 (iT 4 1),iA 99 (.call 21 [.t 98]),iA 100 (iQ .leq 3 99 40),iA 2 (iM 100)] .ret)))))))
theorem jif:fnC Tryz.prog Tryz.f18=some (jgb,[.t 2],101):=by kernel_rfl
theorem qj (y:Yd) (id:Int):kj Tryz.prog 26 [.agg (jb y),.c (.val (.int .i64 id))] (.c (.val (.int .i64 (runAt y id)))):=jo8 ⟨_,Tryz.func26,by kernel_rfl,by kernel_rfl⟩ fun w a b ⟨S,ha⟩ hb=>by rw [jaH hb];exact jaI y id a S w false ha
theorem ql (y:Yd) (id:Int):kj Tryz.prog 25 [.agg (jb y),.c (.val (.int .i64 id))] (.c (.val (.int .i64 (runAt y id)))):=jo8 ⟨_,Tryz.func25,by kernel_rfl,by kernel_rfl⟩ fun w a b ⟨S,ha⟩ hb=>by rw [jaH hb];exact jaN y id a S w false ha
theorem jkd (y:Yd) (ht:jJ y≤2000000):kj Tryz.prog 132 [.agg (jb y)] (.c (.val (.int .i64 (kZ y)))):=jAS ⟨_,Tryz.func132,by kernel_rfl,by kernel_rfl⟩ fun w a ⟨S,ha⟩=>jkQ y a S w false ha ht
theorem jkj (y:Yd) (ht:jJ y≤2000000):kj Tryz.prog 21 [.agg (jb y)] (.c (.val (.int .i64 (kZ y)))):=jAS ⟨_,Tryz.func21,by kernel_rfl,by kernel_rfl⟩ fun w a ⟨S,ha⟩=>jlb y a S w false ha ht
structure jiP (y:Yd):Prop where
 four:y.shelf.length=4
 shelves:∀l∈y.shelf,jhJ l
 seqs:SeqP y.seq y.shelf.flatten
open Classical in
noncomputable def va (y:Yd):Bool:=decide (jiP y)
theorem ji1 {y:Yd} (h:jiP y):va y=true:=by simp [va,h]
theorem jc8 {y:Yd} (h:¬jiP y):va y=false:=by simp [va,h]
theorem shelves_iff {y:Yd}:va y=true↔jiP y:=by simp [va]
theorem jm3 {y:Yd} (ht:jJ y≤2000000) {l:List En} (h:l∈y.shelf):l.length≤4000000:=by
 obtain ⟨k,hk,rfl⟩:=List.getElem_of_mem h;have h1:=jjy (List.getElem?_eq_getElem hk);have h2:=jcB y.shelf (k+1);have h3:=zl ht;rw [h1,List.length_append] at h2;omega
theorem jgE (y:Yd) (ht:jJ y≤2000000) (hq:1≤y.seq∧y.seq≤1000000000):kj Tryz.prog 129 [.agg (jb y)] (.c (.val (.bool (va y)))):=by
 refine jq Tryz.func129 jdt (by simp) ?_
 unfold jbm;have hsf:=zl ht;have hws:IntKind.i64.wrap (y.seq-1)=y.seq-1:=jf (by omega) (by omega)
 simp only [go_sem,jb];intro b;cases h4:(y.shelf.length:Int) !=4;rotate_left
 ·have hb:va y=false:=jc8 fun h=>by have:=h.four;rw [this] at h4;cases h4
  simp only [go_sem,jb,h4,hb]
 have h4':y.shelf.length=4:=by have:(y.shelf.length:Int)=4:=by simpa only [bne_eq_false_iff_eq] using h4
                               omega
 simp only [go_sem,jb,h4];refine jn (fun i:Nat=>St.of [(1,Bx 100 b),(3,Ni i)] [(100,Bi b _ (jb y))]) (fun i=>i≤y.shelf.length∧∀l∈y.shelf.take i,jhJ l) (fun i=>y.shelf.length-i) 0 (by (try dsimp only);first|omega|(simp;done)|(and_intros<;>first|omega|simp)) (jg [some 100] (by simp only [go_sem,jb]<;>and_intros<;>first|rfl|assumption|trivial)) ?_
 rintro k ⟨hk,hko⟩;by_cases hlt:k<y.shelf.length
 ·have hlt':(k:Int)<y.shelf.length:=by omega
  obtain ⟨l,hl⟩:=je hlt;have hlm:=List.mem_of_getElem? hl;have hw:IntKind.i64.wrap ((k:Int)+1)=((k+1:Nat):Int):=jf (by omega) (by omega)
  simp only [go_sem,jb,hlt,hlt',kO hl];refine jc (jke l (jm3 ht hlm)) (by simp only [go_sem,jb]) fun η=>?_
  simp only [go_sem,jb];cases hs:zX l
  ·have hb:va y=false:=jc8 fun h=>by have:=je7 (h.shelves l hlm);rw [hs] at this;cases this
   simp only [go_sem,jb,hs,hb]
  ·simp only [go_sem,jb,hs,hw]
   exact ⟨k+1,⟨hlt,fun l2 h2=>by rw [List.take_add_one,hl] at h2;rcases List.mem_append.1 h2 with h2|h2;exact hko l2 h2;simp at h2;subst h2;exact shelf_iff.1 hs⟩,(jg [some 100] (by simp only [go_sem,jb]<;>and_intros<;>first|rfl|assumption|trivial)),by (try dsimp only);omega⟩
 have hlt':¬(k:Int)<y.shelf.length:=by omega
 rw [List.take_of_length_le (by omega)] at hko
 simp only [go_sem,jb,hlt'];refine jc (jbe y ht) (by simp only [go_sem,jb]) fun ηe=>?_
 simp only [go_sem,jb];generalize hF:y.shelf.flatten=F at*;refine jn (fun i:Nat=>St.of [(1,Bx 100 b),(4,Hd 4 (ηe 0)),(5,Ni i)] [(100,Bi b _ (jb y)),(4,.loose (jm F) (ηe 0))]) (fun i=>i≤F.length∧(∀e∈F.take i,1≤e.seq∧e.seq≤y.seq-1)∧((F.take i).map (·.seq)).Nodup) (fun i=>F.length-i) 0 (by (try dsimp only);first|omega|(simp;done)|(and_intros<;>first|omega|simp)) (jg [some 100,some 2600] (by simp only [go_sem,jb]<;>and_intros<;>first|rfl|assumption|trivial)) ?_
 rintro j ⟨hj,hjo,hjd⟩;by_cases hjl:j<F.length
 ·have hjl':(j:Int)<F.length:=by omega
  have h0j:(j:Int)≥0:=by omega
  obtain ⟨e,he⟩:=je hjl;have hw:IntKind.i64.wrap ((j:Int)+1)=((j+1:Nat):Int):=jf (by omega) (by omega)
  simp only [go_sem,jb,hjl,hjl',h0j,joE he,jn2 he,hws];refine jc (jL e.seq 1 (y.seq-1)) (by simp only [go_sem,jb]) fun η=>?_
  simp only [go_sem,jb];cases hr:decide (1≤e.seq∧e.seq≤y.seq-1)
  ·have hb:va y=false:=jc8 fun h=>by
    have:=h.seqs.range e (by rw [hF];exact List.mem_of_getElem? he)
    simp [this] at hr
   simp only [go_sem,jb,hr,hb]
  have hr':1≤e.seq∧e.seq≤y.seq-1:=of_decide_eq_true hr;simp only [go_sem,jb,hr];refine jn (fun i:Nat=>St.of [(1,Bx 100 b),(4,Hd 4 (ηe 0)),(5,Ni j),(6,Ni i)] [(100,Bi b _ (jb y)),(4,.loose (jm F) (ηe 0))]) (fun i=>i≤j∧∀e2∈F.take i,e2.seq≠e.seq) (fun i=>j-i) 0 (by (try dsimp only);first|omega|(simp;done)|(and_intros<;>first|omega|simp)) (jg [some 100,some 4] (by simp only [go_sem,jb]<;>and_intros<;>first|rfl|assumption|trivial)) ?_
  rintro m ⟨hm,hmo⟩;by_cases hml:m<j
  ·have hml':(m:Int)<j:=by omega
   have h0m:(m:Int)≥0:=by omega
   have hml2:m<F.length:=by omega
   obtain ⟨e2,he2⟩:=je hml2;have hwm:IntKind.i64.wrap ((m:Int)+1)=((m+1:Nat):Int):=jf (by omega) (by omega)
   cases hse:e2.seq==e.seq
   ·have hse':¬e2.seq=e.seq:=by simpa using hse
    simp only [go_sem,jb,hml',hml2,h0m,hjl,h0j,joE he,jn2 he,joE he2,jn2 he2,hse,hwm];exact ⟨m+1,⟨hml,fun e3 h3=>by rw [List.take_add_one,he2] at h3;rcases List.mem_append.1 h3 with h3|h3;exact hmo e3 h3;simp at h3;subst h3;exact hse'⟩,(jg [some 100,some 4] (by simp only [go_sem,jb]<;>and_intros<;>first|rfl|assumption|trivial)),by (try dsimp only);omega⟩
   ·have hse':e2.seq=e.seq:=by simpa using hse
    have hb:va y=false:=jc8 fun h=>jtu he hml he2 hse' (by rw [←hF];exact h.seqs.apart)
    simp only [go_sem,jb,hml',hml2,h0m,hjl,h0j,joE he,jn2 he,joE he2,jn2 he2,hse,hb]
  ·have hml':¬(m:Int)<j:=by omega
   obtain rfl:m=j:=by omega
   simp only [go_sem,jb,hml',hw];exact ⟨m+1,⟨hjl,fun e2 h2=>by rw [List.take_add_one,he] at h2;rcases List.mem_append.1 h2 with h2|h2;exact hjo e2 h2;simp at h2;subst h2;exact hr',jts he hjd hmo⟩,(jg [some 100,some 4] (by simp only [go_sem,jb]<;>and_intros<;>first|rfl|assumption|trivial)),by (try dsimp only);omega⟩
 have hjl':¬(j:Int)<F.length:=by omega
 rw [List.take_of_length_le (by omega)] at hjo hjd
 have hb:va y=true:=ji1 ⟨h4',hko,by rw [hF];exact ⟨hjo,hjd⟩⟩
 simp only [go_sem,hjl',hb]
theorem qi (y:Yd) (ht:jJ y≤2000000):kj Tryz.prog 66 [.agg (jb y)] (.c (.val (.bool (jD y)))):=by
 refine jq Tryz.func66 jh1 (by simp) ?_
 unfold jfX;have hsf:=zl ht;have hrl:=jgt ht;simp only [go_sem,jb];intro b;refine jc (jL y.now 0 999999980) (by simp only [go_sem,jb]) fun η=>?_
 simp only [go_sem,jb];cases h1:decide (0≤y.now∧y.now≤999999980)
 ·have hb:jD y=false:=qF fun h=>by have:=h.now;simp [this] at h1
  simp only [go_sem,jb,h1,hb]
 have hnow:=of_decide_eq_true h1;simp only [go_sem,jb,h1];refine jc (jL y.seq 1 1000000000) (by simp only [go_sem,jb]) fun η=>?_
 simp only [go_sem,jb];cases h2:decide (1≤y.seq∧y.seq≤1000000000)
 ·have hb:jD y=false:=qF fun h=>by have:=h.seq;simp [this] at h2
  simp only [go_sem,jb,h2,hb]
 have hseq:=of_decide_eq_true h2;by_cases h8:8<y.runs.length
 ·have h8':(y.runs.length:Int)>8:=by omega
  have hb:jD y=false:=qF fun h=>by have:=h.eight;omega
  simp only [go_sem,jb,h2,h8',hb]
 have h8':¬(y.runs.length:Int)>8:=by omega
 simp only [go_sem,jb,h2,h8'];refine jc (jgE y ht hseq) (by simp only [go_sem,jb]) fun η=>?_
 simp only [go_sem,jb];cases hsh:va y
 ·have hb:jD y=false:=qF fun h=>by have:=ji1 ⟨h.four,h.shelves,h.seqs⟩;rw [hsh] at this;cases this
  simp only [go_sem,jb,hsh,hb]
 have hshP:=shelves_iff.1 hsh;simp only [go_sem,jb,hsh];refine jn (fun i:Nat=>St.of [(1,Bx 100 b),(3,Ni i)] [(100,Bi b _ (jb y))]) (fun i=>i≤y.runs.length∧∀(k:Nat) (r:Rn),k<i→y.runs[k]?=some r→RunOkP r∧runAt y r.id=k) (fun i=>y.runs.length-i) 0 (by (try dsimp only);first|omega|(simp;done)|(and_intros<;>first|omega|simp)) (jg [some 100] (by simp only [go_sem,jb]<;>and_intros<;>first|rfl|assumption|trivial)) ?_
 rintro k ⟨hk,hko⟩;by_cases hlt:k<y.runs.length
 ·have hlt':(k:Int)<y.runs.length:=by omega
  obtain ⟨r,hr⟩:=je hlt;have hw:IntKind.i64.wrap ((k:Int)+1)=((k+1:Nat):Int):=jf (by omega) (by omega)
  simp only [go_sem,jb,hlt,hlt',jV hr,jd,ja];refine jc (jcq r) (by simp only [go_sem,jb,jd,ja]) fun η=>?_
  simp only [go_sem,jb,jd,ja];cases hs:kF r
  ·have hb:jD y=false:=qF fun h=>by have:=runOk_iff.2 (h.right r (List.mem_of_getElem? hr));rw [hs] at this;cases this
   simp only [go_sem,jb,hs,hb]
  simp only [go_sem,jb,hs,hlt,hlt',jV hr,jd,ja];refine jc (qj y r.id) (by simp only [go_sem,jb]) fun η=>?_
  simp only [go_sem,jb];cases hat:runAt y r.id !=(k:Int)
  ·have hat':runAt y r.id=k:=by simpa using hat
   simp only [go_sem,jb,hat,hw];exact ⟨k+1,⟨hlt,fun k2 r2 h2 hr2=>by rcases Nat.lt_or_ge k2 k with h'|h';exact hko k2 r2 h' hr2;obtain rfl:k2=k:=(by omega);rw [hr] at hr2;cases hr2;exact ⟨runOk_iff.1 hs,hat'⟩⟩,(jg [some 100] (by simp only [go_sem,jb]<;>and_intros<;>first|rfl|assumption|trivial)),by (try dsimp only);omega⟩
  ·have hb:jD y=false:=qF fun h=>by have:=h.place k r hr;simp [this] at hat
   simp only [go_sem,jb,hat,hb]
 have hlt':¬(k:Int)<y.runs.length:=by omega
 have hall:∀(k:Nat) (r:Rn),y.runs[k]?=some r→RunOkP r∧runAt y r.id=k:=fun k r h=>hko k r (by have:=(List.getElem?_eq_some_iff.1 h).1;omega) h
 simp only [go_sem,jb,hlt'];refine jc (jbe y ht) (by simp only [go_sem,jb]) fun ηe=>?_
 simp only [go_sem,jb];generalize hF:y.shelf.flatten=F at*;refine jn (fun i:Nat=>St.of [(1,Bx 100 b),(4,Hd 4 (ηe 0)),(5,Ni i)] [(100,Bi b _ (jb y)),(4,.loose (jm F) (ηe 0))]) (fun i=>i≤y.runs.length∧∀(k:Nat) (r:Rn),k<i→y.runs[k]?=some r→joJ y r F) (fun i=>y.runs.length-i) 0 (by (try dsimp only);first|omega|(simp;done)|(and_intros<;>first|omega|simp)) (jg [some 100,some 5400] (by simp only [go_sem,jb]<;>and_intros<;>first|rfl|assumption|trivial)) ?_
 rintro j ⟨hj,hjo⟩;by_cases hjl:j<y.runs.length
 ·have hjl':(j:Int)<y.runs.length:=by omega
  obtain ⟨r,hr⟩:=je hjl;have hw:IntKind.i64.wrap ((j:Int)+1)=((j+1:Nat):Int):=jf (by omega) (by omega)
  have hrP:=(hall j r hr).1;obtain ⟨n,hn,hn1,h12,h30,hes,hnd,-,-,hwt⟩:=jcb hrP.plan;have hlen:=hrP.len;simp only [go_sem,jb,hjl,hjl',jV hr,jd,ja];refine jc (jlR y r F (by omega) (by omega) hnow hwt) (by simp only [go_sem,jb,jd,ja]) fun η=>?_
  simp only [go_sem,jb,jd,ja];cases hs:zf y r F
  ·have hb:jD y=false:=qF fun h=>by have:=jfa (h.runs r (List.mem_of_getElem? hr));rw [hF,hs] at this;cases this
   simp only [go_sem,jb,hs,hb]
  ·simp only [go_sem,jb,hs,hw]
   exact ⟨j+1,⟨hjl,fun k2 r2 h2 hr2=>by rcases Nat.lt_or_ge k2 j with h'|h';exact hjo k2 r2 h' hr2;obtain rfl:k2=j:=(by omega);rw [hr] at hr2;cases hr2;exact runIn_iff.1 hs⟩,(jg [some 100,some 4] (by simp only [go_sem,jb]<;>and_intros<;>first|rfl|assumption|trivial)),by (try dsimp only);omega⟩
 have hjl':¬(j:Int)<y.runs.length:=by omega
 simp only [go_sem,jb,hjl'];refine jc (jkd y ht) (by simp only [go_sem,jb]) fun η=>?_
 simp only [go_sem,jb]
 have hb:jD y=decide (kZ y≤40):=by
  by_cases h40:kZ y≤40
  ·rw [zu ⟨hnow,hseq,hshP.four,by omega,hshP.shelves,hshP.seqs,fun r hr=>by obtain ⟨k,hk,rfl⟩:=List.getElem_of_mem hr;exact (hall k _ (List.getElem?_eq_getElem hk)).1,fun k r hr=>(hall k r hr).2,fun r hr=>by obtain ⟨k,hk,rfl⟩:=List.getElem_of_mem hr;rw [hF];exact hjo k _ (by omega) (List.getElem?_eq_getElem hk),h40⟩]
   simp [h40]
  ·rw [qF fun h=>h40 h.slots];simp [h40]
 simp only [go_sem,hb]
theorem kI (y:Yd) (ht:jJ y≤2000000):kj Tryz.prog 18 [.agg (jb y)] (.c (.val (.bool (jD y)))):=by
 refine jq Tryz.func18 jif (by simp) ?_
 unfold jgb;have hsf:=zl ht;have hrl:=jgt ht;simp only [go_sem,jb];intro b;refine jc (jE y.now 0 999999980) (by simp only [go_sem,jb]) fun η=>?_
 simp only [go_sem,jb];cases h1:decide (0≤y.now∧y.now≤999999980)
 ·have hb:jD y=false:=qF fun h=>by have:=h.now;simp [this] at h1
  simp only [go_sem,jb,h1,hb]
 have hnow:=of_decide_eq_true h1;simp only [go_sem,jb,h1];refine jc (jE y.seq 1 1000000000) (by simp only [go_sem,jb]) fun η=>?_
 simp only [go_sem,jb];cases h2:decide (1≤y.seq∧y.seq≤1000000000)
 ·have hb:jD y=false:=qF fun h=>by have:=h.seq;simp [this] at h2
  simp only [go_sem,jb,h2,hb]
 have hseq:=of_decide_eq_true h2;have hws:IntKind.i64.wrap (y.seq-1)=y.seq-1:=jf (by omega) (by omega)
 cases h4:(y.shelf.length:Int) !=4;rotate_left
 ·have hb:jD y=false:=qF fun h=>by have:=h.four;rw [this] at h4;cases h4
  simp only [go_sem,jb,h2,h4,hb]
 have h4':y.shelf.length=4:=by have:(y.shelf.length:Int)=4:=by simpa only [bne_eq_false_iff_eq] using h4
                               omega
 by_cases h8:8<y.runs.length
 ·have h8':(y.runs.length:Int)>8:=by omega
  have hb:jD y=false:=qF fun h=>by have:=h.eight;omega
  simp only [go_sem,jb,h2,h4,h8',hb]
 have h8':¬(y.runs.length:Int)>8:=by omega
 simp only [go_sem,jb,h2,h4,h8'];refine jn (fun i:Nat=>St.of [(1,Bx 100 b),(34,Ro (ku y.shelf)),(35,Ni y.shelf.length),(36,Ni i)] [(100,Bi b _ (jb y))]) (fun i=>i≤y.shelf.length∧∀l∈y.shelf.take i,jhJ l) (fun i=>y.shelf.length-i) 0 (by (try dsimp only);first|omega|(simp;done)|(and_intros<;>first|omega|simp)) (jg [some 100] (by simp only [go_sem,jb]<;>and_intros<;>first|rfl|assumption|trivial)) ?_
 rintro k ⟨hk,hko⟩;by_cases hlt:k<y.shelf.length
 ·have hlt':(k:Int)<y.shelf.length:=by omega
  obtain ⟨l,hl⟩:=je hlt;have hlm:=List.mem_of_getElem? hl;have hw:IntKind.i64.wrap ((k:Int)+1)=((k+1:Nat):Int):=jf (by omega) (by omega)
  simp only [go_sem,jb,hlt,hlt',kO hl];refine jc (jkk l (jm3 ht hlm)) (by simp only [go_sem,jb]) fun η=>?_
  simp only [go_sem,jb];cases hs:zX l
  ·have hb:jD y=false:=qF fun h=>by have:=je7 (h.shelves l hlm);rw [hs] at this;cases this
   simp only [go_sem,jb,hs,hb]
  ·simp only [go_sem,jb,hs,hw]
   exact ⟨k+1,⟨hlt,fun l2 h2=>by rw [List.take_add_one,hl] at h2;rcases List.mem_append.1 h2 with h2|h2;exact hko l2 h2;simp at h2;subst h2;exact shelf_iff.1 hs⟩,(jg [some 100] (by simp only [go_sem,jb]<;>and_intros<;>first|rfl|assumption|trivial)),by (try dsimp only);omega⟩
 have hlt':¬(k:Int)<y.shelf.length:=by omega
 rw [List.take_of_length_le (by omega)] at hko
 simp only [go_sem,jb,hlt'];refine jc (jgG y ht) (by simp only [go_sem,jb]) fun ηe=>?_
 simp only [go_sem,jb];generalize hF:y.shelf.flatten=F at*;refine jn (fun i:Nat×js=>St.of [(1,Bx 100 b),(5,Hd 5 (ηe 0)),(6,Hd 6 i.2),(46,Hd 5 (ηe 0)),(47,Ni F.length),(48,Ni i.1)] [(100,Bi b _ (jb y)),(5,.loose (jm F) (ηe 0)),(6,.loose (jh ((F.take i.1).map (·.seq))) i.2)]) (fun i=>i.1≤F.length∧(∀e∈F.take i.1,1≤e.seq∧e.seq≤y.seq-1)∧((F.take i.1).map (·.seq)).Nodup) (fun i=>F.length-i.1) (0,jcc) (by (try dsimp only);first|omega|(simp;done)|(and_intros<;>first|omega|simp)) (jg [some 100,some 4500,none] (by simp only [go_sem,jb]<;>and_intros<;>first|rfl|assumption|trivial)) ?_
 rintro ⟨j,η6⟩ ⟨hj,hjo,hjd⟩;dsimp only at hj hjo hjd;by_cases hjl:j<F.length
 ·have hjl':(j:Int)<F.length:=by omega
  have h0j:(j:Int)≥0:=by omega
  obtain ⟨e,he⟩:=je hjl;have hw:IntKind.i64.wrap ((j:Int)+1)=((j+1:Nat):Int):=jf (by omega) (by omega)
  have hml:((F.take j).map (·.seq)).length≤2000000:=by rw [List.length_map,List.length_take];omega
  have hmt:(F.take (j+1)).map (·.seq)=(F.take j).map (·.seq)++[e.seq]:=by rw [List.take_add_one,he];simp
  generalize hM:(F.take j).map (·.seq)=M at*
  have hm1:M.length+1≤maxLen:=by unfold maxLen;omega
  have hm2:(M.length+1)*8≤140737488355328:=by omega
  simp only [go_sem,jb,hjl,hjl',h0j,jsK he,jso he,jk];intro b8;simp only [go_sem,jb,jk,hws];refine jc (jE e.seq 1 (y.seq-1)) (by simp only [go_sem,jb,jk,hws]) fun η=>?_
  simp only [go_sem,jb,jk,hws];cases hr:decide (1≤e.seq∧e.seq≤y.seq-1)
  ·have hb:jD y=false:=qF fun h=>by
    have:=h.seqs.range e (by rw [hF];exact List.mem_of_getElem? he)
    simp [this] at hr
   simp only [go_sem,jb,hr,hb]
  have hr':1≤e.seq∧e.seq≤y.seq-1:=of_decide_eq_true hr;simp only [go_sem,jb,jk,hr];refine jc (jjk M e.seq (by omega)) (by simp only [go_sem,jb,jk]) fun η=>?_
  simp only [go_sem,jb,jk];by_cases hin:e.seq∈M
  ·have hb:jD y=false:=qF fun h=>by
    rw [←hM] at hin;obtain ⟨e2,h3,h4⟩:=List.mem_map.1 hin;obtain ⟨m,hm,rfl⟩:=List.getElem_of_mem h3;have hm':m<j:=by rw [List.length_take] at hm;omega
    rw [List.getElem_take] at h4;exact jtu he hm' (List.getElem?_eq_getElem (by omega)) h4 (by rw [←hF];exact h.seqs.apart)
   simp only [go_sem,jb,jk,hin,hb]
  ·simp only [go_sem,jb,jk,hin,hm1,hm2,vg,hw]
   intro η7 η8;exact ⟨(j+1,η8),⟨hjl,fun e2 h2=>by rw [List.take_add_one,he] at h2;rcases List.mem_append.1 h2 with h2|h2;exact hjo e2 h2;simp at h2;subst h2;exact hr',jts he (by rw [hM];exact hjd) (fun e2 h2 h3=>hin (by rw [←hM];exact List.mem_map.2 ⟨e2,h2,h3⟩))⟩,(jg [some 100,some 5,some 6900] (by simp only [go_sem,jb,hmt]<;>and_intros<;>first|rfl|assumption|trivial)),by (try dsimp only);omega⟩
 have hjl':¬(j:Int)<F.length:=by omega
 rw [List.take_of_length_le (by omega)] at hjo hjd
 simp only [go_sem,jb,hjl'];refine jn (fun i:Nat=>St.of [(1,Bx 100 b),(5,Hd 5 (ηe 0)),(72,Ro (jK y.runs)),(73,Ni y.runs.length),(74,Ni i)] [(100,Bi b _ (jb y)),(5,.loose (jm F) (ηe 0))]) (fun i=>i≤y.runs.length∧∀(k:Nat) (r:Rn),k<i→y.runs[k]?=some r→RunOkP r∧runAt y r.id=k∧joJ y r F) (fun i=>y.runs.length-i) 0 (by (try dsimp only);first|omega|(simp;done)|(and_intros<;>first|omega|simp)) (jg [some 100,some 5] (by simp only [go_sem,jb]<;>and_intros<;>first|rfl|assumption|trivial)) ?_
 rintro m ⟨hm,hmo⟩;by_cases hml:m<y.runs.length
 ·have hml':(m:Int)<y.runs.length:=by omega
  obtain ⟨r,hr⟩:=je hml;have hw:IntKind.i64.wrap ((m:Int)+1)=((m+1:Nat):Int):=jf (by omega) (by omega)
  have hre:r.plan.edges.length≤4000000:=by
   have h5:=vS (tot:=qO) hr;have h6:=jal qO y.runs (m+1);have h7:vT qO y.runs≤2000000:=by simp only [jJ,ja5] at ht;omega
   have h8:r.plan.edges.length≤qO r:=by simp only [qO,jhL];omega
   omega
  simp only [go_sem,jb,hml,hml',jV hr,jd,ja];intro b10;refine jc (jhv r hre) (by simp only [go_sem,jb,jd,ja]) fun η=>?_
  simp only [go_sem,jb,jd,ja];cases hs:kF r
  ·have hb:jD y=false:=qF fun h=>by have:=runOk_iff.2 (h.right r (List.mem_of_getElem? hr));rw [hs] at this;cases this
   simp only [go_sem,jb,hs,hb]
  have hrP:=runOk_iff.1 hs;obtain ⟨n,hn,hn1,h12,h30,hes,hnd,-,-,hwt⟩:=jcb hrP.plan;have hlen:=hrP.len;simp only [go_sem,jb,hs,jd,ja];refine jc (ql y r.id) (by simp only [go_sem,jb,jd,ja]) fun η=>?_
  simp only [go_sem,jb,jd,ja];cases hat:runAt y r.id !=(m:Int);rotate_left
  ·have hb:jD y=false:=qF fun h=>by have:=h.place m r hr;simp [this] at hat
   simp only [go_sem,jb,hat,hb]
  have hat':runAt y r.id=m:=by simpa using hat
  simp only [go_sem,jb,hat,jd,ja];refine jc (jl1 y r F (by omega) (by omega) hnow hwt) (by simp only [go_sem,jb,jd,ja]) fun η=>?_
  simp only [go_sem,jb,jd,ja];cases hri:zf y r F
  ·have hb:jD y=false:=qF fun h=>by have:=jfa (h.runs r (List.mem_of_getElem? hr));rw [hF,hri] at this;cases this
   simp only [go_sem,jb,hri,hb]
  ·simp only [go_sem,jb,hri,hw]
   exact ⟨m+1,⟨hml,fun k2 r2 h2 hr2=>by rcases Nat.lt_or_ge k2 m with h'|h';exact hmo k2 r2 h' hr2;obtain rfl:k2=m:=(by omega);rw [hr] at hr2;cases hr2;exact ⟨hrP,hat',runIn_iff.1 hri⟩⟩,(jg [some 100,some 5] (by simp only [go_sem,jb]<;>and_intros<;>first|rfl|assumption|trivial)),by (try dsimp only);omega⟩
 have hml':¬(m:Int)<y.runs.length:=by omega
 have hall:∀(k:Nat) (r:Rn),y.runs[k]?=some r→RunOkP r∧runAt y r.id=k∧joJ y r F:=fun k r h=>hmo k r (by have:=(List.getElem?_eq_some_iff.1 h).1;omega) h
 simp only [go_sem,jb,hml'];refine jc (jkj y ht) (by simp only [go_sem,jb]) fun η=>?_
 simp only [go_sem,jb]
 have hb:jD y=decide (kZ y≤40):=by
  by_cases h40:kZ y≤40
  ·rw [zu ⟨hnow,hseq,h4',by omega,hko,by rw [hF];exact ⟨hjo,hjd⟩,fun r hr=>by obtain ⟨k,hk,rfl⟩:=List.getElem_of_mem hr;exact (hall k _ (List.getElem?_eq_getElem hk)).1,fun k r hr=>(hall k r hr).2.1,fun r hr=>by obtain ⟨k,hk,rfl⟩:=List.getElem_of_mem hr;rw [hF];exact (hall k _ (List.getElem?_eq_getElem hk)).2.2,h40⟩]
   simp [h40]
  ·rw [qF fun h=>h40 h.slots];simp [h40]
 simp only [go_sem,hb]
end Go.Proofs.YtcehjhiglmifjaaGreat
