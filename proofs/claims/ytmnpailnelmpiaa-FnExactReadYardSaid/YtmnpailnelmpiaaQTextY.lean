/- Parts. -/
import Derived.Test.YtmnpailnelmpiaaQVarP
import Derived.Test.YtmnpailnelmpiaaQYardB
set_option linter.unusedSimpArgs false
set_option linter.unusedVariables false
set_option maxHeartbeats 8000000
set_option maxRecDepth 100000
namespace Go.Proofs.Ytmnpailnelmpiaa
open Go.RowKit Go.Sort
def vP:C:=iS [iA 1 (.box 24 5 (.t 0)),iA 2 (.mov (.c (.slice none 0 0)))] (iS [iA 6 (iF 0 1),iA 7 (iL 6),iA 8 (iF 1 1),iA 9 (iL 8),iA 10 (iF 2 1),iA 11 (iL 10),iA 12 (iF 3 1),iA 13 (iL 12),iA 14 (iF 4 1),iA 15 (iL 14),iA 16 (iG 15),iA 17 (.bsl 3 1 5 [none,none,none,none,none] [(0,1,.t 7),(1,1,.t 9),(2,1,.t 11),(3,1,.t 13),(4,1,.t 16)]),iA 3 (iM 17)] (.seq (iS [iA 18 (iF 4 1),iA 19 (iL 18),iA 20 (iG 19),iA 21 (iN 0)] (.blk 0 (.loop (iS [iA 22 (iP .lss 3 21 20)] (.seq (iD 22 .skip (.exit 0)) (.seq (.blk 1 (iS [iA 23 (iI 2 19 21),iA 24 (iT 2 23),iA 5 (.alloc 103 [.int .i64 0,.int .i64 0]),iC (.st 2 [none,none] (.t 5) (.t 24))] (.reg [iA 25 (iM 3),iA 26 (iF 0 5),iA 27 (iL 26),iA 28 (iF 1 5),iA 29 (iL 28),iA 30 (.bsl 3 1 2 [none,none] [(0,1,.t 27),(1,1,.t 29)]),iA 31 (.app 3 1 8 (.t 25) (.t 30)),iA 3 (iM 31)]))) (.reg [iA 32 (iQ .add 3 21 1),iA 21 (iM 32)]))))))) (iS [iA 33 (iM 3),iA 2 (iM 33)] .ret)))
theorem jaA:fnC Try.prog Try.f93=some (vP,[.t 2],34):=by kernel_rfl
def jaO:C:=iS [iA 1 (.box 42 4 (.t 0)),iA 2 (.mov (.c (.string ⟨⟨[]⟩⟩)))] (.seq (iS [iA 12 (iT 4 1),iA 13 (.call 46 [.t 12]),iA 14 (iU 13)] (iD 14 (iS [iA 2 (.mov (.c (.string ⟨⟨[]⟩⟩)))] .ret) .skip)) (iS [iA 15 (iF 0 1),iA 16 (iL 15),iA 17 (iF 1 1),iA 18 (iL 17),iA 19 (.bsl 3 1 2 [none,none] [(0,1,.t 16),(1,1,.t 18)]),iA 3 (iM 19)] (.seq (iS [iA 20 (iF 2 1),iA 21 (iL 20),iA 22 (iG 21),iA 23 (iN 0)] (.blk 0 (.loop (iS [iA 24 (iP .lss 3 23 22)] (.seq (iD 24 .skip (.exit 0)) (.seq (.blk 1 (iS [iA 25 (iI 1 21 23),iA 26 (iL 25),iA 5 (iM 26)] (iS [iA 27 (iM 3),iA 28 (iM 5),iA 29 (iG 28),iA 30 (.bsl 3 1 1 [none] [(0,1,.t 29)]),iA 31 (.app 3 1 8 (.t 27) (.t 30)),iA 3 (iM 31)] (iS [iA 32 (iM 5),iA 33 (iG 32),iA 34 (iN 0)] (.blk 2 (.loop (iS [iA 35 (iP .lss 3 34 33)] (.seq (iD 35 .skip (.exit 2)) (.seq (.blk 3 (iS [iA 36 (iI 4 32 34),iA 37 (iT 4 36),iA 7 (.alloc 82 [.int .i64 0,.int .i64 0,.int .i64 0,.int .i64 0]),iC (.st 4 [none,none,none,none] (.t 7) (.t 37))] (.reg [iA 38 (iM 3),iA 39 (iF 0 7),iA 40 (iL 39),iA 41 (iF 1 7),iA 42 (iL 41),iA 43 (iF 2 7),iA 44 (iL 43),iA 45 (iF 3 7),iA 46 (iL 45),iA 47 (.bsl 3 1 4 [none,none,none,none] [(0,1,.t 40),(1,1,.t 42),(2,1,.t 44),(3,1,.t 46)]),iA 48 (.app 3 1 8 (.t 38) (.t 47)),iA 3 (iM 48)]))) (.reg [iA 49 (iQ .add 3 34 1),iA 34 (iM 49)])))))))))) (.reg [iA 50 (iQ .add 3 23 1),iA 23 (iM 50)]))))))) (iS [iA 51 (iM 3),iA 52 (iF 3 1),iA 53 (iL 52),iA 54 (iG 53),iA 55 (.bsl 3 1 1 [none] [(0,1,.t 54)]),iA 56 (.app 3 1 8 (.t 51) (.t 55)),iA 3 (iM 56)] (.seq (iS [iA 57 (iF 3 1),iA 58 (iL 57),iA 59 (iG 58),iA 60 (iN 0)] (.blk 4 (.loop (iS [iA 61 (iP .lss 3 60 59)] (.seq (iD 61 .skip (.exit 4)) (.seq (.blk 5 (iS [iA 62 (iI 8 58 60),iA 63 (iT 8 62),iA 9 (.alloc 78 [.int .i64 0,.int .i64 0,.int .i64 0,.int .i64 0,.int .i64 0,.slice none 0 0,.int .i64 0,.slice none 0 0]),iC (.st 8 [none,none,none,none,none,some (2,103),none,some (4,84)] (.t 9) (.t 63))] (.seq (.dreg (T.pure 0 (iA 64 (iM 3)) (T.pure 1 (iA 65 (iF 0 9)) (T.pure 2 (iA 66 (iL 65)) (T.pure 5 (iA 69 (iF 1 9)) (T.pure 6 (iA 70 (iT 5 69)) (T.alt (iA 67 (.bsl 3 1 1 [none] [(0,1,.t 66)])) [6,5,0] (T.alt (iA 68 (.app 3 1 8 (.t 64) (.t 67))) [6,5] (T.alt (iA 71 (.call 93 [.t 70])) [] (T.alt (iA 72 (.app 3 1 8 (.t 68) (.t 71))) [] (T.pure 9 (iA 3 (iM 72)) T.done) T.stop) T.stop) T.stop) T.stop))))))) (iS [iA 73 (iM 3),iA 74 (iF 6 9),iA 75 (iL 74),iA 76 (.bsl 3 1 1 [none] [(0,1,.t 75)]),iA 77 (.app 3 1 8 (.t 73) (.t 76)),iA 3 (iM 77)] (iS [iA 78 (iF 7 9),iA 79 (iL 78),iA 80 (iG 79),iA 81 (iN 0)] (.blk 6 (.loop (iS [iA 82 (iP .lss 3 81 80)] (.seq (iD 82 .skip (.exit 6)) (.seq (.blk 7 (iS [iA 83 (iI 4 79 81),iA 84 (iT 4 83),iA 11 (.alloc 84 [.int .i64 0,.int .i64 0,.int .i64 0,.int .i64 0]),iC (.st 4 [none,none,none,none] (.t 11) (.t 84))] (.reg [iA 85 (iM 3),iA 86 (iF 0 11),iA 87 (iL 86),iA 88 (iF 1 11),iA 89 (iL 88),iA 90 (iF 2 11),iA 91 (iL 90),iA 92 (iF 3 11),iA 93 (iL 92),iA 94 (.bsl 3 1 4 [none,none,none,none] [(0,1,.t 87),(1,1,.t 89),(2,1,.t 91),(3,1,.t 93)]),iA 95 (.app 3 1 8 (.t 85) (.t 94)),iA 3 (iM 95)]))) (.reg [iA 96 (iQ .add 3 81 1),iA 81 (iM 96)]))))))))))) (.reg [iA 97 (iQ .add 3 60 1),iA 60 (iM 97)]))))))) (iS [iA 98 (iM 3),iA 99 (.call 62 [.t 98]),iA 2 (iM 99)] .ret))))))
theorem jcy:fnC Try.prog Try.f47=some (jaO,[.t 2],100):=by kernel_rfl
theorem juK (a b:Int):D.sl 1 jiY [.val (.int .i64 a),.val (.int .i64 b)]=jj [a,b]:=rfl
theorem jq0 (a b c d e:Int):D.sl 1 jiY [.val (.int .i64 a),.val (.int .i64 b),.val (.int .i64 c),.val (.int .i64 d),.val (.int .i64 e)]=jj [a,b,c,d,e]:=rfl
theorem jgr (l:List Int) (a b c d:Int):D.sl 1 jiY (l.flatMap (fun n=>[iv n])++[.val (.int .i64 a),.val (.int .i64 b),.val (.int .i64 c),.val (.int .i64 d)])=jj (l++[a,b,c,d]):=by simp [jj]
theorem jnW (l m:List Int):l.flatMap (fun n=>[iv n])++m.flatMap (fun n=>[iv n])=(l++m).flatMap (fun n=>[iv n]):=List.flatMap_append.symm
def jjc (L:List Int) (p:Pl) (k:Nat):List Int:=L++[p.prio,p.most,p.wait,p.tasks,(p.edges.length:Int)]++(p.edges.take k).flatMap edI
def jm3 (L:List Int) (l:List En) (k:Nat):List Int:=L++[(l.length:Int)]++(l.take k).flatMap enI
def yI1 (y:Yd) (k:Nat):List Int:=[y.now,y.seq]++(y.shelf.take k).flatMap shI
def jnk (L:List Int) (r:Rn) (k:Nat):List Int:=L++[r.state]++(r.tasks.take k).flatMap tkI
def yI2 (L:List Int) (y:Yd) (k:Nat):List Int:=L++[(y.runs.length:Int)]++(y.runs.take k).flatMap rnI
theorem jtH (L:List Int) (l:List En):jm3 L l 0=L++[(l.length:Int)]:=by simp [jm3]
theorem yI1_0 (y:Yd):yI1 y 0=[y.now,y.seq]:=by simp [yI1]
theorem jt1 (L:List Int) (r:Rn):jnk L r 0=L++[r.state]:=by simp [jnk]
theorem yI2_0 (L:List Int) (y:Yd):yI2 L y 0=L++[(y.runs.length:Int)]:=by simp [yI2]
theorem juj {L:List Int} {p:Pl} {k:Nat} {x:Ed} (h:p.edges[k]?=some x):jjc L p (k+1)=jjc L p k++[x.src,x.dst]:=by simp only [jjc,jfh h,edI,List.append_assoc]
theorem jtG {L:List Int} {l:List En} {k:Nat} {x:En} (h:l[k]?=some x):jm3 L l (k+1)=jm3 L l k++[x.prio,x.seq,x.run,x.task]:=by simp only [jm3,jfh h,enI,List.append_assoc]
theorem jt0 {L:List Int} {r:Rn} {k:Nat} {x:Tk} (h:r.tasks[k]?=some x):jnk L r (k+1)=jnk L r k++[x.state,x.need,x.tri,x.til]:=by simp only [jnk,jfh h,tkI,List.append_assoc]
theorem yI1_s {y:Yd} {k:Nat} {l:List En} (h:y.shelf[k]?=some l):yI1 y (k+1)=jm3 (yI1 y k) l l.length:=by simp [yI1,jfh h,jm3,shI]
theorem yI2_s {L:List Int} {y:Yd} {k:Nat} {r:Rn} (h:y.runs[k]?=some r):yI2 L y (k+1)=jnk (jjc (yI2 L y k++[r.id]) r.plan r.plan.edges.length) r r.tasks.length:=by simp [yI2,jfh h,jnk,rnI,jjc,plI]
theorem jum (p:Pl):jjc [] p p.edges.length=plI p:=by simp [jjc,plI]
theorem juk (p:Pl):jjc [] p 0=[p.prio,p.most,p.wait,p.tasks,(p.edges.length:Int)]:=by simp [jjc]
theorem jul (L:List Int) (p:Pl):jjc L p p.edges.length=L++plI p:=by simp [jjc,plI]
theorem yI_e (y:Yd):yI2 (yI1 y y.shelf.length) y y.runs.length=zw y:=by simp [yI2,yI1,zw]
theorem jrZ (L:List Int) (p:Pl) (k:Nat):(jjc L p k).length≤L.length+5+2*p.edges.length:=by
 have:=zn (f:=edI) (c:=2) (L:=p.edges) (fun _ _=>Nat.le_refl 2) k
 simp only [jjc,List.length_append,List.length_cons,List.length_nil];omega
theorem jrz (L:List Int) (l:List En) (k:Nat):(jm3 L l k).length≤L.length+1+4*l.length:=by
 have:=zn (f:=enI) (c:=4) (L:=l) (fun _ _=>Nat.le_refl 4) k
 simp only [jm3,List.length_append,List.length_cons,List.length_nil];omega
theorem jrT (L:List Int) (r:Rn) (k:Nat):(jnk L r k).length≤L.length+1+4*r.tasks.length:=by
 have:=zn (f:=tkI) (c:=4) (L:=r.tasks) (fun _ _=>Nat.le_refl 4) k
 simp only [jnk,List.length_append,List.length_cons,List.length_nil];omega
theorem jte {y:Yd} (h:YardOkP y) (k:Nat):(yI1 y k).length≤1400:=by
 have:=zn (f:=shI) (c:=330) (L:=y.shelf) (fun l hl=>jqP (h.shelves l hl)) k
 have:=h.four;simp only [yI1,List.length_append,List.length_cons,List.length_nil];omega
theorem jtd {L:List Int} {y:Yd} (h:YardOkP y) (k:Nat):(yI2 L y k).length≤L.length+1000:=by
 have:=zn (f:=rnI) (c:=120) (L:=y.runs) (fun r hr=>jqR (h.right r hr)) k
 have:=h.eight;simp only [yI2,List.length_append,List.length_cons,List.length_nil];omega
theorem jb9 (p:Pl) (hb:p.edges.length≤4000000):kg Try.prog 93 [.agg (ja p)] (.c (jj (plI p))):=by
 refine jr Try.func93 jaA (by simp) ?_
 unfold vP;simp only [go_sem,ja,jq0];intro b1 η3;refine jp (fun i:Nat×jm=>St.of [(3,Hd 3 i.2),(19,Ro (jv p.edges)),(20,Ni p.edges.length),(21,Ni i.1)] [(3,.loose (jj (jjc [] p i.1)) i.2)]) (fun i=>i.1≤p.edges.length) (fun i=>p.edges.length-i.1) (0,η3) (by (try dsimp only);first|omega|(simp;done)|(and_intros<;>first|omega|simp)) (jo [some 1700] (by simp only [go_sem,ja,jq0,juk]<;>and_intros<;>first|rfl|assumption|trivial)) ?_
 rintro ⟨k,η⟩ hk;dsimp only at hk;by_cases hlt:k<p.edges.length
 ·have hlt':(k:Int)<p.edges.length:=by omega
  obtain ⟨x,hx⟩:=jg hlt;have hw:IntKind.i64.wrap ((k:Int)+1)=((k+1:Nat):Int):=ji (by omega) (by omega)
  have hnext:=juj (L:=[]) hx;have hle:=jrZ [] p k;rw [List.length_nil] at hle;generalize jjc [] p k=L at*;have h1':L.length+2≤maxLen:=by unfold maxLen;omega
  have h2':(L.length+2)*8≤140737488355328:=by omega
  simp only [go_sem,hlt,hlt',jw hx,jF,h1',h2',jdh,hw];intro b5 η30 η31;exact ⟨(k+1,η31),by (try dsimp only);first|omega|assumption|(and_intros<;>first|omega|assumption),(jo [some 3100] (by simp only [go_sem,hnext]<;>and_intros<;>first|rfl|assumption|trivial)),by (try dsimp only);omega⟩
 have hlt':¬(k:Int)<p.edges.length:=by omega
 obtain rfl:k=p.edges.length:=by omega
 simp only [go_sem,hlt',jum]
theorem je2 (y:Yd) (ht:kH y≤2000000):kg Try.prog 47 [.agg (jd y)] (.c (.val (.string (jae y)))):=by
 refine jr Try.func47 jcy (by simp) ?_
 unfold jaO;simp only [go_sem,jd];intro b1;refine jb (jca y ht) (by simp only [go_sem,jd]) fun η=>?_
 simp only [go_sem,jd];cases hok:jG y
 ·have hb:jae y=⟨⟨[]⟩⟩:=by simp [jae,hok]
  simp only [go_sem,jd,hok,hb]
 have hY:=yard_iff.1 hok;have hb:jae y=kB (zw y):=by simp [jae,hok]
 have h4:=hY.four;have h8:=hY.eight;simp only [go_sem,jd,hok,juK];intro η19;refine jp (fun i:Nat×jm=>St.of [(1,Bx 100 b1),(3,Hd 3 i.2),(21,Ro (kO y.shelf)),(22,Ni y.shelf.length),(23,Ni i.1)] [(100,Bi b1 _ (jd y)),(3,.loose (jj (yI1 y i.1)) i.2)]) (fun i=>i.1≤y.shelf.length) (fun i=>y.shelf.length-i.1) (0,η19) (by (try dsimp only);first|omega|(simp;done)|(and_intros<;>first|omega|simp)) (jo [some 100,some 1900] (by simp only [go_sem,jd,yI1_0]<;>and_intros<;>first|rfl|assumption|trivial)) ?_
 rintro ⟨k,η⟩ hk;dsimp only at hk;have hLl:=jte hY k;by_cases hlt:k<y.shelf.length
 ·have hlt':(k:Int)<y.shelf.length:=by omega
  obtain ⟨l,hl⟩:=jg hlt;have h80:=(hY.shelves l (List.mem_of_getElem? hl)).most;have hw:IntKind.i64.wrap ((k:Int)+1)=((k+1:Nat):Int):=ji (by omega) (by omega)
  have hnext:=yI1_s hl;generalize yI1 y k=L at*;have m1:L.length+1≤maxLen:=by unfold maxLen;omega
  have m2:(L.length+1)*8≤140737488355328:=by omega
  simp only [go_sem,jd,hlt,hlt',qO hl,m1,m2,kP];intro η30 η31;refine jp (fun i:Nat×jm=>St.of [(1,Bx 100 b1),(3,Hd 3 i.2),(21,Ro (kO y.shelf)),(22,Ni y.shelf.length),(23,Ni k),(32,Ro (js l)),(33,Ni l.length),(34,Ni i.1)] [(100,Bi b1 _ (jd y)),(3,.loose (jj (jm3 L l i.1)) i.2)]) (fun i=>i.1≤l.length) (fun i=>l.length-i.1) (0,η31) (by (try dsimp only);first|omega|(simp;done)|(and_intros<;>first|omega|simp)) (jo [some 100,some 3100] (by simp only [go_sem,jd,jtH]<;>and_intros<;>first|rfl|assumption|trivial)) ?_
  rintro ⟨j,ηj⟩ hj;dsimp only at hj;by_cases hjl:j<l.length
  ·have hjl':(j:Int)<l.length:=by omega
   obtain ⟨e,he⟩:=jg hjl;have hwj:IntKind.i64.wrap ((j:Int)+1)=((j+1:Nat):Int):=ji (by omega) (by omega)
   have hnj:=jtG (L:=L) he;have hMl:=jrz L l j;generalize jm3 L l j=M at*;have p1:M.length+4≤maxLen:=by unfold maxLen;omega
   have p2:(M.length+4)*8≤140737488355328:=by omega
   simp only [go_sem,jd,hjl,hjl',jD he,jk,p1,p2,jgr,hwj];intro b7 η47 η48;exact ⟨(j+1,η48),by (try dsimp only);first|omega|assumption|(and_intros<;>first|omega|assumption),(jo [some 100,some 4800] (by simp only [go_sem,jd,hnj]<;>and_intros<;>first|rfl|assumption|trivial)),by (try dsimp only);omega⟩
  have hjl':¬(j:Int)<l.length:=by omega
  obtain rfl:j=l.length:=by omega
  rw [←hnext];simp only [go_sem,jd,hjl',hw];exact ⟨(k+1,ηj),by (try dsimp only);first|omega|assumption|(and_intros<;>first|omega|assumption),(jo [some 100,some 3] (by simp only [go_sem,jd]<;>and_intros<;>first|rfl|assumption|trivial)),by (try dsimp only);omega⟩
 have hlt':¬(k:Int)<y.shelf.length:=by omega
 obtain rfl:k=y.shelf.length:=by omega
 have hye:=yI_e y;generalize yI1 y y.shelf.length=L1 at*;have m1:L1.length+1≤maxLen:=by unfold maxLen;omega
 have m2:(L1.length+1)*8≤140737488355328:=by omega
 simp only [go_sem,jd,hlt',m1,m2,kP];intro η55 η56;refine jp (fun i:Nat×jm=>St.of [(3,Hd 3 i.2),(58,Ro (kr y.runs)),(59,Ni y.runs.length),(60,Ni i.1)] [(3,.loose (jj (yI2 L1 y i.1)) i.2)]) (fun i=>i.1≤y.runs.length) (fun i=>y.runs.length-i.1) (0,η56) (by (try dsimp only);first|omega|(simp;done)|(and_intros<;>first|omega|simp)) (jo [some 5600] (by simp only [go_sem,jd,yI2_0]<;>and_intros<;>first|rfl|assumption|trivial)) ?_
 rintro ⟨m,ηm⟩ hm;dsimp only at hm;have hml2:=jtd (L:=L1) hY m;by_cases hml:m<y.runs.length
 ·have hml':(m:Int)<y.runs.length:=by omega
  obtain ⟨r,hr⟩:=jg hml;obtain ⟨n,hn,hn1,h12,h30,-⟩:=jnx (hY.right r (List.mem_of_getElem? hr)).plan;have hlen:=(hY.right r (List.mem_of_getElem? hr)).len;have hw:IntKind.i64.wrap ((m:Int)+1)=((m+1:Nat):Int):=ji (by omega) (by omega)
  have hnm:=yI2_s (L:=L1) hr;rw [jul] at hnm;generalize yI2 L1 y m=L2 at*;have hpl:=jqW h30;have q1:L2.length+1≤maxLen:=by unfold maxLen;omega
  have q2:(L2.length+1)*8≤140737488355328:=by omega
  obtain ⟨L2',hs⟩:∃L2',L2++[r.id]=L2':=⟨_,rfl⟩;have hsl:L2'.length=L2.length+1:=by rw [←hs];simp
  rw [hs] at hnm;have q3:L2'.length+(plI r.plan).length≤maxLen:=by unfold maxLen;omega
  have q4:(L2'.length+(plI r.plan).length)*8≤140737488355328:=by omega
  simp only [go_sem,hml,hml',vD hr,jc,ja,q1,q2,kP,hs];intro b9 η67 η68;obtain ⟨L3,hL3⟩:∃L3,L2'++plI r.plan=L3:=⟨_,rfl⟩;have hL3l:L3.length=L2'.length+(plI r.plan).length:=by rw [←hL3];simp
  rw [hL3] at hnm;have q5:L3.length+1≤maxLen:=by unfold maxLen;omega
  have q6:(L3.length+1)*8≤140737488355328:=by omega
  refine jb (jb9 r.plan (by omega)) (by simp only [go_sem,jc,ja,q3,q4,jnW,hL3,q5,q6,kP]) fun η=>?_
  simp only [go_sem,jc,ja,q3,q4,jnW,hL3,q5,q6,kP];intro η72 η76 η77;refine jp (fun i:Nat×jm=>St.of [(3,Hd 3 i.2),(58,Ro (kr y.runs)),(59,Ni y.runs.length),(60,Ni m),(79,Ro (km r.tasks)),(80,Ni r.tasks.length),(81,Ni i.1)] [(3,.loose (jj (jnk L3 r i.1)) i.2)]) (fun i=>i.1≤r.tasks.length) (fun i=>r.tasks.length-i.1) (0,η77) (by (try dsimp only);first|omega|(simp;done)|(and_intros<;>first|omega|simp)) (jo [some 7700] (by simp only [go_sem,jd,jt1]<;>and_intros<;>first|rfl|assumption|trivial)) ?_
  rintro ⟨j,ηj⟩ hj;dsimp only at hj;by_cases hjl:j<r.tasks.length
  ·have hjl':(j:Int)<r.tasks.length:=by omega
   obtain ⟨e,he⟩:=jg hjl;have hwj:IntKind.i64.wrap ((j:Int)+1)=((j+1:Nat):Int):=ji (by omega) (by omega)
   have hnj:=jt0 (L:=L3) he;have hMl:=jrT L3 r j;generalize jnk L3 r j=M at*;have p1:M.length+4≤maxLen:=by unfold maxLen;omega
   have p2:(M.length+4)*8≤140737488355328:=by omega
   simp only [go_sem,jd,hjl,hjl',jJ he,jn,p1,p2,jgr,hwj];intro b7 η94 η95;exact ⟨(j+1,η95),by (try dsimp only);first|omega|assumption|(and_intros<;>first|omega|assumption),(jo [some 9500] (by simp only [go_sem,hnj]<;>and_intros<;>first|rfl|assumption|trivial)),by (try dsimp only);omega⟩
  have hjl':¬(j:Int)<r.tasks.length:=by omega
  obtain rfl:j=r.tasks.length:=by omega
  rw [←hnm];simp only [go_sem,hjl',hw];exact ⟨(m+1,ηj),by (try dsimp only);first|omega|assumption|(and_intros<;>first|omega|assumption),(jo [some 3] (by simp only [go_sem,jd]<;>and_intros<;>first|rfl|assumption|trivial)),by (try dsimp only);omega⟩
 have hml':¬(m:Int)<y.runs.length:=by omega
 obtain rfl:m=y.runs.length:=by omega
 rw [hye] at hml2⊢;simp only [go_sem,hml'];refine jb (jbJ (zw y) (by omega)) (by simp only [go_sem]) fun η=>?_
 simp only [go_sem];simp only [go_sem,hb]
end Go.Proofs.Ytmnpailnelmpiaa
