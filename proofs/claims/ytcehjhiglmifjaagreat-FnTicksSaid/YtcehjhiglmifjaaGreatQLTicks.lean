/- Parts. -/
import Derived.Test.YtcehjhiglmifjaaGreatQTicksP
set_option linter.unusedSimpArgs false
set_option linter.unusedVariables false
set_option maxHeartbeats 16000000
set_option maxRecDepth 100000
namespace Go.Proofs.YtcehjhiglmifjaaGreat
open Go.RowKit Go.Sort
theorem jBO (c:List UInt8):(dY c).now≤26:=by
 have x1:=jR c (n:=26) (jsP c) (by omega)
 have h:=jlk c (jr c 26 (jsP c)).1.toNat (x:=([],newYd,(jr c 26 (jsP c)).2));have h0:newYd.now=0:=rfl;simp only [dY,jhW];dsimp only at h;omega
def jef:C:=iS [iA 2 (iO false)] (.seq (iS [iA 13 (iM 0),iA 14 (.call 11 [.t 13])] (iD 14 (iS [iA 2 (iO true)] .ret) .skip)) (iS [iA 15 (iM 0),iA 16 (.call 12 [.t 15]),iA 3 (.alloc 27 [.int .i64 0,.int .i64 0,.slice none 0 0,.slice none 0 0]),iC (.st 4 [none,none,some (1,35),some (8,52)] (.t 3) (.t 16))] (iS [iA 17 (iM 0),iA 18 (.call 12 [.t 17]),iA 4 (.alloc 27 [.int .i64 0,.int .i64 0,.slice none 0 0,.slice none 0 0]),iC (.st 4 [none,none,some (1,35),some (8,52)] (.t 4) (.t 18))] (iS [iA 19 (iT 4 3),iA 20 (.call 50 [.t 19]),iA 5 (iM 20)] (iS [iA 22 (iT 4 3),iA 23 (.call 51 [.t 22]),iA 21 (iM 23),iA 24 (iE 21 0),iA 25 (iE 21 1),iA 6 (.alloc 27 [.int .i64 0,.int .i64 0,.slice none 0 0,.slice none 0 0]),iC (.st 4 [none,none,some (1,35),some (8,52)] (.t 6) (.t 24)),iA 7 (iM 25)] (iS [iA 27 (iT 4 4),iA 28 (.call 52 [.t 27]),iA 26 (iM 28),iA 29 (iE 26 0),iA 30 (iE 26 1),iA 8 (.alloc 27 [.int .i64 0,.int .i64 0,.slice none 0 0,.slice none 0 0]),iC (.st 4 [none,none,some (1,35),some (8,52)] (.t 8) (.t 29)),iA 9 (iM 30)] (.seq (iS [iA 31 (iM 7),iA 32 (iQ .neq 3 31 0),iA 33 (iM 32),iB 34 33 false (iT 4 6),iB 35 33 false (iT 4 8),iB 36 33 false (.call 17 [.t 34,.t 35]),iB 37 33 false (iU 36),iA 38 (.pick (.t 33) (.c (.bool true)) (.t 37)),iA 39 (iM 38),iB 40 39 false (iF 0 6),iB 41 39 false (iL 40),iB 42 39 false (iF 0 4),iB 43 39 false (iL 42),iB 44 39 false (iQ .add 3 43 1),iB 45 39 false (iP .neq 3 41 44),iA 46 (.pick (.t 39) (.c (.bool true)) (.t 45)),iA 47 (iM 46),iB 48 47 false (iT 4 6),iB 49 47 false (.call 18 [.t 48]),iB 50 47 false (iU 49),iA 51 (.pick (.t 47) (.c (.bool true)) (.t 50))] (iD 51 (iS [iA 2 (iO false)] .ret) .skip)) (.seq (iS [iA 10 (iN 0)] (.blk 0 (.loop (.seq (iS [iA 52 (iM 10),iA 53 (iM 5),iA 54 (iG 53),iA 55 (iP .lss 3 52 54)] (iD 55 .skip (.exit 0))) (.seq (.blk 1 (.seq (.dreg (T.pure 0 (iA 58 (iT 4 6)) (T.pure 1 (iA 59 (iM 5)) (T.pure 2 (iA 60 (iM 10)) (T.pure 3 (iA 61 (iI 1 59 60)) (T.pure 4 (iA 62 (iL 61)) (T.pure 5 (iA 63 (.ia 1 (.t 62) (.c (.int .i64 0)))) (T.pure 6 (iA 64 (iL 63)) (T.pure 7 (iA 65 (iM 5)) (T.pure 8 (iA 66 (iM 10)) (T.pure 9 (iA 67 (iI 1 65 66)) (T.pure 10 (iA 68 (iL 67)) (T.pure 11 (iA 69 (.ia 1 (.t 68) (.c (.int .i64 1)))) (T.pure 12 (iA 70 (iL 69)) (T.pure 13 (iA 71 (iM 5)) (T.pure 14 (iA 72 (iM 10)) (T.pure 15 (iA 73 (iI 1 71 72)) (T.pure 16 (iA 74 (iL 73)) (T.pure 17 (iA 75 (.ia 1 (.t 74) (.c (.int .i64 2)))) (T.pure 18 (iA 76 (iL 75)) (T.alt (iA 77 (.call 53 [.t 58,.t 64,.t 70,.t 76])) [] (T.pure 20 (iA 78 (iM 77)) (T.pure 21 (iB 79 78 false (iT 4 3)) (T.pure 22 (iB 80 78 false (iM 5)) (T.pure 23 (iB 81 78 false (iM 10)) (T.pure 24 (iB 82 78 false (iI 1 80 81)) (T.pure 25 (iB 83 78 false (iL 82)) (T.pure 26 (iB 84 78 false (.ia 1 (.t 83) (.c (.int .i64 0)))) (T.pure 27 (iB 85 78 false (iL 84)) (T.pure 28 (iB 86 78 false (iM 5)) (T.pure 29 (iB 87 78 false (iM 10)) (T.pure 30 (iB 88 78 false (iI 1 86 87)) (T.pure 31 (iB 89 78 false (iL 88)) (T.pure 32 (iB 90 78 false (.ia 1 (.t 89) (.c (.int .i64 1)))) (T.pure 33 (iB 91 78 false (iL 90)) (T.pure 34 (iB 92 78 false (iM 5)) (T.pure 35 (iB 93 78 false (iM 10)) (T.pure 36 (iB 94 78 false (iI 1 92 93)) (T.pure 37 (iB 95 78 false (iL 94)) (T.pure 38 (iB 96 78 false (.ia 1 (.t 95) (.c (.int .i64 2)))) (T.pure 39 (iB 97 78 false (iL 96)) (T.alt (iB 98 78 false (.call 53 [.t 79,.t 85,.t 91,.t 97])) [] (T.pure 41 (iB 99 78 false (iU 98)) (T.pure 42 (iA 100 (.pick (.t 78) (.c (.bool true)) (.t 99))) T.done)) T.stop))))))))))))))))))))) T.stop))))))))))))))))))))) (iD 100 (iS [iA 2 (iO false)] .ret) .skip))) (.reg [iA 56 (iM 10),iA 57 (iQ .add 3 56 1),iA 10 (iM 57)])))))) (.seq (iS [iA 11 (iN 0)] (.blk 2 (.loop (.seq (iS [iA 101 (iM 11),iA 102 (iQ .lss 3 101 20)] (iD 102 .skip (.exit 2))) (.seq (.blk 3 (.reg [iA 106 (iT 4 6),iA 107 (.call 51 [.t 106]),iA 105 (iM 107),iA 108 (iE 105 0),iA 109 (iE 105 1),iC (.st 4 [none,none,some (1,35),some (8,52)] (.t 6) (.t 108))])) (.reg [iA 103 (iM 11),iA 104 (iQ .add 3 103 1),iA 11 (iM 104)])))))) (.seq (iS [iA 12 (iN 0)] (.blk 4 (.loop (.seq (iS [iA 110 (iM 12),iA 111 (iF 3 6),iA 112 (iL 111),iA 113 (iG 112),iA 114 (iP .lss 3 110 113)] (iD 114 .skip (.exit 4))) (.seq (.blk 5 (iS [iA 117 (iF 3 6),iA 118 (iL 117),iA 119 (iM 12),iA 120 (iI 8 118 119),iA 121 (iT 8 120),iA 122 (.call 47 [.t 121,.c (.int .i64 3)]),iA 123 (iG 122),iA 124 (iQ .gtr 3 123 0)] (iD 124 (iS [iA 2 (iO false)] .ret) .skip))) (.reg [iA 115 (iM 12),iA 116 (iQ .add 3 115 1),iA 12 (iM 116)])))))) (iS [iA 125 (iM 5),iA 126 (iG 125),iA 127 (iT 4 4),iA 128 (.call 54 [.t 127]),iA 129 (iG 128),iA 130 (iP .eql 3 126 129),iA 2 (iM 130)] .ret)))))))))))
theorem jg8:fnC Tryz.prog Tryz.f9=some (jef,[.t 2],131):=by kernel_rfl
theorem jrX (c:List UInt8):kj Tryz.prog 9 [.c (jaY c)] (.c (.val (.bool true))):=by
 refine jq Tryz.func9 jg8 (by simp) ?_
 unfold jef;simp only [go_sem];have hro:(jaY c).toRo=.ro (jaY c):=rfl;refine jc (jAZ c) (by simp only [go_sem,hro]) fun η0=>?_
 simp only [go_sem,hro];by_cases hbig:(1048576:Int)<(c.length:Int)
 ·simp only [go_sem,hbig]
 have hc:c.length≤1048576:=by omega
 simp only [go_sem,hbig];obtain ⟨hI,hq⟩:=dY_I c;have hnow:=jBO c;have pD:=jcr c hc;change kj _ _ _ (.agg (jb (dY c))) at pD;generalize dY c=y at*;have hok:=hI.ok (by omega)
 have hs700:=hok.small;have ht:jJ y≤2000000:=by omega
 have hn0:=hI.now.1;have htc:=js4 hI (by omega) (by omega)
 have hZ:=hI.tick;have hzq:=jp0 hI;have hzok:=hZ.ok (by omega)
 have hz700:=hzok.small;have hzt:jJ (vE y)≤2000000:=by omega
 have hznow:(vE y).now=y.now+1:=by rw [jly htc]
 have hlate:∀l∈kv y,_:=fun l hl=>jsh hI htc hl
 have hN:=joT hZ (by omega) (by omega)
 have hno:=jvG hZ (by omega) (by omega)
 have pT:=jeD y (by omega)
 have pS:=jjf y (by omega)
 rw [htc] at pT pS;have h96:=jmf hok;have hw0:IntKind.i64.wrap (y.now+1)=y.now+1:=jf (by omega) (by omega)
 refine jc (pD) (by simp only [go_sem,hro]) fun η1=>?_
 simp only [go_sem,hro];simp only [go_sem,jb];intro b3;refine jc (pD) (by simp only [go_sem,hro]) fun η2=>?_
 simp only [go_sem,hro];simp only [go_sem,jb];intro b4;refine jc (jfe y ht (je1 hok)) (by simp only [go_sem,jb]) fun ηl=>?_
 simp only [go_sem,jb];generalize hz:vE y=z at*;refine jc (pT) (by simp only [go_sem,jb]) fun η3=>?_
 simp only [go_sem,jb];intro b6;refine jc (pS) (by simp only [go_sem,jb,bne_self_eq_false]) fun η4=>?_
 simp only [go_sem,jb,bne_self_eq_false];intro b8;refine jc (jeC z hzt) (by simp only [go_sem,jb]) fun ηa=>?_
 simp only [go_sem,jb];simp only [go_sem,hznow,hw0,bne_self_eq_false];refine jc (kI z hzt) (by simp only [go_sem,jb,hznow]) fun ηb=>?_
 simp only [go_sem,jb,hznow];simp only [go_sem,zu hzok];have hyn:∀n,n≤20→YardOkP (zN n z):=fun n hn=>(hN n (by omega)).1.ok (by have:=(hN n (by omega)).2.1;omega)
 generalize hLL:kv y=LL at*;refine jn (fun i:Nat=>St.of [(3,Bx 300 b3),(4,Bx 400 b4),(5,Hd 2000 (ηl 0)),(6,Bx 600 b6),(10,Ni i)] [(300,kq b3 tYd y.now y.seq y.shelf (η1 2) y.runs (η1 3)),(400,kq b4 tYd y.now y.seq y.shelf (η2 2) y.runs (η2 3)),(600,kq b6 tYd z.now z.seq z.shelf (η3 2) z.runs (η3 3)),(2000,.loose (qp LL) (ηl 0))]) (fun i=>i≤LL.length) (fun i=>LL.length-i) 0 ((Nat.zero_le _)) (jg [some 300,some 400,some 600,some 2000] (by simp only [go_sem,hznow]<;>and_intros<;>first|rfl|assumption|trivial)) ?_
 rintro i hi;by_cases hlt:i<LL.length
 ·have hlt':(i:Int)<(LL.length:Int):=by omega
  have h0i:(i:Int)≥0:=by omega
  obtain ⟨l,hl⟩:=je hlt;obtain ⟨u,v,w,rfl,g1,g2⟩:=hlate l (List.mem_of_getElem? hl);have hw:IntKind.i64.wrap ((i:Int)+1)=((i+1:Nat):Int):=jf (by omega) (by omega)
  simp only [go_sem,hlt',hlt,h0i,Nat.mul_one,joB hl,jn0 hl,jjv hl];refine jc (zH z u v w) (by simp only [go_sem,jb]) fun ηh=>?_
  simp only [go_sem,jb];simp only [go_sem,g2,hlt',hlt,h0i,Nat.mul_one,joB hl,jn0 hl,jjv hl];refine jc (zH y u v w) (by simp only [go_sem,jb]) fun ηi=>?_
  simp only [go_sem,jb];simp only [go_sem,g1,hw];exact ⟨i+1,by (try dsimp only);first|omega|assumption|(and_intros<;>first|omega|assumption),(jg [some 300,some 400,some 600,some 2000] (by simp only [go_sem,hw]<;>and_intros<;>first|rfl|assumption|trivial)),by (try dsimp only);omega⟩
 have hlt':¬(i:Int)<(LL.length:Int):=by omega
 simp only [go_sem,hlt'];refine jn (fun i:Nat×js×js=>St.of [(4,Bx 400 b4),(5,Hd 2000 (ηl 0)),(6,Bx 600 b6),(11,Ni i.1)] [(400,kq b4 tYd y.now y.seq y.shelf (η2 2) y.runs (η2 3)),(600,kq b6 tYd (zN i.1 z).now (zN i.1 z).seq (zN i.1 z).shelf i.2.1 (zN i.1 z).runs i.2.2),(2000,.loose (qp LL) (ηl 0))]) (fun i=>i.1≤20) (fun i=>20-i.1) (0,η3 2,η3 3) ((Nat.zero_le _)) (jg [some 400,some 600,some 2000] (by simp only [go_sem,zN]<;>and_intros<;>first|rfl|assumption|trivial)) ?_
 rintro ⟨j,f2,f3⟩ hj;dsimp only at hj;by_cases hjt:j<20
 ·have hjt':(j:Int)<20:=by omega
  have hw:IntKind.i64.wrap ((j:Int)+1)=((j+1:Nat):Int):=jf (by omega) (by omega)
  have hoj:=(hyn j hj).small;have hs:zN (j+1) z=vE (zN j z):=rfl;generalize zN j z=zj at*;simp only [go_sem,hjt'];refine jc (jeD zj (by omega)) (by simp only [go_sem,jb]) fun ηt=>?_
  simp only [go_sem,jb];simp only [go_sem,hw];exact ⟨(j+1,ηt 2,ηt 3),by (try dsimp only);first|omega|assumption|(and_intros<;>first|omega|assumption),(jg [some 400,some 600,some 2000] (by simp only [go_sem,hw,hs]<;>and_intros<;>first|rfl|assumption|trivial)),by (try dsimp only);omega⟩
 have hjt':¬(j:Int)<20:=by omega
 obtain rfl:j=20:=by omega
 have hz20:=hyn 20 (Nat.le_refl _);generalize zN 20 z=q at*;have hrun8:=hz20.eight;simp only [go_sem,hjt'];refine jn (fun i:Nat=>St.of [(4,Bx 400 b4),(5,Hd 2000 (ηl 0)),(6,Bx 600 b6),(12,Ni i)] [(400,kq b4 tYd y.now y.seq y.shelf (η2 2) y.runs (η2 3)),(600,kq b6 tYd q.now q.seq q.shelf f2 q.runs f3),(2000,.loose (qp LL) (ηl 0))]) (fun i=>i≤q.runs.length) (fun i=>q.runs.length-i) 0 ((Nat.zero_le _)) (jg [some 400,some 600,some 2000] (by simp only [go_sem]<;>and_intros<;>first|rfl|assumption|trivial)) ?_
 rintro k hk;by_cases hkt:k<q.runs.length
 ·have hkt':(k:Int)<(q.runs.length:Int):=by omega
  have h0k:(k:Int)≥0:=by omega
  obtain ⟨r,hr⟩:=je hkt
  have htl:r.tasks.length≤2000000:=by
   obtain ⟨n,hn,_,h12,_⟩:=jcb (hz20.right r (List.mem_of_getElem? hr)).plan;have:=(hz20.right r (List.mem_of_getElem? hr)).len;omega
  have hnil:=js3 hno hr;have hw:IntKind.i64.wrap ((k:Int)+1)=((k+1:Nat):Int):=jf (by omega) (by omega)
  simp only [go_sem,hkt',hkt,h0k,Nat.add_zero,jhl hr,jcy hr,jd,ja];refine jc (kJ r 3 htl) (by simp only [go_sem,jd,ja,jag hr,jX hr,jZ hr,ke hr]) fun ηu=>?_
  simp only [go_sem,jd,ja,jag hr,jX hr,jZ hr,ke hr];rw [hnil];simp only [go_sem,jeE,List.length_nil,hw];exact ⟨k+1,by (try dsimp only);first|omega|assumption|(and_intros<;>first|omega|assumption),(jg [some 400,some 600,some 2000] (by simp only [go_sem,hw]<;>and_intros<;>first|rfl|assumption|trivial)),by (try dsimp only);omega⟩
 have hkt':¬(k:Int)<(q.runs.length:Int):=by omega
 simp only [go_sem,hkt'];have pL:=jfd y ht (je1 hok);rw [hLL] at pL;refine jc (pL) (by simp only [go_sem,jb,beq_self_eq_true]) fun ηv=>?_
 simp only [go_sem,jb,beq_self_eq_true]
end Go.Proofs.YtcehjhiglmifjaaGreat
