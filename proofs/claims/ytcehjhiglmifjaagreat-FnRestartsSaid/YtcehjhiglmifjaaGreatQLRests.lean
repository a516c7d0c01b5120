/- Parts. -/
import Derived.Test.YtcehjhiglmifjaaGreatQDrawB
set_option linter.unusedSimpArgs false
set_option linter.unusedVariables false
set_option maxHeartbeats 8000000
set_option maxRecDepth 100000
namespace Go.Proofs.YtcehjhiglmifjaaGreat
open Go.RowKit Go.Sort
def jbq:C:=iS [iA 2 (iO false)] (.seq (iS [iA 6 (iM 0),iA 7 (.call 11 [.t 6])] (iD 7 (iS [iA 2 (iO true)] .ret) .skip)) (iS [iA 8 (iM 0),iA 9 (.call 12 [.t 8]),iA 3 (.alloc 27 [.int .i64 0,.int .i64 0,.slice none 0 0,.slice none 0 0]),iC (.st 4 [none,none,some (1,35),some (8,52)] (.t 3) (.t 9))] (iS [iA 10 (iT 4 3),iA 11 (.call 48 [.t 10]),iA 4 (.alloc 27 [.int .i64 0,.int .i64 0,.slice none 0 0,.slice none 0 0]),iC (.st 4 [none,none,some (1,35),some (8,52)] (.t 4) (.t 11))] (.seq (iS [iA 5 (iN 0)] (.blk 0 (.loop (.seq (iS [iA 12 (iM 5),iA 13 (iF 3 4),iA 14 (iL 13),iA 15 (iG 14),iA 16 (iP .lss 3 12 15)] (iD 16 .skip (.exit 0))) (.seq (.blk 1 (iS [iA 19 (iF 3 4),iA 20 (iL 19),iA 21 (iM 5),iA 22 (iI 8 20 21),iA 23 (iT 8 22),iA 24 (.call 47 [.t 23,.c (.int .i64 3)]),iA 25 (iG 24),iA 26 (iQ .gtr 3 25 0)] (iD 26 (iS [iA 2 (iO false)] .ret) .skip))) (.reg [iA 17 (iM 5),iA 18 (iQ .add 3 17 1),iA 5 (iM 18)])))))) (.seq (.dreg (T.pure 0 (iA 27 (iT 4 4)) (T.alt (iA 28 (.call 18 [.t 27])) [] (T.pure 2 (iA 29 (iM 28)) (T.pure 3 (iB 30 29 true (iT 4 4)) (T.pure 5 (iB 32 29 true (iT 4 4)) (T.alt (iB 31 29 true (.call 48 [.t 30])) [5] (T.alt (iB 33 29 true (.call 17 [.t 31,.t 32])) [] (T.pure 7 (iA 34 (.pick (.t 29) (.t 33) (.c (.bool false)))) (T.pure 8 (iA 35 (iM 34)) (T.pure 9 (iB 36 35 true (iT 4 4)) (T.pure 10 (iB 37 35 true (iM 0)) (T.alt (iB 38 35 true (.call 12 [.t 37])) [9] (T.alt (iB 39 35 true (.call 49 [.t 38])) [9] (T.alt (iB 40 35 true (.call 17 [.t 36,.t 39])) [] (T.pure 14 (iA 41 (.pick (.t 35) (.t 40) (.c (.bool false)))) (T.pure 15 (iA 2 (iM 41)) T.done)) T.stop) T.stop) T.stop))))) T.stop) T.stop)))) T.stop))) .ret)))))
theorem jdx:fnC Tryz.prog Tryz.f8=some (jbq,[.t 2],42):=by kernel_rfl
theorem jlZ (c:List UInt8):kj Tryz.prog 8 [.c (jaY c)] (.c (.val (.bool true))):=by
 refine jq Tryz.func8 jdx (by simp) ?_
 unfold jbq;simp only [go_sem];have hro:(jaY c).toRo=.ro (jaY c):=rfl;refine jc (jAZ c) (by simp only [go_sem,hro]) fun η0=>?_
 simp only [go_sem,hro];by_cases hbig:(1048576:Int)<(c.length:Int)
 ·simp only [go_sem,hbig]
 have hc:c.length≤1048576:=by omega
 simp only [go_sem,hbig];obtain ⟨hI,hq⟩:=dY_I c;have pD:=jcr c hc;change kj _ _ _ (.agg (jb (dY c))) at pD;generalize dY c=y at*;have hok:=hI.ok (by omega)
 have hs700:=hok.small;have ht:jJ y≤2000000:=by omega
 have hZ:=hI.rest;have hzq:=jwb hI;have hzok:=hZ.ok (by omega)
 have hz700:=hzok.small;have hzt:jJ (zG y)≤2000000:=by omega
 have hno:=jwc hI (by omega)
 have hfix:=jyM hno;have pR:=jaX y (by omega)
 have pS:=jdL y (by omega)
 have pF:=jaX (zG y) (by omega)
 rw [hfix] at pF;generalize zG y=z at*;refine jc (pD) (by simp only [go_sem,hro]) fun η1=>?_
 simp only [go_sem,hro];simp only [go_sem,jb];intro b3;refine jc (pR) (by simp only [go_sem,jb]) fun η2=>?_
 simp only [go_sem,jb];intro b4;have hrun8:=hzok.eight;refine jn (fun i:Nat=>St.of [(0,.c (.ro (jaY c))),(4,Bx 400 b4),(5,Ni i)] [(400,kq b4 tYd z.now z.seq z.shelf (η2 2) z.runs (η2 3))]) (fun i=>i≤z.runs.length) (fun i=>z.runs.length-i) 0 ((Nat.zero_le _)) (jg [some 400] (by simp only [go_sem,hro]<;>and_intros<;>first|rfl|assumption|trivial)) ?_
 rintro i hi;by_cases hlt:i<z.runs.length
 ·have hlt':(i:Int)<(z.runs.length:Int):=by omega
  have h0i:(i:Int)≥0:=by omega
  obtain ⟨r,hr⟩:=je hlt
  have htl:r.tasks.length≤2000000:=by
   obtain ⟨n,hn,_,h12,_⟩:=jcb (hzok.right r (List.mem_of_getElem? hr)).plan;have:=(hzok.right r (List.mem_of_getElem? hr)).len;omega
  have hnil:=js3 hno hr;have hw:IntKind.i64.wrap ((i:Int)+1)=((i+1:Nat):Int):=jf (by omega) (by omega)
  simp only [go_sem,hlt',hlt,h0i,Nat.add_zero,jhl hr,jcy hr,jd,ja];refine jc (kJ r 3 htl) (by simp only [go_sem,jd,ja,jag hr,jX hr,jZ hr,ke hr]) fun ηt=>?_
  simp only [go_sem,jd,ja,jag hr,jX hr,jZ hr,ke hr];rw [hnil];simp only [go_sem,jeE,List.length_nil,hw];exact ⟨i+1,by (try dsimp only);first|omega|assumption|(and_intros<;>first|omega|assumption),(jg [some 400] (by simp only [go_sem,hw]<;>and_intros<;>first|rfl|assumption|trivial)),by (try dsimp only);omega⟩
 have hlt':¬(i:Int)<(z.runs.length:Int):=by omega
 simp only [go_sem,hlt'];refine jc (kI z hzt) (by simp only [go_sem,jb]) fun ηo=>?_
 simp only [go_sem,jb];simp only [go_sem,zu hzok];refine jc (pF) (by simp only [go_sem,jb]) fun ηp=>?_
 simp only [go_sem,jb];refine jc (jeC z hzt) (by simp only [go_sem,jb]) fun ηq=>?_
 simp only [go_sem,jb];refine jc (pD) (by simp only [go_sem,hro,jb]) fun ηr=>?_
 simp only [go_sem,hro,jb];refine jc (pS) (by simp only [go_sem,jb]) fun ηs=>?_
 simp only [go_sem,jb];refine jc (jeC z hzt) (by simp only [go_sem,jb]) fun ηu=>?_
 simp only [go_sem,jb]
end Go.Proofs.YtcehjhiglmifjaaGreat
