/- Parts. -/
import Derived.Test.YtcehjhiglmifjaaGreatQReadM
import Derived.Test.YtcehjhiglmifjaaGreatQSame2
import Derived.Test.YtcehjhiglmifjaaGreatQTextsP
set_option linter.all false
set_option maxHeartbeats 8000000
set_option maxRecDepth 100000
namespace Go.Proofs.YtcehjhiglmifjaaGreat
open Go.RowKit Go.Sort
theorem jDm (c:List UInt8):prioI (dY c):=jlt c _ .new (λe he=>by simp [newYd] at he)
theorem jyx {y:Yd} (hI:YdI y) (hp:prioI y) (hq:y.seq<=1000000000):jjq (qh y) y:=by
 have aR:=hI.ok hq;exact ⟨aR,jBz hI hp hq,by rw [qh,if_pos (qX aR)]⟩
theorem jkZ (x y:Yd):jZ Tryz.prog 41 [.agg (jb x),.agg (jb y)] (.c (.val (.bool (decide (x=y))))):=jpB ⟨_,Tryz.func41,by kernel_rfl,by kernel_rfl⟩ λw a b ⟨S,ha⟩ ⟨S',hb⟩=>jrR x y a b S S' w false false ha hb
def jfn:C:=iS [aO 2 false] (.seq (iS [aM 12 0,iA 13 (iK 11 [12])] (iD 13 (iS [aO 2 true] .ret) .skip)) (iS [aM 14 0,iA 15 (iK 12 [14]),iA 3 wAL,wAA 3 15] (iS [aM 16 0,iA 17 (iK 12 [16]),iA 4 wAL,wAA 4 17] (iS [aT 18 4 3,iA 19 (iK 39 [18]),aM 5 19] (iS [aM 21 5,iA 22 (iK 40 [21]),aM 20 22,aE 23 20 0,aE 24 20 1,iA 6 wAL,wAA 6 23,aM 7 24] (iS [aM 26 5,iA 27 (.bin .add 9 (.t 26) (.c (.string ⟨⟨[0]⟩⟩))),iA 28 (iK 40 [27]),aM 25 28,aE 29 25 0,aE 30 25 1,iA 8 wAL,wAA 8 29,aM 9 30] (iS [aM 32 5,aM 33 5,iA 34 (.len true (.t 33)),aQ 35 .sub 3 34 1,iA 36 (.sl 0 (.t 32) none (some (.t 35))),iA 37 (iK 40 [36]),aM 31 37,aE 38 31 0,aE 39 31 1,iA 10 wAL,wAA 10 38,aM 11 39] (iS [aM 40 7,aM 41 40,iB 42 41 true (iM 9),iB 43 41 true (iU 42),iA 44 (iY 41 (.t 43) (oF)),aM 45 44,iB 46 45 true (iM 11),iB 47 45 true (iU 46),iA 48 (iY 45 (.t 47) (oF)),aM 49 48,iB 50 49 true (iT 4 6),iB 51 49 true (iT 4 4),iB 52 49 true (iK 17 [50,51]),iA 53 (iY 49 (.t 52) (oF)),aM 54 53,iB 55 54 true (iT 4 6),iB 56 54 true (iT 4 3),iB 57 54 true (iK 41 [55,56]),iA 58 (iY 54 (.t 57) (oF)),aM 59 58,iB 60 59 true (iM 5),iB 61 59 true (iT 4 4),iB 62 59 true (iK 42 [61]),iB 63 59 true (iP .eql 9 60 62),iA 64 (iY 59 (.t 63) (oF)),aM 2 64] .ret))))))))
theorem jiM:fnC Tryz.prog Tryz.f6=some (jfn,[.t 2],65):=by kernel_rfl
theorem jut (c:List UInt8):jZ Tryz.prog 6 [.c (zE c)] (.c (.val (.bool true))):=by
 refine pf_ jiM ?_;unfold jfn;simp only [go_sem];have d9:(zE c).toRo=.ro (zE c):=rfl;refine jw (jCy c) (by simp only [go_sem,d9]) λeP=>?_
 simp only [go_sem,d9];by_cases gZ:(1048576:Int)<(c.length:Int)
 ·simp only [go_sem,gZ]
 have hc:c.length<=1048576:=by omega
 simp only [go_sem,gZ];obtain ⟨hI,hq⟩:=dY_I c;have xR:=jDm c;have pD:=jaX c hc;change jZ _ _ _ (.agg (jb (dY c))) at pD;generalize dY c=y at*;have aR:=hI.ok (by omega)
 have sS:=aR.small;have ht:jB y<=2000000:=by omega
 have hO:=jyx hI xR (by omega)
 have cR:=jyy y;obtain ⟨-,hz⟩:=jzv hO;have hR:=jyz hO;have pR:=jav (qh y) (by omega)
 rw [hR] at pR
 have x8:(jko (qh y++⟨⟨[0]⟩⟩)).2=false:=jsi (by
  rintro ⟨y2,h2⟩;exact jo6 (b:=0) hO h2 (by simp))
 have yC:(jko ((qh y).extract 0 ((qh y).size-1))).2=false:=jsi (by
  rintro ⟨y2,h2⟩;have hl:(qh y).data.toList.length=(qh y).size:=by rw [aRM];rfl
  have e:((qh y).extract 0 ((qh y).size-1)).data.toList=(qh y).data.toList.dropLast:=by
   rw [ByteArray.data_extract,Array.toList_extract,List.extract_eq_take_drop,List.drop_zero,Nat.sub_zero,List.dropLast_eq_take,hl]
  have aK:(qh y).data.toList≠ []:=λh=>by rw [h] at hl;exact hz hl.symm
  exact jo6 (b:=(qh y).data.toList.getLast aK) h2 hO (by rw [e];exact List.dropLast_concat_getLast aK))
 have pM:=jav (qh y++⟨⟨[0]⟩⟩) (by rw [ByteArray.size_append];have:ByteArray.size ⟨⟨[0]⟩⟩=1:=rfl;omega)
 have pL:=jav ((qh y).extract 0 ((qh y).size-1)) (by rw [ByteArray.size_extract];omega)
 rw [x8] at pM;rw [yC] at pL;have pS:=jkZ y y;rw [show decide (y=y)=true from decide_eq_true rfl] at pS
 generalize (jko (qh y++⟨⟨[0]⟩⟩)).1=ym at*;generalize (jko ((qh y).extract 0 ((qh y).size-1))).1=yl at*;have hw:IntKind.i64.wrap (((qh y).size:Int)-1)=(((qh y).size-1:Nat):Int):=by rw [kU (by omega) (by omega)];omega
 have hk:(qh y).size-1<=(qh y).size:=by omega
 refine jw (pD) (by simp only [go_sem,d9]) λdF=>?_
 simp only [go_sem,d9];simp only [go_sem,jb];intro b3;refine jw (pD) (by simp only [go_sem,d9]) λaS=>?_
 simp only [go_sem,d9];simp only [go_sem,jb];intro b4;refine jk (jdl y ht) λbY=>?_
 simp only [go_sem];refine jk pR λeO=>?_
 simp only [go_sem,jb];intro b6;refine ⟨by show (qh y).size+1<=maxLen;unfold maxLen;omega,?_⟩
 refine jk pM λbR=>?_
 simp only [go_sem,jb];intro b8;have h0w:(0:Int)<=(((qh y).size-1:Nat):Int):=by omega
 simp only [go_sem,hw,hk,h0w,aPB];refine jk pL λwX=>?_
 simp only [go_sem,jb];intro b10;refine jk (vW y ht) λbK=>?_
 simp only [go_sem];refine jk pS λmA=>?_
 simp only [go_sem];refine jk (jkS y ht) λsM=>?_
 simp only [go_sem];simp only [go_sem,aQD]
