/- Parts. -/
import Derived.Test.YtcehjhiglmifjaaGreatQReadY
set_option linter.all false
set_option maxHeartbeats 8000000
set_option maxRecDepth 100000
namespace Go.Proofs.YtcehjhiglmifjaaGreat
open Go.RowKit Go.Sort
noncomputable def jrn (c:List UInt8):Nat->List Int×Cu->List Int×Cu
 |0,x=>x
 |n+1,x=>let y:=jrn c n x;(y.1++[(jh c 10000 y.2).1],(jh c 10000 y.2).2)
noncomputable def jkR (c:List UInt8):List Int:=(jrn c 12 ([],(kH c (jni c)).2)).1
theorem jwE (c:List UInt8):∀(n:Nat) {x:List Int×Cu},x.2.1<=c.length->(jrn c n x).2.1<=c.length
 |0,x,h=>h
 |n+1,x,h=>jo (jwE c n h)
theorem jnW (c:List UInt8):∀(n:Nat) (x:List Int×Cu),(jrn c n x).1.length=x.1.length+n
 |0,x=>rfl
 |n+1,x=>by
  have:=jnW c n x;simp only [jrn,aOU,List.length_singleton];omega
theorem jwD (c:List UInt8):∀(n:Nat) (x:List Int×Cu),(∀v∈x.1,0<=v/\v<10000)->∀v∈(jrn c n x).1,0<=v/\v<10000
 |0,x,h=>h
 |n+1,x,h=>λv hv=>by
  rcases aOX.1 hv with hv|hv
  ·exact jwD c n x h v hv
  ·rw [aRK.1 hv]
   exact jP c (n:=10000) _ (by omega)
theorem jpF (c:List UInt8) {k:Nat} (h:k<12):∃v:Nat,(jkR c)[k]?=some (v:Int)/\v<10000:=by
 have hl:(jkR c).length=12:=by rw [jkR,jnW];rfl
 obtain ⟨v,hv⟩:=ja (show k<(jkR c).length by omega)
 have:=jwD c 12 ([],(kH c (jni c)).2) (by simp) v (aOT hv)
 exact ⟨v.toNat,by rw [hv];congr 1;omega,by omega⟩
def jb5:C:=iS [iA 2 (.mov (.c (.slice none 0 0)))] (iS [aM 6 0,iA 7 (iK 58 [6]),aM 3 7] (iS [aM 8 3,iA 9 (iK 59 [8])] (iS [iA 10 (wA1 []),aM 4 10] (.seq (iS [aN 5 0] (.blk 0 (.loop (.seq (iS [aM 11 5,aQ 12 .lss 3 11 12] (iD 12 .skip (.exit 0))) (.seq (.blk 1 (.reg [aM 15 4,aM 16 3,iA 17 (.call 60 [.t 16,oI 10000]),iA 18 (wAY [(0,1,.t 17)]),iA 19 (wA7 15 18),aM 4 19])) (.reg [aM 13 5,aQ 14 .add 3 13 1,aM 5 14])))))) (iS [aM 20 4,aM 2 20] .ret)))))
theorem jeB:fnC Tryz.prog Tryz.f13=some (jb5,[.t 2],21):=by kernel_rfl
theorem jie (c:List UInt8) (hc:c.length<=1048576):jZ Tryz.prog 13 [.c (zE c)] (.c (jc (jkR c))):=by
 refine vx [[1,1,0]] Tryz.func13 jeB (by simp) ?_
 unfold jb5;simp only [C.ghs,C.ghAt,List.foldr];simp only [go_sem];have d9:(zE c).toRo=.ro (zE c):=rfl;rw [d9];refine ku (by simp only [go_sem]) (jrP c hc _) λav o' ⟨b,g8,ho,hk⟩=>?_
 subst g8;simp only [go_sem];refine ky ?_;refine WkK.wk (s':=St.of [(3,Bx 89 b)] [(89,qo b 146 c (jni c))]) (js [800003100] (by simp only [go_sem,ho,jN]<;>trivial)) ?_
 refine WkK.of ?_;simp only [go_sem];refine jv (jep c hc (jni c) b _ (aPP _) (by simp only [go_sem])) (by simp only [go_sem]) ?_
 have s1:=jaN (c:=c) (s:=jni c) (aPP _);have hP:jkR c=(jrn c 12 ([],(kH c (jni c)).2)).1:=rfl;generalize (kH c (jni c)).2=s0 at*;intro eP;refine kh (λi:Nat×jg=>St.of [(3,Bx 89 b),(4,Hd 1000 i.2),(5,Ni i.1)] [(89,qo b 146 c (jrn c i.1 ([],s0)).2),(1000,.loose (jc (jrn c i.1 ([],s0)).1) i.2)]) (λi=>i.1<=12) (λi=>12-i.1) (0,eP) ((aPP _)) (js [89,1000] (by simp only [go_sem,jrn]<;>trivial)) ?_
 rintro ⟨i,η⟩ hi;dsimp only at hi;have fB:=jwE c i (x:=([],s0)) s1;have aC:=jnW c i ([],s0);by_cases aB:i<12;rotate_left
 ·have aA:¬(i:Int)<12:=by omega
  obtain rfl:i=12:=by omega
  rw [hP];simp only [go_sem]
 have aA:(i:Int)<12:=by omega
 have hw:=kw i;have fM:jrn c (i+1) ([],s0)=((jrn c i ([],s0)).1++[(jh c 10000 (jrn c i ([],s0)).2).1],(jh c 10000 (jrn c i ([],s0)).2).2):=rfl;generalize jrn c i ([],s0)=z at*;simp only [go_sem,aA];refine jv (kq c hc 10000 z.2 b _ fB (by simp only [go_sem])) (by simp only [go_sem]) ?_
 have dU:z.1.length+1<=maxLen:=by rw [aC];unfold maxLen;simp;omega
 have eG:(z.1.length+1)*8<=140737488355328:=by rw [aC];simp;omega
 simp only [go_sem,dU,eG,ko,hw];intro t6 mF;exact qc (i+1,mF) (js [89,1900] (by simp only [go_sem,fM]<;>trivial))
