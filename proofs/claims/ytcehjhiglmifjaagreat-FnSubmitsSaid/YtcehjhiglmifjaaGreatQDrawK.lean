/- Parts. -/
import Derived.Test.YtcehjhiglmifjaaGreatQReadY
set_option linter.all false
set_option maxHeartbeats 4000000
set_option maxRecDepth 100000
namespace Go.Proofs.YtcehjhiglmifjaaGreat
open Go.RowKit Go.Sort
noncomputable def dPl (c:List UInt8):Pl:=(jbZ c (jni c)).1
theorem jFU (c:List UInt8):jm (dPl c)=0:=jtw _ _
def jdN:C:=iS [iA 2 wAR] (iS [aM 3 0,iA 4 (iK 58 [3]),iA 5 (iK 108 [4]),wAF 2 5] .ret)
theorem jg3:fnC Tryz.prog Tryz.f43=some (jdN,[.cell 2 true 5],6):=by kernel_rfl
theorem jkV (c:List UInt8) (hc:c.length<=1048576):jZ Tryz.prog 43 [.c (zE c)] (.agg (je (dPl c))):=by
 refine vx [[1,1]] Tryz.func43 jg3 (by simp) ?_
 unfold jdN;simp only [C.ghs,C.ghAt,List.foldr];simp only [go_sem];intro b2;have d9:(zE c).toRo=.ro (zE c):=rfl;rw [d9];refine ku (by simp only [go_sem]) (jrP c hc _) λav o' ⟨b,g8,ho,hk⟩=>?_
 subst g8;have k2:=hk 200 (by decide)
 simp only [go_sem] at k2;refine zP [some 800003100,some 200] [(89,qo b 146 c (jni c)),(200,ZPl b2 49)] [Bx 89 b] (by simp only [go_sem]<;>and_intros<;>rfl) (by simp only [go_sem]<;>and_intros<;>first|rfl|(rw [ho];exact of_eq_true (jN _))|(rw [k2];exact of_eq_true (jN _))) (jqb c hc (jni c) b _ (aPP _) rfl rfl) ?_
 rintro av o2 ⟨e,g8,hx,xU,aJO,oD⟩;subst g8;have q2:=oD 200 (by decide) (by decide) (by decide)
 simp only [go_sem] at q2;change o2 86=.loose (jn (dPl c).aOI) e at xU;have hp:(jbZ c (jni c)).1=dPl c:=rfl;rw [hp];generalize dPl c=p at*;simp only [go_sem,q2,hx];refine ky ?_;refine WkK.wk (s':=St.of [(2,Bx 200 b2)] [(200,.box b2 49 [.a (.v (.int .i64 p.aOL)),.a (.v (.int .i64 p.aOQ)),.a (.v (.int .i64 p.aOP)),.a (.v (.int .i64 p.aOD)),.a (.v (e []))]),(86,.loose (jn p.aOI) e)]) (js [200,86] (by simp only [go_sem,xU,jN,jkG]<;>trivial)) ?_
 refine qx 200 4 86 (d:=jn p.aOI) (η:=e) rfl rfl rfl ?_;refine WkK.of ?_;simp only [go_sem,je]
