/- Parts. -/
import Derived.Test.YtcehjhiglmifjaaGreatQReadY
set_option linter.all false
set_option maxRecDepth 100000
namespace Go.Proofs.YtcehjhiglmifjaaGreat
open Go.RowKit Go.Sort
theorem jBM {y:Yd} (id:Int) (p:Pl):(jaS y id p).seq<=y.seq+2000:=by
 unfold jaS;split
 ·rename_i hc
  simp only [jrI,zx]
  have hp:jm p=0:=by
   refine aQM λhp=>?_
   unfold jbu at hc
   repeat' split at hc
   all_goals first|(cases hc;done)|exact hp hc|contradiction|omega
  obtain ⟨n,hn,_,cC,-⟩:=ja8 hp;have h3:(jO id p).aOD.length<=12:=by rw [jO,jbR];omega
  have h4:(qG 2 (jO id p).aOD).length<=(jO id p).aOD.length:=va _ _ _;omega
 ·omega
structure SubP (y:Yd) (p:Pl):Prop where
 code:jbu y 77 p=if kX y p=true then 0 else 7
 no:kX y p=false->jaS y 77 p=y
 at_:kX y p=true->runAt (jaS y 77 p) 77=y.aOH.length
 row:kX y p=true->(jaS y 77 p).aOH[y.aOH.length]?=some (jO 77 p)
 again:kX y p=true->jbu (jaS y 77 p) 77 p=6
 none_:jbu y 0 p=5
 bad:jbu y 78 ⟨0,0,0,0,[]⟩=1
 ok:YardOkP (jaS y 77 p)
 ready:kX y p=true->(ql (jaS y 77 p)).length=(ql y).length+(qG 2 (jO 77 p).aOD).length
theorem subs {y:Yd} (hI:YdI y) (hq:y.seq<=100000) (fF:idsLe y) {p:Pl} (hp:jm p=0):SubP y p:=by
 have aR:=qX (hI.ok (by omega))
 have eA:=jA4 (id:=77) fF hI.rns.eight (by decide)
 have aJP:=jA4 (id:=78) fF hI.rns.eight (by decide)
 have code:jbu y 77 p=if kX y p=true then 0 else 7:=by
  rw [jbu,if_neg (by simp [aR]),if_neg (by decide),if_neg (by omega),if_neg (by simp [hp])]
  cases kX y p<;>rfl
 have hZ:=hI.sub 77 p;have hzq:=jBM (y:=y) 77 p
 have sU:kX y p=true->(jaS y 77 p).aOH=y.aOH++[jO 77 p]:=λhr=>by
  rw [jaS,if_pos (by rw [code,if_pos hr])];rfl
 have bD:kX y p=true->(jaS y 77 p).aOH[y.aOH.length]?=some (jO 77 p):=λhr=>by
  rw [sU hr,aQF (aPD _)];simp
 have fB:kX y p=true->runAt (jaS y 77 p) 77=y.aOH.length:=λhr=>jnr hZ.rns.eight hZ.rns.ids (bD hr)
 refine ⟨code,λhr=>?_,fB,bD,λhr=>?_,?_,?_,hZ.ok (by omega),λhr=>?_⟩
 ·rw [jaS,if_neg (by rw [code,hr];decide)]
 ·have aCU:=qX (hZ.ok (by omega))
  rw [jbu,if_neg (by simp [aCU]),if_neg (by decide),if_pos (by rw [fB hr];omega)]
 ·rw [jbu,if_neg (by simp [aR]),if_pos (by decide)]
 ·have hm:jm ⟨0,0,0,0,[]⟩=1:=by rw [jm,if_pos (by decide)]
  rw [jbu,if_neg (by simp [aR]),if_neg (by decide),if_neg (by omega),if_pos (by rw [hm];decide),hm]
 ·have h1:=zA hZ.rns.eight hZ.rns.ids hZ.ens
  have h2:=zA hI.rns.eight hI.rns.ids hI.ens;simp only [ql];rw [h1,h2,sU hr];simp only [zd,vh,aRF,List.sum_append,aQX,List.map_nil,aRV,List.sum_nil,cS];omega
