/- Parts. -/
import Derived.Test.YtcehjhiglmifjaaGreatQDoA
import Derived.Test.YtcehjhiglmifjaaGreatQDrawB
set_option linter.all false
set_option maxRecDepth 100000
namespace Go.Proofs.YtcehjhiglmifjaaGreat
open Go.RowKit Go.Sort
theorem do_no {y:Yd} {d:Dd} (hy:jw y=true) (hd:kb d=true) (h0:(doQ y d).code≠0) (h9:(doQ y d).code≠9):doY y d=y:=by
 have hn:¬kb d=false:=by simp [hd]
 unfold doQ at h0 h9;unfold doY;rw [if_neg hn] at h0 h9⊢;by_cases k1:d.aMD=1
 ·rw [if_pos k1] at h0 h9⊢
  rw [jcL,if_neg h0]
 rw [if_neg k1] at h0 h9⊢;by_cases k2:d.aMD=2
 ·rw [if_pos k2] at h0 h9⊢
  unfold ja5 at h0 h9;by_cases hk:jan y d.aLZ d.aMB=0
  ·exfalso
   rw [if_neg (by simp [hk])] at h0
   split at h0<;>exact h0 rfl
  ·rw [if_pos hk] at h0 h9
   dsimp only at h0 h9;unfold jan at h0 h9;unfold qj;rw [if_neg (by simp [hy])] at h0 h9
   by_cases hw:0<=d.aLZ/\d.aLZ<=99
   ·exfalso
    rw [if_neg (by simp [hw])] at h0 h9
    split at h9
    ·exact h9 rfl
    ·rename_i g;rw [if_neg g] at h0;exact h0 rfl
   ·rw [if_pos (.inr hw)]
 rw [if_neg k2] at h0 h9⊢;by_cases k3:d.aMD=3
 ·rw [if_pos k3] at h0 h9⊢
  rw [qz,if_neg h0]
 rw [if_neg k3] at h0 h9⊢;by_cases k4:d.aMD=4
 ·rw [if_pos k4] at h0 h9⊢
  rw [vp,if_neg h0]
 rw [if_neg k4] at h0 h9⊢;by_cases k5:d.aMD=5
 ·rw [if_pos k5] at h0 h9⊢
  rw [jaE,if_neg h0]
 rw [if_neg k5] at h0 h9⊢;by_cases k6:d.aMD=6
 ·rw [if_pos k6] at h0 h9⊢
  rw [jX,if_neg h0]
 rw [if_neg k6] at h0 h9⊢;by_cases k7:d.aMD=7
 ·rw [if_pos k7] at h0 h9⊢
  rw [vH,if_neg h0]
 rw [if_neg k7] at h0 h9⊢;rw [if_pos hy] at h0;exact absurd rfl h0
theorem jCX:∀(l:List Dd) {y:Yd},YdI y->YdI (doF y l)/\(doF y l).seq<=y.seq+2000*l.length
 |[],y,h=>⟨h,by simp [doF]⟩
 |d::l,y,h=>by
  obtain ⟨h1,h2⟩:=jCX l (h.do d);have h3:=jyG h d;refine ⟨h1,?_⟩;change (doF (doY y d) l).seq<=_;rw [aNG];push_cast;omega
theorem jAI (y:Yd) (l m:List Dd):doF y (l++m)=doF (doF y l) m:=by simp [doF]
theorem jAG (y:Yd) (l:List Dd) (k:Nat):doF (doF y (l.take k)) (l.drop k)=doF y l:=by rw [<-jAI,aNW]
