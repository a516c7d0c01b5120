/- Parts. -/
import Derived.Test.YtcehjhiglmifjaaGreatQDrawB
set_option linter.all false
set_option maxHeartbeats 8000000
set_option maxRecDepth 100000
namespace Go.Proofs.YtcehjhiglmifjaaGreat
open Go.RowKit Go.Sort
noncomputable def dD (c:List UInt8):List Dd:=(vT c (6+(jo c 24 (jlc c)).1.toNat) ([],newYd,(jo c 24 (jlc c)).2)).1
theorem dD_ok (c:List UInt8):(dD c).length<=29/\(∀d∈dD c,kb d=true/\d.aLW.aLY.length<=9):=by
 have s1:=jq (c:=c) (n:=24) (s:=jlc c) (aNE _);have x1:=jN c (n:=24) (jlc c) (by omega)
 have h:=jnp (c:=c) (6+(jo c 24 (jlc c)).1.toNat) 0 (.start s1);have h1:=h.ok;have h2:=h.aLY;have h3:=h.len;exact ⟨by simp only [dD];omega,λd hd=>⟨h1 d hd,h2 d hd⟩⟩
def jcu:C:=iS [iA 2 (.mov (.c (.slice none 0 0)))] (iS [aM 6 0,iA 7 (iK 58 [6]),aM 3 7] (iS [aM 9 3,aM 10 3,iA 11 (.call 60 [.t 10,oI 24]),iA 12 (.bin .add 3 (oI 6) (.t 11)),iA 13 (iK 89 [9,12]),aM 8 13,aE 14 8 0,aE 15 8 1,iA 5 wAK,aM 4 14,wAA 5 15] (iS [aM 16 4,aM 2 16] .ret)))
theorem jfi:fnC Tryz.prog Tryz.f27=some (jcu,[.t 2],17):=by kernel_rfl
theorem jiv (c:List UInt8) (hc:c.length<=1048576):kg Tryz.prog 27 [.c (jaU c)] (.c (kv (dD c))):=by
 refine vZ [[1,1,0]] Tryz.func27 jfi (by simp) ?_
 unfold jcu;simp only [C.ghs,C.ghAt,List.foldr];simp only [go_sem];have fJ:(jaU c).toRo=.ro (jaU c):=rfl;rw [fJ];refine kL (by simp only [go_sem]) (jvz c hc _) λav o' ⟨b,lN,ho,hk⟩=>?_
 subst lN;simp only [go_sem];refine qa ?_;refine WkK.wk (s':=St.of [(3,Bx 89 b)] [(89,qo b 146 c (jlc c))]) (jy [800003100] (by simp only [go_sem,ho,jO]<;>trivial)) ?_
 refine WkK.of ?_;simp only [go_sem];refine kh (ky c hc 24 (jlc c) b _ (aNE _) (by simp only [go_sem])) (by simp only [go_sem]) ?_
 have s1:=jq (c:=c) (n:=24) (s:=jlc c) (aNE _);have x1:=jN c (n:=24) (jlc c) (by omega)
 have hD:dD c=(vT c (6+(jo c 24 (jlc c)).1.toNat) ([],newYd,(jo c 24 (jlc c)).2)).1:=rfl;generalize jo c 24 (jlc c)=q1 at*;obtain ⟨m,hm⟩:∃m:Nat,q1.1=(m:Int):=⟨q1.1.toNat,by omega⟩
 rw [show q1.1.toNat=m by omega] at hD
 have hw:IntKind.i64.wrap (6+(m:Int))=((6+m:Nat):Int):=zy;simp only [go_sem,hm,hw];refine kL (by simp only [go_sem]) (joN c hc (6+m) (by omega) q1.2 b _ s1 (by simp only [go_sem]) (by simp only [go_sem]) (by simp only [go_sem]) (by simp only [go_sem])) λav o' ⟨e,e2,e3,b5,lN,hl,hy,o2,hk⟩=>?_
 subst lN;rw [<-hD] at hl;generalize dD c=l at*;simp only [go_sem,hy,hl]
