/- Parts. -/
import Derived.Test.YtekegiiikglhbaaGreatQData
set_option linter.all false
set_option maxHeartbeats 1000000
namespace Go.Proofs.YtekegiiikglhbaaGreat
open Go.RowKit Go.Sort Go.BigFrame
theorem job (x y:Ed) (a b:Value) (S S':List Nat) (w:World) (own own':Bool) (ha:AggRep w own (jy x) a S) (Z:AggRep w own' (jy y) b S'):
 Calls Tryz.prog 138 #[a,b] w λe w'=>e=.returned (.bool (decide (x=y)))/\Below w.heap.size w w':=by
 obtain ⟨_,rfl,ha⟩:=ha;obtain ⟨_,rfl,Z⟩:=Z;obtain ⟨rfl,rfl⟩:=qN ha;obtain ⟨rfl,rfl⟩:=qN Z;clear ha Z;obtain ⟨xsrc,xdst⟩:=x;obtain ⟨ysrc,ydst⟩:=y
 go_enter Tryz.func138,Tryz.ntmps138
 go_wp2
 all_goals go_ret
 all_goals refine ⟨?_,(by repeat (first|exact Below.refl _ _|assumption|refine Below.alloc ?_ (by simp;try omega) _|refine jB ?_ (by assumption)))⟩
 all_goals simp_all
theorem jl5 (l m:List (Ed)) (a b:Value) (S S':List Nat) (w:World) (own own':Bool) (ha:Rep w own (jL l) a S) (Z:Rep w own' (jL m) b S'):
 Calls Tryz.prog 133 #[a,b] w λe w'=>e=.returned (.bool (decide (l=m)))/\Below w.heap.size w w':=by
 obtain ⟨A,c,rfl,bK,bI,aV⟩:=Rep.open_ (size:=2) (enc:=jy) (λ_=>rfl) (by decide) ha
 obtain ⟨B,d,rfl,gI,dQ,bX⟩:=Rep.open_ (size:=2) (enc:=jy) (λ_=>rfl) (by decide) Z
 unfold maxLen at bI dQ;have dO:l.length<=9223372036854775807:=by omega
 have lG:m.length<=9223372036854775807:=by omega
 clear ha Z;by_cases aJ:l.length=m.length
 ·have HL:=Lib.hid aJ
  have a7:((l.length:Int) !=(m.length:Int))=false:=by rw [aJ];simp
  clear aJ
  go_enter Tryz.func133,Tryz.ntmps133
  go_wp2
  go_loopw [5] (λi wr=>∃k:Nat,k<=l.length/\i=.int .i64 k/\l.take k=m.take k/\Below w.heap.size w wr) (λi _=>l.length-(intOf i).toNat)
  case atStart=>exact ⟨0,by omega,rfl,rfl,Below.refl _ _⟩
  case round=>
   obtain ⟨k,hk,rfl,cV,aB⟩:=hrel;have HQ:=Lib.hid cV;clear cV;by_cases aC:k<l.length
   ·have aA:k<m.length:=by have:=HL.out;omega
    obtain ⟨x,hx⟩:=jd aC;obtain ⟨y,hy⟩:=jd aA;obtain ⟨b1,o1,vk1,T1,rfl,-,aX,-,-,aH,aK⟩:=aV k x hx;obtain ⟨b2,o2,vk2,T2,rfl,-,bV,-,-,bA,cB⟩:=bX k y hy;clear aV bX;obtain ⟨rfl,rfl⟩:=qN aX;obtain ⟨rfl,rfl⟩:=qN bV;have HX:=Lib.hid hx;have HY:=Lib.hid hy;clear hx hy;have p0:=cell_regrown ((aB.cell (p:=⟨b1,o1+k*2,none⟩) aH).trans (aK 0 _ rfl:w.cell? ⟨b1,o1+k*2,none⟩=_));have p1:=cell_regrown ((aB.cell (p:=⟨b1,o1+k*2+1,none⟩) aH).trans (aK 1 _ rfl:w.cell? ⟨b1,o1+k*2+1,none⟩=_));have q0:=cell_regrown ((aB.cell (p:=⟨b2,o2+k*2,none⟩) bA).trans (cB 0 _ rfl:w.cell? ⟨b2,o2+k*2,none⟩=_));have q1:=cell_regrown ((aB.cell (p:=⟨b2,o2+k*2+1,none⟩) bA).trans (cB 1 _ rfl:w.cell? ⟨b2,o2+k*2+1,none⟩=_));have bS:=λ(W:World) (hW:Below w.heap.size w W)=>job x y _ _ _ _ W own own' ⟨_,rfl,aX.below hW (aAV _)⟩ ⟨_,rfl,bV.below hW (aAV _)⟩
    clear aK cB;by_cases cK:x=y
    ·have HXY:=Lib.hid cK
     clear cK
     go_wp2
     refine wp_region_quiet_below (by kernel_rfl) (by kernel_rfl) ?_
     repeat (go_big_quiet_step (exact Calls.regrown_of (cb (bS _ (aB.trans ((below_regrown wr _ _).mono aB.size))) (decide_eq_true HXY.out))))
     refine wpQuiet_nil ?_;intro _ hw';obtain ⟨⟨dq,osq⟩,hw''⟩:=hw';subst hw'';have bM:=aB.trans ((below_regrown wr dq osq).mono aB.size)
     go_wp2
     go_roundw
     case rel=>exact ⟨k+1,by omega,by go_num,jbq HX.out (HXY.out▸HY.out) HQ.out,bM⟩
     case measure=>simp [intOf];omega
    ·go_wp2
     refine wp_region_quiet_below (by kernel_rfl) (by kernel_rfl) ?_
     repeat (go_big_quiet_step (exact Calls.regrown_of (cb (bS _ (aB.trans ((below_regrown wr _ _).mono aB.size))) (decide_eq_false cK))))
     refine wpQuiet_nil ?_;intro _ hw';obtain ⟨⟨dq,osq⟩,hw''⟩:=hw';subst hw'';have bM:=aB.trans ((below_regrown wr dq osq).mono aB.size)
     go_wp2
     go_ret
     exact ⟨jD (decide_eq_false (jhb HX.out HY.out cK)).symm,bM⟩
   ·clear aV bX
    go_wp2
    go_ret
    exact ⟨jD (decide_eq_true (jbr (k:=k) (by omega) (by have:=HL.out;omega) HQ.out)).symm,aB⟩
 ·have a7:((l.length:Int) !=(m.length:Int))=true:=bne_iff_ne.2 (by omega)
  clear aV bX
  go_enter Tryz.func133,Tryz.ntmps133
  go_wp2
  go_ret
  exact ⟨jD (decide_eq_false (λe=>aJ (by rw [e]))).symm,Below.refl _ _⟩
theorem joa (x y:Pl) (a b:Value) (S S':List Nat) (w:World) (own own':Bool) (ha:AggRep w own (ja x) a S) (Z:AggRep w own' (ja y) b S'):
 Calls Tryz.prog 121 #[a,b] w λe w'=>e=.returned (.bool (decide (x=y)))/\Below w.heap.size w w':=by
 obtain ⟨_,rfl,ha⟩:=ha;obtain ⟨_,rfl,Z⟩:=Z;obtain ⟨av0,rfl,ah0⟩:=zZ ha;obtain ⟨bv0,rfl,bh0⟩:=zZ Z;clear ha Z;obtain ⟨xprio,xmost,xwait,xtasks,xedges⟩:=x;obtain ⟨yprio,ymost,ywait,ytasks,yedges⟩:=y
 go_enter Tryz.func121,Tryz.ntmps121
 go_wp2_with (first
  |(go_at_call 133;refine (jl5 xedges yedges _ _ _ _ _ _ _ (ah0.below (by repeat (first|exact Below.refl _ _|assumption|refine Below.alloc ?_ (by simp;try omega) _|refine jB ?_ (by assumption))) (aAV _)) (bh0.below (by repeat (first|exact Below.refl _ _|assumption|refine Below.alloc ?_ (by simp;try omega) _|refine jB ?_ (by assumption))) (aAV _))).mono ?_;rintro e w1 ⟨rfl,aH⟩;obtain ⟨bK,d5⟩:=qr aH))
 all_goals go_ret
 all_goals refine ⟨?_,(by repeat (first|exact Below.refl _ _|assumption|refine Below.alloc ?_ (by simp;try omega) _|refine jB ?_ (by assumption)))⟩
 all_goals simp_all
theorem jl4 (x y:En) (a b:Value) (S S':List Nat) (w:World) (own own':Bool) (ha:AggRep w own (jk x) a S) (Z:AggRep w own' (jk y) b S'):
 Calls Tryz.prog 120 #[a,b] w λe w'=>e=.returned (.bool (decide (x=y)))/\Below w.heap.size w w':=by
 obtain ⟨_,rfl,ha⟩:=ha;obtain ⟨_,rfl,Z⟩:=Z;obtain ⟨rfl,rfl⟩:=kr ha;obtain ⟨rfl,rfl⟩:=kr Z;clear ha Z;obtain ⟨xprio,xseq,xrun,xtask⟩:=x;obtain ⟨yprio,yseq,yrun,ytask⟩:=y
 go_enter Tryz.func120,Tryz.ntmps120
 go_wp2
 all_goals go_ret
 all_goals refine ⟨?_,(by repeat (first|exact Below.refl _ _|assumption|refine Below.alloc ?_ (by simp;try omega) _|refine jB ?_ (by assumption)))⟩
 all_goals simp_all
theorem jj3 (l m:List (En)) (a b:Value) (S S':List Nat) (w:World) (own own':Bool) (ha:Rep w own (jo l) a S) (Z:Rep w own' (jo m) b S'):
 Calls Tryz.prog 90 #[a,b] w λe w'=>e=.returned (.bool (decide (l=m)))/\Below w.heap.size w w':=by
 obtain ⟨A,c,rfl,bK,bI,aV⟩:=Rep.open_ (size:=4) (enc:=jk) (λ_=>rfl) (by decide) ha
 obtain ⟨B,d,rfl,gI,dQ,bX⟩:=Rep.open_ (size:=4) (enc:=jk) (λ_=>rfl) (by decide) Z
 unfold maxLen at bI dQ;have dO:l.length<=9223372036854775807:=by omega
 have lG:m.length<=9223372036854775807:=by omega
 clear ha Z;by_cases aJ:l.length=m.length
 ·have HL:=Lib.hid aJ
  have a7:((l.length:Int) !=(m.length:Int))=false:=by rw [aJ];simp
  clear aJ
  go_enter Tryz.func90,Tryz.ntmps90
  go_wp2
  go_loopw [5] (λi wr=>∃k:Nat,k<=l.length/\i=.int .i64 k/\l.take k=m.take k/\Below w.heap.size w wr) (λi _=>l.length-(intOf i).toNat)
  case atStart=>exact ⟨0,by omega,rfl,rfl,Below.refl _ _⟩
  case round=>
   obtain ⟨k,hk,rfl,cV,aB⟩:=hrel;have HQ:=Lib.hid cV;clear cV;by_cases aC:k<l.length
   ·have aA:k<m.length:=by have:=HL.out;omega
    obtain ⟨x,hx⟩:=jd aC;obtain ⟨y,hy⟩:=jd aA;obtain ⟨b1,o1,vk1,T1,rfl,-,aX,-,-,aH,aK⟩:=aV k x hx;obtain ⟨b2,o2,vk2,T2,rfl,-,bV,-,-,bA,cB⟩:=bX k y hy;clear aV bX;obtain ⟨rfl,rfl⟩:=kr aX;obtain ⟨rfl,rfl⟩:=kr bV;have HX:=Lib.hid hx;have HY:=Lib.hid hy;clear hx hy;have p0:=cell_regrown ((aB.cell (p:=⟨b1,o1+k*4,none⟩) aH).trans (aK 0 _ rfl:w.cell? ⟨b1,o1+k*4,none⟩=_));have p1:=cell_regrown ((aB.cell (p:=⟨b1,o1+k*4+1,none⟩) aH).trans (aK 1 _ rfl:w.cell? ⟨b1,o1+k*4+1,none⟩=_));have p2:=cell_regrown ((aB.cell (p:=⟨b1,o1+k*4+2,none⟩) aH).trans (aK 2 _ rfl:w.cell? ⟨b1,o1+k*4+2,none⟩=_));have p3:=cell_regrown ((aB.cell (p:=⟨b1,o1+k*4+3,none⟩) aH).trans (aK 3 _ rfl:w.cell? ⟨b1,o1+k*4+3,none⟩=_));have q0:=cell_regrown ((aB.cell (p:=⟨b2,o2+k*4,none⟩) bA).trans (cB 0 _ rfl:w.cell? ⟨b2,o2+k*4,none⟩=_));have q1:=cell_regrown ((aB.cell (p:=⟨b2,o2+k*4+1,none⟩) bA).trans (cB 1 _ rfl:w.cell? ⟨b2,o2+k*4+1,none⟩=_))
    have q2:=cell_regrown ((aB.cell (p:=⟨b2,o2+k*4+2,none⟩) bA).trans (cB 2 _ rfl:w.cell? ⟨b2,o2+k*4+2,none⟩=_));have q3:=cell_regrown ((aB.cell (p:=⟨b2,o2+k*4+3,none⟩) bA).trans (cB 3 _ rfl:w.cell? ⟨b2,o2+k*4+3,none⟩=_));have bS:=λ(W:World) (hW:Below w.heap.size w W)=>jl4 x y _ _ _ _ W own own' ⟨_,rfl,aX.below hW (aAV _)⟩ ⟨_,rfl,bV.below hW (aAV _)⟩
    clear aK cB;by_cases cK:x=y
    ·have HXY:=Lib.hid cK
     clear cK
     go_wp2
     refine wp_region_quiet_below (by kernel_rfl) (by kernel_rfl) ?_
     repeat (go_big_quiet_step (exact Calls.regrown_of (cb (bS _ (aB.trans ((below_regrown wr _ _).mono aB.size))) (decide_eq_true HXY.out))))
     refine wpQuiet_nil ?_;intro _ hw';obtain ⟨⟨dq,osq⟩,hw''⟩:=hw';subst hw'';have bM:=aB.trans ((below_regrown wr dq osq).mono aB.size)
     go_wp2
     go_roundw
     case rel=>exact ⟨k+1,by omega,by go_num,jbq HX.out (HXY.out▸HY.out) HQ.out,bM⟩
     case measure=>simp [intOf];omega
    ·go_wp2
     refine wp_region_quiet_below (by kernel_rfl) (by kernel_rfl) ?_
     repeat (go_big_quiet_step (exact Calls.regrown_of (cb (bS _ (aB.trans ((below_regrown wr _ _).mono aB.size))) (decide_eq_false cK))))
     refine wpQuiet_nil ?_;intro _ hw';obtain ⟨⟨dq,osq⟩,hw''⟩:=hw';subst hw'';have bM:=aB.trans ((below_regrown wr dq osq).mono aB.size)
     go_wp2
     go_ret
     exact ⟨jD (decide_eq_false (jhb HX.out HY.out cK)).symm,bM⟩
   ·clear aV bX
    go_wp2
    go_ret
    exact ⟨jD (decide_eq_true (jbr (k:=k) (by omega) (by have:=HL.out;omega) HQ.out)).symm,aB⟩
 ·have a7:((l.length:Int) !=(m.length:Int))=true:=bne_iff_ne.2 (by omega)
  clear aV bX
  go_enter Tryz.func90,Tryz.ntmps90
  go_wp2
  go_ret
  exact ⟨jD (decide_eq_false (λe=>aJ (by rw [e]))).symm,Below.refl _ _⟩
theorem jie (l m:List (List En)) (a b:Value) (S S':List Nat) (w:World) (own own':Bool) (ha:Rep w own (jX l) a S) (Z:Rep w own' (jX m) b S'):
 Calls Tryz.prog 53 #[a,b] w λe w'=>e=.returned (.bool (decide (l=m)))/\Below w.heap.size w w':=by
 obtain ⟨A,c,rfl,bK,bI,aV⟩:=Rep.open_ (size:=1) (enc:=λes=>[jo es]) (λ_=>rfl) (by decide) ha
 obtain ⟨B,d,rfl,gI,dQ,bX⟩:=Rep.open_ (size:=1) (enc:=λes=>[jo es]) (λ_=>rfl) (by decide) Z
 unfold maxLen at bI dQ;have dO:l.length<=9223372036854775807:=by omega
 have lG:m.length<=9223372036854775807:=by omega
 clear ha Z;by_cases aJ:l.length=m.length
 ·have HL:=Lib.hid aJ
  have a7:((l.length:Int) !=(m.length:Int))=false:=by rw [aJ];simp
  clear aJ
  go_enter Tryz.func53,Tryz.ntmps53
  go_wp2
  go_loopw [5] (λi wr=>∃k:Nat,k<=l.length/\i=.int .i64 k/\l.take k=m.take k/\Below w.heap.size w wr) (λi _=>l.length-(intOf i).toNat)
  case atStart=>exact ⟨0,by omega,rfl,rfl,Below.refl _ _⟩
  case round=>
   obtain ⟨k,hk,rfl,cV,aB⟩:=hrel;have HQ:=Lib.hid cV;clear cV;by_cases aC:k<l.length
   ·have aA:k<m.length:=by have:=HL.out;omega
    obtain ⟨x,hx⟩:=jd aC;obtain ⟨y,hy⟩:=jd aA;obtain ⟨b1,o1,vk1,T1,rfl,-,aX,-,-,aH,aK⟩:=aV k x hx;obtain ⟨b2,o2,vk2,T2,rfl,-,bV,-,-,bA,cB⟩:=bX k y hy;clear aV bX;obtain ⟨au,_,aS0,aS1,rfl,rfl,ah0,rfl,rfl⟩:=aX;obtain ⟨bu,_,bS0,bS1,rfl,rfl,bh0,rfl,rfl⟩:=bV;have HX:=Lib.hid hx;have HY:=Lib.hid hy;clear hx hy;have p0:=cell_regrown ((aB.cell (p:=⟨b1,o1+k,none⟩) aH).trans (by simpa using aK 0 _ rfl:w.cell? ⟨b1,o1+k,none⟩=_))
    have q0:=cell_regrown ((aB.cell (p:=⟨b2,o2+k,none⟩) bA).trans (by simpa using cB 0 _ rfl:w.cell? ⟨b2,o2+k,none⟩=_))
    have bS:=λ(W:World) (hW:Below w.heap.size w W)=>jj3 x y _ _ _ _ W own own' (ah0.below hW (aAV _)) (bh0.below hW (aAV _))
    clear aK cB;by_cases cK:x=y
    ·have HXY:=Lib.hid cK
     clear cK
     go_wp2
     refine wp_region_quiet_below (by kernel_rfl) (by kernel_rfl) ?_
     repeat (go_big_quiet_step (exact Calls.regrown_of (cb (bS _ (aB.trans ((below_regrown wr _ _).mono aB.size))) (decide_eq_true HXY.out))))
     refine wpQuiet_nil ?_;intro _ hw';obtain ⟨⟨dq,osq⟩,hw''⟩:=hw';subst hw'';have bM:=aB.trans ((below_regrown wr dq osq).mono aB.size)
     go_wp2
     go_roundw
     case rel=>exact ⟨k+1,by omega,by go_num,jbq HX.out (HXY.out▸HY.out) HQ.out,bM⟩
     case measure=>simp [intOf];omega
    ·go_wp2
     refine wp_region_quiet_below (by kernel_rfl) (by kernel_rfl) ?_
     repeat (go_big_quiet_step (exact Calls.regrown_of (cb (bS _ (aB.trans ((below_regrown wr _ _).mono aB.size))) (decide_eq_false cK))))
     refine wpQuiet_nil ?_;intro _ hw';obtain ⟨⟨dq,osq⟩,hw''⟩:=hw';subst hw'';have bM:=aB.trans ((below_regrown wr dq osq).mono aB.size)
     go_wp2
     go_ret
     exact ⟨jD (decide_eq_false (jhb HX.out HY.out cK)).symm,bM⟩
   ·clear aV bX
    go_wp2
    go_ret
    exact ⟨jD (decide_eq_true (jbr (k:=k) (by omega) (by have:=HL.out;omega) HQ.out)).symm,aB⟩
 ·have a7:((l.length:Int) !=(m.length:Int))=true:=bne_iff_ne.2 (by omega)
  clear aV bX
  go_enter Tryz.func53,Tryz.ntmps53
  go_wp2
  go_ret
  exact ⟨jD (decide_eq_false (λe=>aJ (by rw [e]))).symm,Below.refl _ _⟩
theorem jn8 (x y:Tk) (a b:Value) (S S':List Nat) (w:World) (own own':Bool) (ha:AggRep w own (ji x) a S) (Z:AggRep w own' (ji y) b S'):
 Calls Tryz.prog 134 #[a,b] w λe w'=>e=.returned (.bool (decide (x=y)))/\Below w.heap.size w w':=by
 obtain ⟨_,rfl,ha⟩:=ha;obtain ⟨_,rfl,Z⟩:=Z;obtain ⟨rfl,rfl⟩:=kF ha;obtain ⟨rfl,rfl⟩:=kF Z;clear ha Z;obtain ⟨xstate,xneed,xtri,xtil⟩:=x;obtain ⟨ystate,yneed,ytri,ytil⟩:=y
 go_enter Tryz.func134,Tryz.ntmps134
 go_wp2
 all_goals go_ret
 all_goals refine ⟨?_,(by repeat (first|exact Below.refl _ _|assumption|refine Below.alloc ?_ (by simp;try omega) _|refine jB ?_ (by assumption)))⟩
 all_goals simp_all
theorem jl3 (l m:List (Tk)) (a b:Value) (S S':List Nat) (w:World) (own own':Bool) (ha:Rep w own (ke l) a S) (Z:Rep w own' (ke m) b S'):
 Calls Tryz.prog 122 #[a,b] w λe w'=>e=.returned (.bool (decide (l=m)))/\Below w.heap.size w w':=by
 obtain ⟨A,c,rfl,bK,bI,aV⟩:=Rep.open_ (size:=4) (enc:=ji) (λ_=>rfl) (by decide) ha
 obtain ⟨B,d,rfl,gI,dQ,bX⟩:=Rep.open_ (size:=4) (enc:=ji) (λ_=>rfl) (by decide) Z
 unfold maxLen at bI dQ;have dO:l.length<=9223372036854775807:=by omega
 have lG:m.length<=9223372036854775807:=by omega
 clear ha Z;by_cases aJ:l.length=m.length
 ·have HL:=Lib.hid aJ
  have a7:((l.length:Int) !=(m.length:Int))=false:=by rw [aJ];simp
  clear aJ
  go_enter Tryz.func122,Tryz.ntmps122
  go_wp2
  go_loopw [5] (λi wr=>∃k:Nat,k<=l.length/\i=.int .i64 k/\l.take k=m.take k/\Below w.heap.size w wr) (λi _=>l.length-(intOf i).toNat)
  case atStart=>exact ⟨0,by omega,rfl,rfl,Below.refl _ _⟩
  case round=>
   obtain ⟨k,hk,rfl,cV,aB⟩:=hrel;have HQ:=Lib.hid cV;clear cV;by_cases aC:k<l.length
   ·have aA:k<m.length:=by have:=HL.out;omega
    obtain ⟨x,hx⟩:=jd aC;obtain ⟨y,hy⟩:=jd aA;obtain ⟨b1,o1,vk1,T1,rfl,-,aX,-,-,aH,aK⟩:=aV k x hx;obtain ⟨b2,o2,vk2,T2,rfl,-,bV,-,-,bA,cB⟩:=bX k y hy;clear aV bX;obtain ⟨rfl,rfl⟩:=kF aX;obtain ⟨rfl,rfl⟩:=kF bV;have HX:=Lib.hid hx;have HY:=Lib.hid hy;clear hx hy;have p0:=cell_regrown ((aB.cell (p:=⟨b1,o1+k*4,none⟩) aH).trans (aK 0 _ rfl:w.cell? ⟨b1,o1+k*4,none⟩=_));have p1:=cell_regrown ((aB.cell (p:=⟨b1,o1+k*4+1,none⟩) aH).trans (aK 1 _ rfl:w.cell? ⟨b1,o1+k*4+1,none⟩=_));have p2:=cell_regrown ((aB.cell (p:=⟨b1,o1+k*4+2,none⟩) aH).trans (aK 2 _ rfl:w.cell? ⟨b1,o1+k*4+2,none⟩=_));have p3:=cell_regrown ((aB.cell (p:=⟨b1,o1+k*4+3,none⟩) aH).trans (aK 3 _ rfl:w.cell? ⟨b1,o1+k*4+3,none⟩=_));have q0:=cell_regrown ((aB.cell (p:=⟨b2,o2+k*4,none⟩) bA).trans (cB 0 _ rfl:w.cell? ⟨b2,o2+k*4,none⟩=_));have q1:=cell_regrown ((aB.cell (p:=⟨b2,o2+k*4+1,none⟩) bA).trans (cB 1 _ rfl:w.cell? ⟨b2,o2+k*4+1,none⟩=_))
    have q2:=cell_regrown ((aB.cell (p:=⟨b2,o2+k*4+2,none⟩) bA).trans (cB 2 _ rfl:w.cell? ⟨b2,o2+k*4+2,none⟩=_));have q3:=cell_regrown ((aB.cell (p:=⟨b2,o2+k*4+3,none⟩) bA).trans (cB 3 _ rfl:w.cell? ⟨b2,o2+k*4+3,none⟩=_));have bS:=λ(W:World) (hW:Below w.heap.size w W)=>jn8 x y _ _ _ _ W own own' ⟨_,rfl,aX.below hW (aAV _)⟩ ⟨_,rfl,bV.below hW (aAV _)⟩
    clear aK cB;by_cases cK:x=y
    ·have HXY:=Lib.hid cK
     clear cK
     go_wp2
     refine wp_region_quiet_below (by kernel_rfl) (by kernel_rfl) ?_
     repeat (go_big_quiet_step (exact Calls.regrown_of (cb (bS _ (aB.trans ((below_regrown wr _ _).mono aB.size))) (decide_eq_true HXY.out))))
     refine wpQuiet_nil ?_;intro _ hw';obtain ⟨⟨dq,osq⟩,hw''⟩:=hw';subst hw'';have bM:=aB.trans ((below_regrown wr dq osq).mono aB.size)
     go_wp2
     go_roundw
     case rel=>exact ⟨k+1,by omega,by go_num,jbq HX.out (HXY.out▸HY.out) HQ.out,bM⟩
     case measure=>simp [intOf];omega
    ·go_wp2
     refine wp_region_quiet_below (by kernel_rfl) (by kernel_rfl) ?_
     repeat (go_big_quiet_step (exact Calls.regrown_of (cb (bS _ (aB.trans ((below_regrown wr _ _).mono aB.size))) (decide_eq_false cK))))
     refine wpQuiet_nil ?_;intro _ hw';obtain ⟨⟨dq,osq⟩,hw''⟩:=hw';subst hw'';have bM:=aB.trans ((below_regrown wr dq osq).mono aB.size)
     go_wp2
     go_ret
     exact ⟨jD (decide_eq_false (jhb HX.out HY.out cK)).symm,bM⟩
   ·clear aV bX
    go_wp2
    go_ret
    exact ⟨jD (decide_eq_true (jbr (k:=k) (by omega) (by have:=HL.out;omega) HQ.out)).symm,aB⟩
 ·have a7:((l.length:Int) !=(m.length:Int))=true:=bne_iff_ne.2 (by omega)
  clear aV bX
  go_enter Tryz.func122,Tryz.ntmps122
  go_wp2
  go_ret
  exact ⟨jD (decide_eq_false (λe=>aJ (by rw [e]))).symm,Below.refl _ _⟩
theorem jqj (x y:Rn) (a b:Value) (S S':List Nat) (w:World) (own own':Bool) (ha:AggRep w own (jc x) a S) (Z:AggRep w own' (jc y) b S'):
 Calls Tryz.prog 91 #[a,b] w λe w'=>e=.returned (.bool (decide (x=y)))/\Below w.heap.size w w':=by
 obtain ⟨_,rfl,ha⟩:=ha;obtain ⟨_,rfl,Z⟩:=Z;obtain ⟨av0,av1,aS0,aS1,rfl,ah0,ah1,rfl⟩:=jI ha;obtain ⟨bv0,bv1,bS0,bS1,rfl,bh0,bh1,rfl⟩:=jI Z;clear ha Z;obtain ⟨xid,xplan,xstate,xtasks⟩:=x;obtain ⟨yid,yplan,ystate,ytasks⟩:=y
 go_enter Tryz.func91,Tryz.ntmps91
 go_wp2_with (first
  |(go_at_call 121;refine (joa xplan yplan _ _ _ _ _ _ _ ⟨_,rfl,jjo (ah0.below (by repeat (first|exact Below.refl _ _|assumption|refine Below.alloc ?_ (by simp;try omega) _|refine jB ?_ (by assumption))) (aAV _))⟩ ⟨_,rfl,jjo (bh0.below (by repeat (first|exact Below.refl _ _|assumption|refine Below.alloc ?_ (by simp;try omega) _|refine jB ?_ (by assumption))) (aAV _))⟩).mono ?_;rintro e w1 ⟨rfl,aH⟩;obtain ⟨bK,d5⟩:=qr aH)
  |(go_at_call 122;refine (jl3 xtasks ytasks _ _ _ _ _ _ _ (ah1.below (by repeat (first|exact Below.refl _ _|assumption|refine Below.alloc ?_ (by simp;try omega) _|refine jB ?_ (by assumption))) (aAV _)) (bh1.below (by repeat (first|exact Below.refl _ _|assumption|refine Below.alloc ?_ (by simp;try omega) _|refine jB ?_ (by assumption))) (aAV _))).mono ?_;rintro e w1 ⟨rfl,aH⟩;obtain ⟨bK,d5⟩:=qr aH))
 all_goals go_ret
 all_goals refine ⟨?_,(by repeat (first|exact Below.refl _ _|assumption|refine Below.alloc ?_ (by simp;try omega) _|refine jB ?_ (by assumption)))⟩
 all_goals simp_all
theorem jn9 (l m:List (Rn)) (a b:Value) (S S':List Nat) (w:World) (own own':Bool) (ha:Rep w own (jC l) a S) (Z:Rep w own' (jC m) b S'):
 Calls Tryz.prog 54 #[a,b] w λe w'=>e=.returned (.bool (decide (l=m)))/\Below w.heap.size w w':=by
 obtain ⟨A,c,rfl,bK,bI,aV⟩:=Rep.open_ (size:=8) (enc:=jc) (λ_=>rfl) (by decide) ha
 obtain ⟨B,d,rfl,gI,dQ,bX⟩:=Rep.open_ (size:=8) (enc:=jc) (λ_=>rfl) (by decide) Z
 unfold maxLen at bI dQ;have dO:l.length<=9223372036854775807:=by omega
 have lG:m.length<=9223372036854775807:=by omega
 clear ha Z;by_cases aJ:l.length=m.length
 ·have HL:=Lib.hid aJ
  have a7:((l.length:Int) !=(m.length:Int))=false:=by rw [aJ];simp
  clear aJ
  go_enter Tryz.func54,Tryz.ntmps54
  go_wp2
  go_loopw [5] (λi wr=>∃k:Nat,k<=l.length/\i=.int .i64 k/\l.take k=m.take k/\Below w.heap.size w wr) (λi _=>l.length-(intOf i).toNat)
  case atStart=>exact ⟨0,by omega,rfl,rfl,Below.refl _ _⟩
  case round=>
   obtain ⟨k,hk,rfl,cV,aB⟩:=hrel;have HQ:=Lib.hid cV;clear cV;by_cases aC:k<l.length
   ·have aA:k<m.length:=by have:=HL.out;omega
    obtain ⟨x,hx⟩:=jd aC;obtain ⟨y,hy⟩:=jd aA;obtain ⟨b1,o1,vk1,T1,rfl,-,aX,-,-,aH,aK⟩:=aV k x hx;obtain ⟨b2,o2,vk2,T2,rfl,-,bV,-,-,bA,cB⟩:=bX k y hy;clear aV bX;obtain ⟨av0,av1,aS0,aS1,rfl,ah0,ah1,rfl⟩:=jI aX;obtain ⟨bv0,bv1,bS0,bS1,rfl,bh0,bh1,rfl⟩:=jI bV;have HX:=Lib.hid hx;have HY:=Lib.hid hy;clear hx hy;have p0:=cell_regrown ((aB.cell (p:=⟨b1,o1+k*8,none⟩) aH).trans (aK 0 _ rfl:w.cell? ⟨b1,o1+k*8,none⟩=_));have p1:=cell_regrown ((aB.cell (p:=⟨b1,o1+k*8+1,none⟩) aH).trans (aK 1 _ rfl:w.cell? ⟨b1,o1+k*8+1,none⟩=_));have p2:=cell_regrown ((aB.cell (p:=⟨b1,o1+k*8+2,none⟩) aH).trans (aK 2 _ rfl:w.cell? ⟨b1,o1+k*8+2,none⟩=_));have p3:=cell_regrown ((aB.cell (p:=⟨b1,o1+k*8+3,none⟩) aH).trans (aK 3 _ rfl:w.cell? ⟨b1,o1+k*8+3,none⟩=_));have p4:=cell_regrown ((aB.cell (p:=⟨b1,o1+k*8+4,none⟩) aH).trans (aK 4 _ rfl:w.cell? ⟨b1,o1+k*8+4,none⟩=_));have p5:=cell_regrown ((aB.cell (p:=⟨b1,o1+k*8+5,none⟩) aH).trans (aK 5 _ rfl:w.cell? ⟨b1,o1+k*8+5,none⟩=_))
    have p6:=cell_regrown ((aB.cell (p:=⟨b1,o1+k*8+6,none⟩) aH).trans (aK 6 _ rfl:w.cell? ⟨b1,o1+k*8+6,none⟩=_));have p7:=cell_regrown ((aB.cell (p:=⟨b1,o1+k*8+7,none⟩) aH).trans (aK 7 _ rfl:w.cell? ⟨b1,o1+k*8+7,none⟩=_));have q0:=cell_regrown ((aB.cell (p:=⟨b2,o2+k*8,none⟩) bA).trans (cB 0 _ rfl:w.cell? ⟨b2,o2+k*8,none⟩=_));have q1:=cell_regrown ((aB.cell (p:=⟨b2,o2+k*8+1,none⟩) bA).trans (cB 1 _ rfl:w.cell? ⟨b2,o2+k*8+1,none⟩=_));have q2:=cell_regrown ((aB.cell (p:=⟨b2,o2+k*8+2,none⟩) bA).trans (cB 2 _ rfl:w.cell? ⟨b2,o2+k*8+2,none⟩=_));have q3:=cell_regrown ((aB.cell (p:=⟨b2,o2+k*8+3,none⟩) bA).trans (cB 3 _ rfl:w.cell? ⟨b2,o2+k*8+3,none⟩=_));have q4:=cell_regrown ((aB.cell (p:=⟨b2,o2+k*8+4,none⟩) bA).trans (cB 4 _ rfl:w.cell? ⟨b2,o2+k*8+4,none⟩=_));have q5:=cell_regrown ((aB.cell (p:=⟨b2,o2+k*8+5,none⟩) bA).trans (cB 5 _ rfl:w.cell? ⟨b2,o2+k*8+5,none⟩=_))
    have q6:=cell_regrown ((aB.cell (p:=⟨b2,o2+k*8+6,none⟩) bA).trans (cB 6 _ rfl:w.cell? ⟨b2,o2+k*8+6,none⟩=_));have q7:=cell_regrown ((aB.cell (p:=⟨b2,o2+k*8+7,none⟩) bA).trans (cB 7 _ rfl:w.cell? ⟨b2,o2+k*8+7,none⟩=_));have bS:=λ(W:World) (hW:Below w.heap.size w W)=>jqj x y _ _ _ _ W own own' ⟨_,rfl,aX.below hW (aAV _)⟩ ⟨_,rfl,bV.below hW (aAV _)⟩
    clear aK cB;by_cases cK:x=y
    ·have HXY:=Lib.hid cK
     clear cK
     go_wp2
     refine wp_region_quiet_below (by kernel_rfl) (by kernel_rfl) ?_
     repeat (go_big_quiet_step (exact Calls.regrown_of (cb (bS _ (aB.trans ((below_regrown wr _ _).mono aB.size))) (decide_eq_true HXY.out))))
     refine wpQuiet_nil ?_;intro _ hw';obtain ⟨⟨dq,osq⟩,hw''⟩:=hw';subst hw'';have bM:=aB.trans ((below_regrown wr dq osq).mono aB.size)
     go_wp2
     go_roundw
     case rel=>exact ⟨k+1,by omega,by go_num,jbq HX.out (HXY.out▸HY.out) HQ.out,bM⟩
     case measure=>simp [intOf];omega
    ·go_wp2
     refine wp_region_quiet_below (by kernel_rfl) (by kernel_rfl) ?_
     repeat (go_big_quiet_step (exact Calls.regrown_of (cb (bS _ (aB.trans ((below_regrown wr _ _).mono aB.size))) (decide_eq_false cK))))
     refine wpQuiet_nil ?_;intro _ hw';obtain ⟨⟨dq,osq⟩,hw''⟩:=hw';subst hw'';have bM:=aB.trans ((below_regrown wr dq osq).mono aB.size)
     go_wp2
     go_ret
     exact ⟨jD (decide_eq_false (jhb HX.out HY.out cK)).symm,bM⟩
   ·clear aV bX
    go_wp2
    go_ret
    exact ⟨jD (decide_eq_true (jbr (k:=k) (by omega) (by have:=HL.out;omega) HQ.out)).symm,aB⟩
 ·have a7:((l.length:Int) !=(m.length:Int))=true:=bne_iff_ne.2 (by omega)
  clear aV bX
  go_enter Tryz.func54,Tryz.ntmps54
  go_wp2
  go_ret
  exact ⟨jD (decide_eq_false (λe=>aJ (by rw [e]))).symm,Below.refl _ _⟩
theorem jn7 (x y:Yd) (a b:Value) (S S':List Nat) (w:World) (own own':Bool) (ha:AggRep w own (jb x) a S) (Z:AggRep w own' (jb y) b S'):
 Calls Tryz.prog 27 #[a,b] w λe w'=>e=.returned (.bool (decide (x=y)))/\Below w.heap.size w w':=by
 obtain ⟨_,rfl,ha⟩:=ha;obtain ⟨_,rfl,Z⟩:=Z;obtain ⟨av0,av1,aS0,aS1,rfl,ah0,ah1,rfl⟩:=kE ha;obtain ⟨bv0,bv1,bS0,bS1,rfl,bh0,bh1,rfl⟩:=kE Z;clear ha Z;obtain ⟨xnow,xseq,xshelf,xruns⟩:=x;obtain ⟨ynow,yseq,yshelf,yruns⟩:=y
 go_enter Tryz.func27,Tryz.ntmps27
 go_wp2_with (first
  |(go_at_call 53;refine (jie xshelf yshelf _ _ _ _ _ _ _ (ah0.below (by repeat (first|exact Below.refl _ _|assumption|refine Below.alloc ?_ (by simp;try omega) _|refine jB ?_ (by assumption))) (aAV _)) (bh0.below (by repeat (first|exact Below.refl _ _|assumption|refine Below.alloc ?_ (by simp;try omega) _|refine jB ?_ (by assumption))) (aAV _))).mono ?_;rintro e w1 ⟨rfl,aH⟩;obtain ⟨bK,d5⟩:=qr aH)
  |(go_at_call 54;refine (jn9 xruns yruns _ _ _ _ _ _ _ (ah1.below (by repeat (first|exact Below.refl _ _|assumption|refine Below.alloc ?_ (by simp;try omega) _|refine jB ?_ (by assumption))) (aAV _)) (bh1.below (by repeat (first|exact Below.refl _ _|assumption|refine Below.alloc ?_ (by simp;try omega) _|refine jB ?_ (by assumption))) (aAV _))).mono ?_;rintro e w1 ⟨rfl,aH⟩;obtain ⟨bK,d5⟩:=qr aH))
 all_goals go_ret
 all_goals refine ⟨?_,(by repeat (first|exact Below.refl _ _|assumption|refine Below.alloc ?_ (by simp;try omega) _|refine jB ?_ (by assumption)))⟩
 all_goals simp_all
