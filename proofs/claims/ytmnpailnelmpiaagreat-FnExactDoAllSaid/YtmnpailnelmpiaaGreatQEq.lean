/- Parts. -/
import Derived.Test.YtmnpailnelmpiaaGreatQData
set_option linter.unusedSimpArgs false
set_option linter.unusedVariables false
set_option maxHeartbeats 1000000
namespace Go.Proofs.YtmnpailnelmpiaaGreat
open Go.RowKit Go.Sort Go.BigFrame
theorem jwa (x y:Ed) (a b:Value) (S S':List Nat) (w:World) (own own':Bool) (ha:AggRep w own (jI x) a S) (hb:AggRep w own' (jI y) b S'):
 Calls Tryz.prog 278 #[a,b] w fun e w'=>e=.returned (.bool (decide (x=y)))∧Below w.heap.size w w':=by
 obtain ⟨_,rfl,ha⟩:=ha;obtain ⟨_,rfl,hb⟩:=hb;obtain ⟨rfl,rfl⟩:=za ha;obtain ⟨rfl,rfl⟩:=za hb;clear ha hb;obtain ⟨xsrc,xdst⟩:=x;obtain ⟨ysrc,ydst⟩:=y
 go_enter Tryz.func278,Tryz.ntmps278
 go_wp2
 all_goals go_ret
 all_goals refine ⟨?_,(by repeat (first|exact Below.refl _ _|assumption|refine Below.alloc ?_ (by simp;try omega) _|refine jy ?_ (by assumption)))⟩
 all_goals simp_all
theorem jtK (l m:List (Ed)) (a b:Value) (S S':List Nat) (w:World) (own own':Bool) (ha:Rep w own (jB l) a S) (hb:Rep w own' (jB m) b S'):
 Calls Tryz.prog 230 #[a,b] w fun e w'=>e=.returned (.bool (decide (l=m)))∧Below w.heap.size w w':=by
 obtain ⟨A,c,rfl,hc1,hc2,hca⟩:=Rep.open_ (size:=2) (enc:=jI) (fun _=>rfl) (by decide) ha
 obtain ⟨B,d,rfl,hd1,hd2,hdb⟩:=Rep.open_ (size:=2) (enc:=jI) (fun _=>rfl) (by decide) hb
 unfold maxLen at hc2 hd2;have hl1:l.length≤9223372036854775807:=by omega
 have hl2:m.length≤9223372036854775807:=by omega
 clear ha hb;by_cases hlen:l.length=m.length
 ·have HL:=Lib.hid hlen
  have hne:((l.length:Int) !=(m.length:Int))=false:=by rw [hlen];simp
  clear hlen
  go_enter Tryz.func230,Tryz.ntmps230
  go_wp2
  go_loopw [5] (fun i wr=>∃k:Nat,k≤l.length∧i=.int .i64 k∧l.take k=m.take k∧Below w.heap.size w wr) (fun i _=>l.length-(intOf i).toNat)
  case atStart=>exact ⟨0,by omega,rfl,rfl,Below.refl _ _⟩
  case round=>
   obtain ⟨k,hk,rfl,heq,hbel⟩:=hrel;have HQ:=Lib.hid heq;clear heq;by_cases hlt:k<l.length
   ·have hlt':k<m.length:=by have:=HL.out;omega
    obtain ⟨x,hx⟩:=je hlt;obtain ⟨y,hy⟩:=je hlt';obtain ⟨b1,o1,vk1,T1,rfl,-,hr1,-,-,hb1,hx1⟩:=hca k x hx;obtain ⟨b2,o2,vk2,T2,rfl,-,hr2,-,-,hb2,hx2⟩:=hdb k y hy;clear hca hdb;obtain ⟨rfl,rfl⟩:=za hr1;obtain ⟨rfl,rfl⟩:=za hr2;have HX:=Lib.hid hx;have HY:=Lib.hid hy;clear hx hy;have p0:=cell_regrown ((hbel.cell (p:=⟨b1,o1+k*2,none⟩) hb1).trans (hx1 0 _ rfl:w.cell? ⟨b1,o1+k*2,none⟩=_));have p1:=cell_regrown ((hbel.cell (p:=⟨b1,o1+k*2+1,none⟩) hb1).trans (hx1 1 _ rfl:w.cell? ⟨b1,o1+k*2+1,none⟩=_));have q0:=cell_regrown ((hbel.cell (p:=⟨b2,o2+k*2,none⟩) hb2).trans (hx2 0 _ rfl:w.cell? ⟨b2,o2+k*2,none⟩=_));have q1:=cell_regrown ((hbel.cell (p:=⟨b2,o2+k*2+1,none⟩) hb2).trans (hx2 1 _ rfl:w.cell? ⟨b2,o2+k*2+1,none⟩=_));have hcall:=fun (W:World) (hW:Below w.heap.size w W)=>jwa x y _ _ _ _ W own own' ⟨_,rfl,hr1.below hW (Nat.le_refl _)⟩ ⟨_,rfl,hr2.below hW (Nat.le_refl _)⟩
    clear hx1 hx2;by_cases hxy:x=y
    ·have HXY:=Lib.hid hxy
     clear hxy
     go_wp2
     refine wp_region_quiet_below (by kernel_rfl) (by kernel_rfl) ?_
     repeat (go_big_quiet_step (exact Calls.regrown_of (cb (hcall _ (hbel.trans ((below_regrown wr _ _).mono hbel.size))) (decide_eq_true HXY.out))))
     refine wpQuiet_nil ?_;intro _ hw';obtain ⟨⟨dq,osq⟩,hw''⟩:=hw';subst hw'';have hbel2:=hbel.trans ((below_regrown wr dq osq).mono hbel.size)
     go_wp2
     go_roundw
     case rel=>exact ⟨k+1,by omega,by go_num,jbl HX.out (HXY.out▸HY.out) HQ.out,hbel2⟩
     case measure=>simp [intOf];omega
    ·go_wp2
     refine wp_region_quiet_below (by kernel_rfl) (by kernel_rfl) ?_
     repeat (go_big_quiet_step (exact Calls.regrown_of (cb (hcall _ (hbel.trans ((below_regrown wr _ _).mono hbel.size))) (decide_eq_false hxy))))
     refine wpQuiet_nil ?_;intro _ hw';obtain ⟨⟨dq,osq⟩,hw''⟩:=hw';subst hw'';have hbel2:=hbel.trans ((below_regrown wr dq osq).mono hbel.size)
     go_wp2
     go_ret
     exact ⟨jx (decide_eq_false (jiL HX.out HY.out hxy)).symm,hbel2⟩
   ·clear hca hdb
    go_wp2
    go_ret
    exact ⟨jx (decide_eq_true (jbm (k:=k) (by omega) (by have:=HL.out;omega) HQ.out)).symm,hbel⟩
 ·have hne:((l.length:Int) !=(m.length:Int))=true:=bne_iff_ne.2 (by omega)
  clear hca hdb
  go_enter Tryz.func230,Tryz.ntmps230
  go_wp2
  go_ret
  exact ⟨jx (decide_eq_false (fun e=>hlen (by rw [e]))).symm,Below.refl _ _⟩
theorem jpz (x y:Pl) (a b:Value) (S S':List Nat) (w:World) (own own':Bool) (ha:AggRep w own (ja x) a S) (hb:AggRep w own' (ja y) b S'):
 Calls Tryz.prog 125 #[a,b] w fun e w'=>e=.returned (.bool (decide (x=y)))∧Below w.heap.size w w':=by
 obtain ⟨_,rfl,ha⟩:=ha;obtain ⟨_,rfl,hb⟩:=hb;obtain ⟨av0,rfl,ah0⟩:=vF ha;obtain ⟨bv0,rfl,bh0⟩:=vF hb;clear ha hb;obtain ⟨xprio,xmost,xwait,xtasks,xedges⟩:=x;obtain ⟨yprio,ymost,ywait,ytasks,yedges⟩:=y
 go_enter Tryz.func125,Tryz.ntmps125
 go_wp2_with (first
  |(go_at_call 230;refine (jtK xedges yedges _ _ _ _ _ _ _ (ah0.below (by repeat (first|exact Below.refl _ _|assumption|refine Below.alloc ?_ (by simp;try omega) _|refine jy ?_ (by assumption))) (Nat.le_refl _)) (bh0.below (by repeat (first|exact Below.refl _ _|assumption|refine Below.alloc ?_ (by simp;try omega) _|refine jy ?_ (by assumption))) (Nat.le_refl _))).mono ?_;rintro e w1 ⟨rfl,hb1⟩;obtain ⟨hc1,hf1⟩:=qa hb1))
 all_goals go_ret
 all_goals refine ⟨?_,(by repeat (first|exact Below.refl _ _|assumption|refine Below.alloc ?_ (by simp;try omega) _|refine jy ?_ (by assumption)))⟩
 all_goals simp_all
theorem jtJ (x y:En) (a b:Value) (S S':List Nat) (w:World) (own own':Bool) (ha:AggRep w own (jf x) a S) (hb:AggRep w own' (jf y) b S'):
 Calls Tryz.prog 253 #[a,b] w fun e w'=>e=.returned (.bool (decide (x=y)))∧Below w.heap.size w w':=by
 obtain ⟨_,rfl,ha⟩:=ha;obtain ⟨_,rfl,hb⟩:=hb;obtain ⟨rfl,rfl⟩:=qu ha;obtain ⟨rfl,rfl⟩:=qu hb;clear ha hb;obtain ⟨xprio,xseq,xrun,xtask⟩:=x;obtain ⟨yprio,yseq,yrun,ytask⟩:=y
 go_enter Tryz.func253,Tryz.ntmps253
 go_wp2
 all_goals go_ret
 all_goals refine ⟨?_,(by repeat (first|exact Below.refl _ _|assumption|refine Below.alloc ?_ (by simp;try omega) _|refine jy ?_ (by assumption)))⟩
 all_goals simp_all
theorem jrc (l m:List (En)) (a b:Value) (S S':List Nat) (w:World) (own own':Bool) (ha:Rep w own (ji l) a S) (hb:Rep w own' (ji m) b S'):
 Calls Tryz.prog 173 #[a,b] w fun e w'=>e=.returned (.bool (decide (l=m)))∧Below w.heap.size w w':=by
 obtain ⟨A,c,rfl,hc1,hc2,hca⟩:=Rep.open_ (size:=4) (enc:=jf) (fun _=>rfl) (by decide) ha
 obtain ⟨B,d,rfl,hd1,hd2,hdb⟩:=Rep.open_ (size:=4) (enc:=jf) (fun _=>rfl) (by decide) hb
 unfold maxLen at hc2 hd2;have hl1:l.length≤9223372036854775807:=by omega
 have hl2:m.length≤9223372036854775807:=by omega
 clear ha hb;by_cases hlen:l.length=m.length
 ·have HL:=Lib.hid hlen
  have hne:((l.length:Int) !=(m.length:Int))=false:=by rw [hlen];simp
  clear hlen
  go_enter Tryz.func173,Tryz.ntmps173
  go_wp2
  go_loopw [5] (fun i wr=>∃k:Nat,k≤l.length∧i=.int .i64 k∧l.take k=m.take k∧Below w.heap.size w wr) (fun i _=>l.length-(intOf i).toNat)
  case atStart=>exact ⟨0,by omega,rfl,rfl,Below.refl _ _⟩
  case round=>
   obtain ⟨k,hk,rfl,heq,hbel⟩:=hrel;have HQ:=Lib.hid heq;clear heq;by_cases hlt:k<l.length
   ·have hlt':k<m.length:=by have:=HL.out;omega
    obtain ⟨x,hx⟩:=je hlt;obtain ⟨y,hy⟩:=je hlt';obtain ⟨b1,o1,vk1,T1,rfl,-,hr1,-,-,hb1,hx1⟩:=hca k x hx;obtain ⟨b2,o2,vk2,T2,rfl,-,hr2,-,-,hb2,hx2⟩:=hdb k y hy;clear hca hdb;obtain ⟨rfl,rfl⟩:=qu hr1;obtain ⟨rfl,rfl⟩:=qu hr2;have HX:=Lib.hid hx;have HY:=Lib.hid hy;clear hx hy;have p0:=cell_regrown ((hbel.cell (p:=⟨b1,o1+k*4,none⟩) hb1).trans (hx1 0 _ rfl:w.cell? ⟨b1,o1+k*4,none⟩=_));have p1:=cell_regrown ((hbel.cell (p:=⟨b1,o1+k*4+1,none⟩) hb1).trans (hx1 1 _ rfl:w.cell? ⟨b1,o1+k*4+1,none⟩=_));have p2:=cell_regrown ((hbel.cell (p:=⟨b1,o1+k*4+2,none⟩) hb1).trans (hx1 2 _ rfl:w.cell? ⟨b1,o1+k*4+2,none⟩=_));have p3:=cell_regrown ((hbel.cell (p:=⟨b1,o1+k*4+3,none⟩) hb1).trans (hx1 3 _ rfl:w.cell? ⟨b1,o1+k*4+3,none⟩=_));have q0:=cell_regrown ((hbel.cell (p:=⟨b2,o2+k*4,none⟩) hb2).trans (hx2 0 _ rfl:w.cell? ⟨b2,o2+k*4,none⟩=_));have q1:=cell_regrown ((hbel.cell (p:=⟨b2,o2+k*4+1,none⟩) hb2).trans (hx2 1 _ rfl:w.cell? ⟨b2,o2+k*4+1,none⟩=_))
    have q2:=cell_regrown ((hbel.cell (p:=⟨b2,o2+k*4+2,none⟩) hb2).trans (hx2 2 _ rfl:w.cell? ⟨b2,o2+k*4+2,none⟩=_));have q3:=cell_regrown ((hbel.cell (p:=⟨b2,o2+k*4+3,none⟩) hb2).trans (hx2 3 _ rfl:w.cell? ⟨b2,o2+k*4+3,none⟩=_));have hcall:=fun (W:World) (hW:Below w.heap.size w W)=>jtJ x y _ _ _ _ W own own' ⟨_,rfl,hr1.below hW (Nat.le_refl _)⟩ ⟨_,rfl,hr2.below hW (Nat.le_refl _)⟩
    clear hx1 hx2;by_cases hxy:x=y
    ·have HXY:=Lib.hid hxy
     clear hxy
     go_wp2
     refine wp_region_quiet_below (by kernel_rfl) (by kernel_rfl) ?_
     repeat (go_big_quiet_step (exact Calls.regrown_of (cb (hcall _ (hbel.trans ((below_regrown wr _ _).mono hbel.size))) (decide_eq_true HXY.out))))
     refine wpQuiet_nil ?_;intro _ hw';obtain ⟨⟨dq,osq⟩,hw''⟩:=hw';subst hw'';have hbel2:=hbel.trans ((below_regrown wr dq osq).mono hbel.size)
     go_wp2
     go_roundw
     case rel=>exact ⟨k+1,by omega,by go_num,jbl HX.out (HXY.out▸HY.out) HQ.out,hbel2⟩
     case measure=>simp [intOf];omega
    ·go_wp2
     refine wp_region_quiet_below (by kernel_rfl) (by kernel_rfl) ?_
     repeat (go_big_quiet_step (exact Calls.regrown_of (cb (hcall _ (hbel.trans ((below_regrown wr _ _).mono hbel.size))) (decide_eq_false hxy))))
     refine wpQuiet_nil ?_;intro _ hw';obtain ⟨⟨dq,osq⟩,hw''⟩:=hw';subst hw'';have hbel2:=hbel.trans ((below_regrown wr dq osq).mono hbel.size)
     go_wp2
     go_ret
     exact ⟨jx (decide_eq_false (jiL HX.out HY.out hxy)).symm,hbel2⟩
   ·clear hca hdb
    go_wp2
    go_ret
    exact ⟨jx (decide_eq_true (jbm (k:=k) (by omega) (by have:=HL.out;omega) HQ.out)).symm,hbel⟩
 ·have hne:((l.length:Int) !=(m.length:Int))=true:=bne_iff_ne.2 (by omega)
  clear hca hdb
  go_enter Tryz.func173,Tryz.ntmps173
  go_wp2
  go_ret
  exact ⟨jx (decide_eq_false (fun e=>hlen (by rw [e]))).symm,Below.refl _ _⟩
theorem jow (l m:List (List En)) (a b:Value) (S S':List Nat) (w:World) (own own':Bool) (ha:Rep w own (kt l) a S) (hb:Rep w own' (kt m) b S'):
 Calls Tryz.prog 95 #[a,b] w fun e w'=>e=.returned (.bool (decide (l=m)))∧Below w.heap.size w w':=by
 obtain ⟨A,c,rfl,hc1,hc2,hca⟩:=Rep.open_ (size:=1) (enc:=fun es=>[ji es]) (fun _=>rfl) (by decide) ha
 obtain ⟨B,d,rfl,hd1,hd2,hdb⟩:=Rep.open_ (size:=1) (enc:=fun es=>[ji es]) (fun _=>rfl) (by decide) hb
 unfold maxLen at hc2 hd2;have hl1:l.length≤9223372036854775807:=by omega
 have hl2:m.length≤9223372036854775807:=by omega
 clear ha hb;by_cases hlen:l.length=m.length
 ·have HL:=Lib.hid hlen
  have hne:((l.length:Int) !=(m.length:Int))=false:=by rw [hlen];simp
  clear hlen
  go_enter Tryz.func95,Tryz.ntmps95
  go_wp2
  go_loopw [5] (fun i wr=>∃k:Nat,k≤l.length∧i=.int .i64 k∧l.take k=m.take k∧Below w.heap.size w wr) (fun i _=>l.length-(intOf i).toNat)
  case atStart=>exact ⟨0,by omega,rfl,rfl,Below.refl _ _⟩
  case round=>
   obtain ⟨k,hk,rfl,heq,hbel⟩:=hrel;have HQ:=Lib.hid heq;clear heq;by_cases hlt:k<l.length
   ·have hlt':k<m.length:=by have:=HL.out;omega
    obtain ⟨x,hx⟩:=je hlt;obtain ⟨y,hy⟩:=je hlt';obtain ⟨b1,o1,vk1,T1,rfl,-,hr1,-,-,hb1,hx1⟩:=hca k x hx;obtain ⟨b2,o2,vk2,T2,rfl,-,hr2,-,-,hb2,hx2⟩:=hdb k y hy;clear hca hdb;obtain ⟨au,_,aS0,aS1,rfl,rfl,ah0,rfl,rfl⟩:=hr1;obtain ⟨bu,_,bS0,bS1,rfl,rfl,bh0,rfl,rfl⟩:=hr2;have HX:=Lib.hid hx;have HY:=Lib.hid hy;clear hx hy;have p0:=cell_regrown ((hbel.cell (p:=⟨b1,o1+k,none⟩) hb1).trans (by simpa using hx1 0 _ rfl:w.cell? ⟨b1,o1+k,none⟩=_))
    have q0:=cell_regrown ((hbel.cell (p:=⟨b2,o2+k,none⟩) hb2).trans (by simpa using hx2 0 _ rfl:w.cell? ⟨b2,o2+k,none⟩=_))
    have hcall:=fun (W:World) (hW:Below w.heap.size w W)=>jrc x y _ _ _ _ W own own' (ah0.below hW (Nat.le_refl _)) (bh0.below hW (Nat.le_refl _))
    clear hx1 hx2;by_cases hxy:x=y
    ·have HXY:=Lib.hid hxy
     clear hxy
     go_wp2
     refine wp_region_quiet_below (by kernel_rfl) (by kernel_rfl) ?_
     repeat (go_big_quiet_step (exact Calls.regrown_of (cb (hcall _ (hbel.trans ((below_regrown wr _ _).mono hbel.size))) (decide_eq_true HXY.out))))
     refine wpQuiet_nil ?_;intro _ hw';obtain ⟨⟨dq,osq⟩,hw''⟩:=hw';subst hw'';have hbel2:=hbel.trans ((below_regrown wr dq osq).mono hbel.size)
     go_wp2
     go_roundw
     case rel=>exact ⟨k+1,by omega,by go_num,jbl HX.out (HXY.out▸HY.out) HQ.out,hbel2⟩
     case measure=>simp [intOf];omega
    ·go_wp2
     refine wp_region_quiet_below (by kernel_rfl) (by kernel_rfl) ?_
     repeat (go_big_quiet_step (exact Calls.regrown_of (cb (hcall _ (hbel.trans ((below_regrown wr _ _).mono hbel.size))) (decide_eq_false hxy))))
     refine wpQuiet_nil ?_;intro _ hw';obtain ⟨⟨dq,osq⟩,hw''⟩:=hw';subst hw'';have hbel2:=hbel.trans ((below_regrown wr dq osq).mono hbel.size)
     go_wp2
     go_ret
     exact ⟨jx (decide_eq_false (jiL HX.out HY.out hxy)).symm,hbel2⟩
   ·clear hca hdb
    go_wp2
    go_ret
    exact ⟨jx (decide_eq_true (jbm (k:=k) (by omega) (by have:=HL.out;omega) HQ.out)).symm,hbel⟩
 ·have hne:((l.length:Int) !=(m.length:Int))=true:=bne_iff_ne.2 (by omega)
  clear hca hdb
  go_enter Tryz.func95,Tryz.ntmps95
  go_wp2
  go_ret
  exact ⟨jx (decide_eq_false (fun e=>hlen (by rw [e]))).symm,Below.refl _ _⟩
theorem jv8 (x y:Tk) (a b:Value) (S S':List Nat) (w:World) (own own':Bool) (ha:AggRep w own (jn x) a S) (hb:AggRep w own' (jn y) b S'):
 Calls Tryz.prog 284 #[a,b] w fun e w'=>e=.returned (.bool (decide (x=y)))∧Below w.heap.size w w':=by
 obtain ⟨_,rfl,ha⟩:=ha;obtain ⟨_,rfl,hb⟩:=hb;obtain ⟨rfl,rfl⟩:=qF ha;obtain ⟨rfl,rfl⟩:=qF hb;clear ha hb;obtain ⟨xstate,xneed,xtri,xtil⟩:=x;obtain ⟨ystate,yneed,ytri,ytil⟩:=y
 go_enter Tryz.func284,Tryz.ntmps284
 go_wp2
 all_goals go_ret
 all_goals refine ⟨?_,(by repeat (first|exact Below.refl _ _|assumption|refine Below.alloc ?_ (by simp;try omega) _|refine jy ?_ (by assumption)))⟩
 all_goals simp_all
theorem jtI (l m:List (Tk)) (a b:Value) (S S':List Nat) (w:World) (own own':Bool) (ha:Rep w own (jw l) a S) (hb:Rep w own' (jw m) b S'):
 Calls Tryz.prog 254 #[a,b] w fun e w'=>e=.returned (.bool (decide (l=m)))∧Below w.heap.size w w':=by
 obtain ⟨A,c,rfl,hc1,hc2,hca⟩:=Rep.open_ (size:=4) (enc:=jn) (fun _=>rfl) (by decide) ha
 obtain ⟨B,d,rfl,hd1,hd2,hdb⟩:=Rep.open_ (size:=4) (enc:=jn) (fun _=>rfl) (by decide) hb
 unfold maxLen at hc2 hd2;have hl1:l.length≤9223372036854775807:=by omega
 have hl2:m.length≤9223372036854775807:=by omega
 clear ha hb;by_cases hlen:l.length=m.length
 ·have HL:=Lib.hid hlen
  have hne:((l.length:Int) !=(m.length:Int))=false:=by rw [hlen];simp
  clear hlen
  go_enter Tryz.func254,Tryz.ntmps254
  go_wp2
  go_loopw [5] (fun i wr=>∃k:Nat,k≤l.length∧i=.int .i64 k∧l.take k=m.take k∧Below w.heap.size w wr) (fun i _=>l.length-(intOf i).toNat)
  case atStart=>exact ⟨0,by omega,rfl,rfl,Below.refl _ _⟩
  case round=>
   obtain ⟨k,hk,rfl,heq,hbel⟩:=hrel;have HQ:=Lib.hid heq;clear heq;by_cases hlt:k<l.length
   ·have hlt':k<m.length:=by have:=HL.out;omega
    obtain ⟨x,hx⟩:=je hlt;obtain ⟨y,hy⟩:=je hlt';obtain ⟨b1,o1,vk1,T1,rfl,-,hr1,-,-,hb1,hx1⟩:=hca k x hx;obtain ⟨b2,o2,vk2,T2,rfl,-,hr2,-,-,hb2,hx2⟩:=hdb k y hy;clear hca hdb;obtain ⟨rfl,rfl⟩:=qF hr1;obtain ⟨rfl,rfl⟩:=qF hr2;have HX:=Lib.hid hx;have HY:=Lib.hid hy;clear hx hy;have p0:=cell_regrown ((hbel.cell (p:=⟨b1,o1+k*4,none⟩) hb1).trans (hx1 0 _ rfl:w.cell? ⟨b1,o1+k*4,none⟩=_));have p1:=cell_regrown ((hbel.cell (p:=⟨b1,o1+k*4+1,none⟩) hb1).trans (hx1 1 _ rfl:w.cell? ⟨b1,o1+k*4+1,none⟩=_));have p2:=cell_regrown ((hbel.cell (p:=⟨b1,o1+k*4+2,none⟩) hb1).trans (hx1 2 _ rfl:w.cell? ⟨b1,o1+k*4+2,none⟩=_));have p3:=cell_regrown ((hbel.cell (p:=⟨b1,o1+k*4+3,none⟩) hb1).trans (hx1 3 _ rfl:w.cell? ⟨b1,o1+k*4+3,none⟩=_));have q0:=cell_regrown ((hbel.cell (p:=⟨b2,o2+k*4,none⟩) hb2).trans (hx2 0 _ rfl:w.cell? ⟨b2,o2+k*4,none⟩=_));have q1:=cell_regrown ((hbel.cell (p:=⟨b2,o2+k*4+1,none⟩) hb2).trans (hx2 1 _ rfl:w.cell? ⟨b2,o2+k*4+1,none⟩=_))
    have q2:=cell_regrown ((hbel.cell (p:=⟨b2,o2+k*4+2,none⟩) hb2).trans (hx2 2 _ rfl:w.cell? ⟨b2,o2+k*4+2,none⟩=_));have q3:=cell_regrown ((hbel.cell (p:=⟨b2,o2+k*4+3,none⟩) hb2).trans (hx2 3 _ rfl:w.cell? ⟨b2,o2+k*4+3,none⟩=_));have hcall:=fun (W:World) (hW:Below w.heap.size w W)=>jv8 x y _ _ _ _ W own own' ⟨_,rfl,hr1.below hW (Nat.le_refl _)⟩ ⟨_,rfl,hr2.below hW (Nat.le_refl _)⟩
    clear hx1 hx2;by_cases hxy:x=y
    ·have HXY:=Lib.hid hxy
     clear hxy
     go_wp2
     refine wp_region_quiet_below (by kernel_rfl) (by kernel_rfl) ?_
     repeat (go_big_quiet_step (exact Calls.regrown_of (cb (hcall _ (hbel.trans ((below_regrown wr _ _).mono hbel.size))) (decide_eq_true HXY.out))))
     refine wpQuiet_nil ?_;intro _ hw';obtain ⟨⟨dq,osq⟩,hw''⟩:=hw';subst hw'';have hbel2:=hbel.trans ((below_regrown wr dq osq).mono hbel.size)
     go_wp2
     go_roundw
     case rel=>exact ⟨k+1,by omega,by go_num,jbl HX.out (HXY.out▸HY.out) HQ.out,hbel2⟩
     case measure=>simp [intOf];omega
    ·go_wp2
     refine wp_region_quiet_below (by kernel_rfl) (by kernel_rfl) ?_
     repeat (go_big_quiet_step (exact Calls.regrown_of (cb (hcall _ (hbel.trans ((below_regrown wr _ _).mono hbel.size))) (decide_eq_false hxy))))
     refine wpQuiet_nil ?_;intro _ hw';obtain ⟨⟨dq,osq⟩,hw''⟩:=hw';subst hw'';have hbel2:=hbel.trans ((below_regrown wr dq osq).mono hbel.size)
     go_wp2
     go_ret
     exact ⟨jx (decide_eq_false (jiL HX.out HY.out hxy)).symm,hbel2⟩
   ·clear hca hdb
    go_wp2
    go_ret
    exact ⟨jx (decide_eq_true (jbm (k:=k) (by omega) (by have:=HL.out;omega) HQ.out)).symm,hbel⟩
 ·have hne:((l.length:Int) !=(m.length:Int))=true:=bne_iff_ne.2 (by omega)
  clear hca hdb
  go_enter Tryz.func254,Tryz.ntmps254
  go_wp2
  go_ret
  exact ⟨jx (decide_eq_false (fun e=>hlen (by rw [e]))).symm,Below.refl _ _⟩
theorem jyK (x y:Rn) (a b:Value) (S S':List Nat) (w:World) (own own':Bool) (ha:AggRep w own (jd x) a S) (hb:AggRep w own' (jd y) b S'):
 Calls Tryz.prog 174 #[a,b] w fun e w'=>e=.returned (.bool (decide (x=y)))∧Below w.heap.size w w':=by
 obtain ⟨_,rfl,ha⟩:=ha;obtain ⟨_,rfl,hb⟩:=hb;obtain ⟨av0,av1,aS0,aS1,rfl,ah0,ah1,rfl⟩:=kh ha;obtain ⟨bv0,bv1,bS0,bS1,rfl,bh0,bh1,rfl⟩:=kh hb;clear ha hb;obtain ⟨xid,xplan,xstate,xtasks⟩:=x;obtain ⟨yid,yplan,ystate,ytasks⟩:=y
 go_enter Tryz.func174,Tryz.ntmps174
 go_wp2_with (first
  |(go_at_call 125;refine (jpz xplan yplan _ _ _ _ _ _ _ ⟨_,rfl,jfS (ah0.below (by repeat (first|exact Below.refl _ _|assumption|refine Below.alloc ?_ (by simp;try omega) _|refine jy ?_ (by assumption))) (Nat.le_refl _))⟩ ⟨_,rfl,jfS (bh0.below (by repeat (first|exact Below.refl _ _|assumption|refine Below.alloc ?_ (by simp;try omega) _|refine jy ?_ (by assumption))) (Nat.le_refl _))⟩).mono ?_;rintro e w1 ⟨rfl,hb1⟩;obtain ⟨hc1,hf1⟩:=qa hb1)
  |(go_at_call 254;refine (jtI xtasks ytasks _ _ _ _ _ _ _ (ah1.below (by repeat (first|exact Below.refl _ _|assumption|refine Below.alloc ?_ (by simp;try omega) _|refine jy ?_ (by assumption))) (Nat.le_refl _)) (bh1.below (by repeat (first|exact Below.refl _ _|assumption|refine Below.alloc ?_ (by simp;try omega) _|refine jy ?_ (by assumption))) (Nat.le_refl _))).mono ?_;rintro e w1 ⟨rfl,hb1⟩;obtain ⟨hc1,hf1⟩:=qa hb1))
 all_goals go_ret
 all_goals refine ⟨?_,(by repeat (first|exact Below.refl _ _|assumption|refine Below.alloc ?_ (by simp;try omega) _|refine jy ?_ (by assumption)))⟩
 all_goals simp_all
theorem jv9 (l m:List (Rn)) (a b:Value) (S S':List Nat) (w:World) (own own':Bool) (ha:Rep w own (jM l) a S) (hb:Rep w own' (jM m) b S'):
 Calls Tryz.prog 96 #[a,b] w fun e w'=>e=.returned (.bool (decide (l=m)))∧Below w.heap.size w w':=by
 obtain ⟨A,c,rfl,hc1,hc2,hca⟩:=Rep.open_ (size:=8) (enc:=jd) (fun _=>rfl) (by decide) ha
 obtain ⟨B,d,rfl,hd1,hd2,hdb⟩:=Rep.open_ (size:=8) (enc:=jd) (fun _=>rfl) (by decide) hb
 unfold maxLen at hc2 hd2;have hl1:l.length≤9223372036854775807:=by omega
 have hl2:m.length≤9223372036854775807:=by omega
 clear ha hb;by_cases hlen:l.length=m.length
 ·have HL:=Lib.hid hlen
  have hne:((l.length:Int) !=(m.length:Int))=false:=by rw [hlen];simp
  clear hlen
  go_enter Tryz.func96,Tryz.ntmps96
  go_wp2
  go_loopw [5] (fun i wr=>∃k:Nat,k≤l.length∧i=.int .i64 k∧l.take k=m.take k∧Below w.heap.size w wr) (fun i _=>l.length-(intOf i).toNat)
  case atStart=>exact ⟨0,by omega,rfl,rfl,Below.refl _ _⟩
  case round=>
   obtain ⟨k,hk,rfl,heq,hbel⟩:=hrel;have HQ:=Lib.hid heq;clear heq;by_cases hlt:k<l.length
   ·have hlt':k<m.length:=by have:=HL.out;omega
    obtain ⟨x,hx⟩:=je hlt;obtain ⟨y,hy⟩:=je hlt';obtain ⟨b1,o1,vk1,T1,rfl,-,hr1,-,-,hb1,hx1⟩:=hca k x hx;obtain ⟨b2,o2,vk2,T2,rfl,-,hr2,-,-,hb2,hx2⟩:=hdb k y hy;clear hca hdb;obtain ⟨av0,av1,aS0,aS1,rfl,ah0,ah1,rfl⟩:=kh hr1;obtain ⟨bv0,bv1,bS0,bS1,rfl,bh0,bh1,rfl⟩:=kh hr2;have HX:=Lib.hid hx;have HY:=Lib.hid hy;clear hx hy;have p0:=cell_regrown ((hbel.cell (p:=⟨b1,o1+k*8,none⟩) hb1).trans (hx1 0 _ rfl:w.cell? ⟨b1,o1+k*8,none⟩=_));have p1:=cell_regrown ((hbel.cell (p:=⟨b1,o1+k*8+1,none⟩) hb1).trans (hx1 1 _ rfl:w.cell? ⟨b1,o1+k*8+1,none⟩=_));have p2:=cell_regrown ((hbel.cell (p:=⟨b1,o1+k*8+2,none⟩) hb1).trans (hx1 2 _ rfl:w.cell? ⟨b1,o1+k*8+2,none⟩=_));have p3:=cell_regrown ((hbel.cell (p:=⟨b1,o1+k*8+3,none⟩) hb1).trans (hx1 3 _ rfl:w.cell? ⟨b1,o1+k*8+3,none⟩=_));have p4:=cell_regrown ((hbel.cell (p:=⟨b1,o1+k*8+4,none⟩) hb1).trans (hx1 4 _ rfl:w.cell? ⟨b1,o1+k*8+4,none⟩=_));have p5:=cell_regrown ((hbel.cell (p:=⟨b1,o1+k*8+5,none⟩) hb1).trans (hx1 5 _ rfl:w.cell? ⟨b1,o1+k*8+5,none⟩=_))
    have p6:=cell_regrown ((hbel.cell (p:=⟨b1,o1+k*8+6,none⟩) hb1).trans (hx1 6 _ rfl:w.cell? ⟨b1,o1+k*8+6,none⟩=_));have p7:=cell_regrown ((hbel.cell (p:=⟨b1,o1+k*8+7,none⟩) hb1).trans (hx1 7 _ rfl:w.cell? ⟨b1,o1+k*8+7,none⟩=_));have q0:=cell_regrown ((hbel.cell (p:=⟨b2,o2+k*8,none⟩) hb2).trans (hx2 0 _ rfl:w.cell? ⟨b2,o2+k*8,none⟩=_));have q1:=cell_regrown ((hbel.cell (p:=⟨b2,o2+k*8+1,none⟩) hb2).trans (hx2 1 _ rfl:w.cell? ⟨b2,o2+k*8+1,none⟩=_));have q2:=cell_regrown ((hbel.cell (p:=⟨b2,o2+k*8+2,none⟩) hb2).trans (hx2 2 _ rfl:w.cell? ⟨b2,o2+k*8+2,none⟩=_));have q3:=cell_regrown ((hbel.cell (p:=⟨b2,o2+k*8+3,none⟩) hb2).trans (hx2 3 _ rfl:w.cell? ⟨b2,o2+k*8+3,none⟩=_));have q4:=cell_regrown ((hbel.cell (p:=⟨b2,o2+k*8+4,none⟩) hb2).trans (hx2 4 _ rfl:w.cell? ⟨b2,o2+k*8+4,none⟩=_));have q5:=cell_regrown ((hbel.cell (p:=⟨b2,o2+k*8+5,none⟩) hb2).trans (hx2 5 _ rfl:w.cell? ⟨b2,o2+k*8+5,none⟩=_))
    have q6:=cell_regrown ((hbel.cell (p:=⟨b2,o2+k*8+6,none⟩) hb2).trans (hx2 6 _ rfl:w.cell? ⟨b2,o2+k*8+6,none⟩=_));have q7:=cell_regrown ((hbel.cell (p:=⟨b2,o2+k*8+7,none⟩) hb2).trans (hx2 7 _ rfl:w.cell? ⟨b2,o2+k*8+7,none⟩=_));have hcall:=fun (W:World) (hW:Below w.heap.size w W)=>jyK x y _ _ _ _ W own own' ⟨_,rfl,hr1.below hW (Nat.le_refl _)⟩ ⟨_,rfl,hr2.below hW (Nat.le_refl _)⟩
    clear hx1 hx2;by_cases hxy:x=y
    ·have HXY:=Lib.hid hxy
     clear hxy
     go_wp2
     refine wp_region_quiet_below (by kernel_rfl) (by kernel_rfl) ?_
     repeat (go_big_quiet_step (exact Calls.regrown_of (cb (hcall _ (hbel.trans ((below_regrown wr _ _).mono hbel.size))) (decide_eq_true HXY.out))))
     refine wpQuiet_nil ?_;intro _ hw';obtain ⟨⟨dq,osq⟩,hw''⟩:=hw';subst hw'';have hbel2:=hbel.trans ((below_regrown wr dq osq).mono hbel.size)
     go_wp2
     go_roundw
     case rel=>exact ⟨k+1,by omega,by go_num,jbl HX.out (HXY.out▸HY.out) HQ.out,hbel2⟩
     case measure=>simp [intOf];omega
    ·go_wp2
     refine wp_region_quiet_below (by kernel_rfl) (by kernel_rfl) ?_
     repeat (go_big_quiet_step (exact Calls.regrown_of (cb (hcall _ (hbel.trans ((below_regrown wr _ _).mono hbel.size))) (decide_eq_false hxy))))
     refine wpQuiet_nil ?_;intro _ hw';obtain ⟨⟨dq,osq⟩,hw''⟩:=hw';subst hw'';have hbel2:=hbel.trans ((below_regrown wr dq osq).mono hbel.size)
     go_wp2
     go_ret
     exact ⟨jx (decide_eq_false (jiL HX.out HY.out hxy)).symm,hbel2⟩
   ·clear hca hdb
    go_wp2
    go_ret
    exact ⟨jx (decide_eq_true (jbm (k:=k) (by omega) (by have:=HL.out;omega) HQ.out)).symm,hbel⟩
 ·have hne:((l.length:Int) !=(m.length:Int))=true:=bne_iff_ne.2 (by omega)
  clear hca hdb
  go_enter Tryz.func96,Tryz.ntmps96
  go_wp2
  go_ret
  exact ⟨jx (decide_eq_false (fun e=>hlen (by rw [e]))).symm,Below.refl _ _⟩
theorem jv7 (x y:Yd) (a b:Value) (S S':List Nat) (w:World) (own own':Bool) (ha:AggRep w own (jb x) a S) (hb:AggRep w own' (jb y) b S'):
 Calls Tryz.prog 25 #[a,b] w fun e w'=>e=.returned (.bool (decide (x=y)))∧Below w.heap.size w w':=by
 obtain ⟨_,rfl,ha⟩:=ha;obtain ⟨_,rfl,hb⟩:=hb;obtain ⟨av0,av1,aS0,aS1,rfl,ah0,ah1,rfl⟩:=qf ha;obtain ⟨bv0,bv1,bS0,bS1,rfl,bh0,bh1,rfl⟩:=qf hb;clear ha hb;obtain ⟨xnow,xseq,xshelf,xruns⟩:=x;obtain ⟨ynow,yseq,yshelf,yruns⟩:=y
 go_enter Tryz.func25,Tryz.ntmps25
 go_wp2_with (first
  |(go_at_call 95;refine (jow xshelf yshelf _ _ _ _ _ _ _ (ah0.below (by repeat (first|exact Below.refl _ _|assumption|refine Below.alloc ?_ (by simp;try omega) _|refine jy ?_ (by assumption))) (Nat.le_refl _)) (bh0.below (by repeat (first|exact Below.refl _ _|assumption|refine Below.alloc ?_ (by simp;try omega) _|refine jy ?_ (by assumption))) (Nat.le_refl _))).mono ?_;rintro e w1 ⟨rfl,hb1⟩;obtain ⟨hc1,hf1⟩:=qa hb1)
  |(go_at_call 96;refine (jv9 xruns yruns _ _ _ _ _ _ _ (ah1.below (by repeat (first|exact Below.refl _ _|assumption|refine Below.alloc ?_ (by simp;try omega) _|refine jy ?_ (by assumption))) (Nat.le_refl _)) (bh1.below (by repeat (first|exact Below.refl _ _|assumption|refine Below.alloc ?_ (by simp;try omega) _|refine jy ?_ (by assumption))) (Nat.le_refl _))).mono ?_;rintro e w1 ⟨rfl,hb1⟩;obtain ⟨hc1,hf1⟩:=qa hb1))
 all_goals go_ret
 all_goals refine ⟨?_,(by repeat (first|exact Below.refl _ _|assumption|refine Below.alloc ?_ (by simp;try omega) _|refine jy ?_ (by assumption)))⟩
 all_goals simp_all
theorem jwb (x y:Dd) (a b:Value) (S S':List Nat) (w:World) (own own':Bool) (ha:AggRep w own (jg x) a S) (hb:AggRep w own' (jg y) b S'):
 Calls Tryz.prog 35 #[a,b] w fun e w'=>e=.returned (.bool (decide (x=y)))∧Below w.heap.size w w':=by
 obtain ⟨_,rfl,ha⟩:=ha;obtain ⟨_,rfl,hb⟩:=hb;obtain ⟨av0,rfl,ah0⟩:=kE ha;obtain ⟨bv0,rfl,bh0⟩:=kE hb;clear ha hb;obtain ⟨xkind,xrun,xplan,xtask,xtri,xworker,xdraw⟩:=x;obtain ⟨ykind,yrun,yplan,ytask,ytri,yworker,ydraw⟩:=y
 go_enter Tryz.func35,Tryz.ntmps35
 go_wp2_with (first
  |(go_at_call 125;refine (jpz xplan yplan _ _ _ _ _ _ _ ⟨_,rfl,jfS (ah0.below (by repeat (first|exact Below.refl _ _|assumption|refine Below.alloc ?_ (by simp;try omega) _|refine jy ?_ (by assumption))) (Nat.le_refl _))⟩ ⟨_,rfl,jfS (bh0.below (by repeat (first|exact Below.refl _ _|assumption|refine Below.alloc ?_ (by simp;try omega) _|refine jy ?_ (by assumption))) (Nat.le_refl _))⟩).mono ?_;rintro e w1 ⟨rfl,hb1⟩;obtain ⟨hc1,hf1⟩:=qa hb1))
 all_goals go_ret
 all_goals refine ⟨?_,(by repeat (first|exact Below.refl _ _|assumption|refine Below.alloc ?_ (by simp;try omega) _|refine jy ?_ (by assumption)))⟩
 all_goals simp_all
end Go.Proofs.YtmnpailnelmpiaaGreat
