/- Parts. -/
import Derived.Test.YtmnpailnelmpiaaQData
import Derived.Test.YtmnpailnelmpiaaRows
set_option linter.unusedSimpArgs false
set_option linter.unusedVariables false
set_option maxHeartbeats 1000000
namespace Go.Proofs.Ytmnpailnelmpiaa
open Go.RowKit Go.Sort Go.BigFrame
theorem jqn (x y:Ed) (a b:Value) (S S':List Nat) (w:World) (own own':Bool) (ha:AggRep w own (jF x) a S) (hb:AggRep w own' (jF y) b S'):
 Calls Try.prog 130 #[a,b] w fun e w'=>e=.returned (.bool (decide (x=y)))∧Below w.heap.size w w':=by
 obtain ⟨_,rfl,ha⟩:=ha;obtain ⟨_,rfl,hb⟩:=hb;obtain ⟨rfl,rfl⟩:=vn ha;obtain ⟨rfl,rfl⟩:=vn hb;clear ha hb;obtain ⟨xsrc,xdst⟩:=x;obtain ⟨ysrc,ydst⟩:=y
 go_enter Try.func130,Try.ntmps130
 go_wp2
 all_goals go_ret
 all_goals refine ⟨?_,(by repeat (first|exact Below.refl _ _|assumption|refine Below.alloc ?_ (by simp;try omega) _|refine jR ?_ (by assumption)))⟩
 all_goals simp_all
theorem joc (l m:List (Ed)) (a b:Value) (S S':List Nat) (w:World) (own own':Bool) (ha:Rep w own (jv l) a S) (hb:Rep w own' (jv m) b S'):
 Calls Try.prog 107 #[a,b] w fun e w'=>e=.returned (.bool (decide (l=m)))∧Below w.heap.size w w':=by
 obtain ⟨A,c,rfl,hc1,hc2,hca⟩:=Rep.open_ (size:=2) (enc:=jF) (fun _=>rfl) (by decide) ha
 obtain ⟨B,d,rfl,hd1,hd2,hdb⟩:=Rep.open_ (size:=2) (enc:=jF) (fun _=>rfl) (by decide) hb
 unfold maxLen at hc2 hd2;have hl1:l.length≤9223372036854775807:=by omega
 have hl2:m.length≤9223372036854775807:=by omega
 clear ha hb;by_cases hlen:l.length=m.length
 ·have HL:=Lib.hid hlen
  have hne:((l.length:Int) !=(m.length:Int))=false:=by rw [hlen];simp
  clear hlen
  go_enter Try.func107,Try.ntmps107
  go_wp2
  go_loopw [5] (fun i wr=>∃k:Nat,k≤l.length∧i=.int .i64 k∧l.take k=m.take k∧Below w.heap.size w wr) (fun i _=>l.length-(intOf i).toNat)
  case atStart=>exact ⟨0,by omega,rfl,rfl,Below.refl _ _⟩
  case round=>
   obtain ⟨k,hk,rfl,heq,hbel⟩:=hrel;have HQ:=Lib.hid heq;clear heq;by_cases hlt:k<l.length
   ·have hlt':k<m.length:=by have:=HL.out;omega
    obtain ⟨x,hx⟩:=jg hlt;obtain ⟨y,hy⟩:=jg hlt';obtain ⟨b1,o1,vk1,T1,rfl,-,hr1,-,-,hb1,hx1⟩:=hca k x hx;obtain ⟨b2,o2,vk2,T2,rfl,-,hr2,-,-,hb2,hx2⟩:=hdb k y hy;clear hca hdb;obtain ⟨rfl,rfl⟩:=vn hr1;obtain ⟨rfl,rfl⟩:=vn hr2;have HX:=Lib.hid hx;have HY:=Lib.hid hy;clear hx hy;have p0:=cell_regrown ((hbel.cell (p:=⟨b1,o1+k*2,none⟩) hb1).trans (hx1 0 _ rfl:w.cell? ⟨b1,o1+k*2,none⟩=_));have p1:=cell_regrown ((hbel.cell (p:=⟨b1,o1+k*2+1,none⟩) hb1).trans (hx1 1 _ rfl:w.cell? ⟨b1,o1+k*2+1,none⟩=_));have q0:=cell_regrown ((hbel.cell (p:=⟨b2,o2+k*2,none⟩) hb2).trans (hx2 0 _ rfl:w.cell? ⟨b2,o2+k*2,none⟩=_));have q1:=cell_regrown ((hbel.cell (p:=⟨b2,o2+k*2+1,none⟩) hb2).trans (hx2 1 _ rfl:w.cell? ⟨b2,o2+k*2+1,none⟩=_));have hcall:=fun (W:World) (hW:Below w.heap.size w W)=>jqn x y _ _ _ _ W own own' ⟨_,rfl,hr1.below hW (Nat.le_refl _)⟩ ⟨_,rfl,hr2.below hW (Nat.le_refl _)⟩
    clear hx1 hx2;by_cases hxy:x=y
    ·have HXY:=Lib.hid hxy
     clear hxy
     go_wp2
     refine wp_region_quiet_below (by kernel_rfl) (by kernel_rfl) ?_
     repeat (go_big_quiet_step (exact Calls.regrown_of (cb (hcall _ (hbel.trans ((below_regrown wr _ _).mono hbel.size))) (decide_eq_true HXY.out))))
     refine wpQuiet_nil ?_;intro _ hw';obtain ⟨⟨dq,osq⟩,hw''⟩:=hw';subst hw'';have hbel2:=hbel.trans ((below_regrown wr dq osq).mono hbel.size)
     go_wp2
     go_roundw
     case rel=>exact ⟨k+1,by omega,by go_num,zG HX.out (HXY.out▸HY.out) HQ.out,hbel2⟩
     case measure=>simp [intOf];omega
    ·go_wp2
     refine wp_region_quiet_below (by kernel_rfl) (by kernel_rfl) ?_
     repeat (go_big_quiet_step (exact Calls.regrown_of (cb (hcall _ (hbel.trans ((below_regrown wr _ _).mono hbel.size))) (decide_eq_false hxy))))
     refine wpQuiet_nil ?_;intro _ hw';obtain ⟨⟨dq,osq⟩,hw''⟩:=hw';subst hw'';have hbel2:=hbel.trans ((below_regrown wr dq osq).mono hbel.size)
     go_wp2
     go_ret
     exact ⟨jB (decide_eq_false (jfk HX.out HY.out hxy)).symm,hbel2⟩
   ·clear hca hdb
    go_wp2
    go_ret
    exact ⟨jB (decide_eq_true (zH (k:=k) (by omega) (by have:=HL.out;omega) HQ.out)).symm,hbel⟩
 ·have hne:((l.length:Int) !=(m.length:Int))=true:=bne_iff_ne.2 (by omega)
  clear hca hdb
  go_enter Try.func107,Try.ntmps107
  go_wp2
  go_ret
  exact ⟨jB (decide_eq_false (fun e=>hlen (by rw [e]))).symm,Below.refl _ _⟩
theorem jkK (x y:Pl) (a b:Value) (S S':List Nat) (w:World) (own own':Bool) (ha:AggRep w own (ja x) a S) (hb:AggRep w own' (ja y) b S'):
 Calls Try.prog 69 #[a,b] w fun e w'=>e=.returned (.bool (decide (x=y)))∧Below w.heap.size w w':=by
 obtain ⟨_,rfl,ha⟩:=ha;obtain ⟨_,rfl,hb⟩:=hb;obtain ⟨av0,rfl,ah0⟩:=vN ha;obtain ⟨bv0,rfl,bh0⟩:=vN hb;clear ha hb;obtain ⟨xprio,xmost,xwait,xtasks,xedges⟩:=x;obtain ⟨yprio,ymost,ywait,ytasks,yedges⟩:=y
 go_enter Try.func69,Try.ntmps69
 go_wp2_with (first
  |(go_at_call 107;refine (joc xedges yedges _ _ _ _ _ _ _ (ah0.below (by repeat (first|exact Below.refl _ _|assumption|refine Below.alloc ?_ (by simp;try omega) _|refine jR ?_ (by assumption))) (Nat.le_refl _)) (bh0.below (by repeat (first|exact Below.refl _ _|assumption|refine Below.alloc ?_ (by simp;try omega) _|refine jR ?_ (by assumption))) (Nat.le_refl _))).mono ?_;rintro e w1 ⟨rfl,hb1⟩;obtain ⟨hc1,hf1⟩:=vL hb1))
 all_goals go_ret
 all_goals refine ⟨?_,(by repeat (first|exact Below.refl _ _|assumption|refine Below.alloc ?_ (by simp;try omega) _|refine jR ?_ (by assumption)))⟩
 all_goals simp_all
theorem job (x y:En) (a b:Value) (S S':List Nat) (w:World) (own own':Bool) (ha:AggRep w own (jk x) a S) (hb:AggRep w own' (jk y) b S'):
 Calls Try.prog 123 #[a,b] w fun e w'=>e=.returned (.bool (decide (x=y)))∧Below w.heap.size w w':=by
 obtain ⟨_,rfl,ha⟩:=ha;obtain ⟨_,rfl,hb⟩:=hb;obtain ⟨rfl,rfl⟩:=qd ha;obtain ⟨rfl,rfl⟩:=qd hb;clear ha hb;obtain ⟨xprio,xseq,xrun,xtask⟩:=x;obtain ⟨yprio,yseq,yrun,ytask⟩:=y
 go_enter Try.func123,Try.ntmps123
 go_wp2
 all_goals go_ret
 all_goals refine ⟨?_,(by repeat (first|exact Below.refl _ _|assumption|refine Below.alloc ?_ (by simp;try omega) _|refine jR ?_ (by assumption)))⟩
 all_goals simp_all
theorem jl7 (l m:List (En)) (a b:Value) (S S':List Nat) (w:World) (own own':Bool) (ha:Rep w own (js l) a S) (hb:Rep w own' (js m) b S'):
 Calls Try.prog 94 #[a,b] w fun e w'=>e=.returned (.bool (decide (l=m)))∧Below w.heap.size w w':=by
 obtain ⟨A,c,rfl,hc1,hc2,hca⟩:=Rep.open_ (size:=4) (enc:=jk) (fun _=>rfl) (by decide) ha
 obtain ⟨B,d,rfl,hd1,hd2,hdb⟩:=Rep.open_ (size:=4) (enc:=jk) (fun _=>rfl) (by decide) hb
 unfold maxLen at hc2 hd2;have hl1:l.length≤9223372036854775807:=by omega
 have hl2:m.length≤9223372036854775807:=by omega
 clear ha hb;by_cases hlen:l.length=m.length
 ·have HL:=Lib.hid hlen
  have hne:((l.length:Int) !=(m.length:Int))=false:=by rw [hlen];simp
  clear hlen
  go_enter Try.func94,Try.ntmps94
  go_wp2
  go_loopw [5] (fun i wr=>∃k:Nat,k≤l.length∧i=.int .i64 k∧l.take k=m.take k∧Below w.heap.size w wr) (fun i _=>l.length-(intOf i).toNat)
  case atStart=>exact ⟨0,by omega,rfl,rfl,Below.refl _ _⟩
  case round=>
   obtain ⟨k,hk,rfl,heq,hbel⟩:=hrel;have HQ:=Lib.hid heq;clear heq;by_cases hlt:k<l.length
   ·have hlt':k<m.length:=by have:=HL.out;omega
    obtain ⟨x,hx⟩:=jg hlt;obtain ⟨y,hy⟩:=jg hlt';obtain ⟨b1,o1,vk1,T1,rfl,-,hr1,-,-,hb1,hx1⟩:=hca k x hx;obtain ⟨b2,o2,vk2,T2,rfl,-,hr2,-,-,hb2,hx2⟩:=hdb k y hy;clear hca hdb;obtain ⟨rfl,rfl⟩:=qd hr1;obtain ⟨rfl,rfl⟩:=qd hr2;have HX:=Lib.hid hx;have HY:=Lib.hid hy;clear hx hy;have p0:=cell_regrown ((hbel.cell (p:=⟨b1,o1+k*4,none⟩) hb1).trans (hx1 0 _ rfl:w.cell? ⟨b1,o1+k*4,none⟩=_));have p1:=cell_regrown ((hbel.cell (p:=⟨b1,o1+k*4+1,none⟩) hb1).trans (hx1 1 _ rfl:w.cell? ⟨b1,o1+k*4+1,none⟩=_));have p2:=cell_regrown ((hbel.cell (p:=⟨b1,o1+k*4+2,none⟩) hb1).trans (hx1 2 _ rfl:w.cell? ⟨b1,o1+k*4+2,none⟩=_));have p3:=cell_regrown ((hbel.cell (p:=⟨b1,o1+k*4+3,none⟩) hb1).trans (hx1 3 _ rfl:w.cell? ⟨b1,o1+k*4+3,none⟩=_));have q0:=cell_regrown ((hbel.cell (p:=⟨b2,o2+k*4,none⟩) hb2).trans (hx2 0 _ rfl:w.cell? ⟨b2,o2+k*4,none⟩=_));have q1:=cell_regrown ((hbel.cell (p:=⟨b2,o2+k*4+1,none⟩) hb2).trans (hx2 1 _ rfl:w.cell? ⟨b2,o2+k*4+1,none⟩=_))
    have q2:=cell_regrown ((hbel.cell (p:=⟨b2,o2+k*4+2,none⟩) hb2).trans (hx2 2 _ rfl:w.cell? ⟨b2,o2+k*4+2,none⟩=_));have q3:=cell_regrown ((hbel.cell (p:=⟨b2,o2+k*4+3,none⟩) hb2).trans (hx2 3 _ rfl:w.cell? ⟨b2,o2+k*4+3,none⟩=_));have hcall:=fun (W:World) (hW:Below w.heap.size w W)=>job x y _ _ _ _ W own own' ⟨_,rfl,hr1.below hW (Nat.le_refl _)⟩ ⟨_,rfl,hr2.below hW (Nat.le_refl _)⟩
    clear hx1 hx2;by_cases hxy:x=y
    ·have HXY:=Lib.hid hxy
     clear hxy
     go_wp2
     refine wp_region_quiet_below (by kernel_rfl) (by kernel_rfl) ?_
     repeat (go_big_quiet_step (exact Calls.regrown_of (cb (hcall _ (hbel.trans ((below_regrown wr _ _).mono hbel.size))) (decide_eq_true HXY.out))))
     refine wpQuiet_nil ?_;intro _ hw';obtain ⟨⟨dq,osq⟩,hw''⟩:=hw';subst hw'';have hbel2:=hbel.trans ((below_regrown wr dq osq).mono hbel.size)
     go_wp2
     go_roundw
     case rel=>exact ⟨k+1,by omega,by go_num,zG HX.out (HXY.out▸HY.out) HQ.out,hbel2⟩
     case measure=>simp [intOf];omega
    ·go_wp2
     refine wp_region_quiet_below (by kernel_rfl) (by kernel_rfl) ?_
     repeat (go_big_quiet_step (exact Calls.regrown_of (cb (hcall _ (hbel.trans ((below_regrown wr _ _).mono hbel.size))) (decide_eq_false hxy))))
     refine wpQuiet_nil ?_;intro _ hw';obtain ⟨⟨dq,osq⟩,hw''⟩:=hw';subst hw'';have hbel2:=hbel.trans ((below_regrown wr dq osq).mono hbel.size)
     go_wp2
     go_ret
     exact ⟨jB (decide_eq_false (jfk HX.out HY.out hxy)).symm,hbel2⟩
   ·clear hca hdb
    go_wp2
    go_ret
    exact ⟨jB (decide_eq_true (zH (k:=k) (by omega) (by have:=HL.out;omega) HQ.out)).symm,hbel⟩
 ·have hne:((l.length:Int) !=(m.length:Int))=true:=bne_iff_ne.2 (by omega)
  clear hca hdb
  go_enter Try.func94,Try.ntmps94
  go_wp2
  go_ret
  exact ⟨jB (decide_eq_false (fun e=>hlen (by rw [e]))).symm,Below.refl _ _⟩
theorem jjT (l m:List (List En)) (a b:Value) (S S':List Nat) (w:World) (own own':Bool) (ha:Rep w own (kO l) a S) (hb:Rep w own' (kO m) b S'):
 Calls Try.prog 48 #[a,b] w fun e w'=>e=.returned (.bool (decide (l=m)))∧Below w.heap.size w w':=by
 obtain ⟨A,c,rfl,hc1,hc2,hca⟩:=Rep.open_ (size:=1) (enc:=fun es=>[js es]) (fun _=>rfl) (by decide) ha
 obtain ⟨B,d,rfl,hd1,hd2,hdb⟩:=Rep.open_ (size:=1) (enc:=fun es=>[js es]) (fun _=>rfl) (by decide) hb
 unfold maxLen at hc2 hd2;have hl1:l.length≤9223372036854775807:=by omega
 have hl2:m.length≤9223372036854775807:=by omega
 clear ha hb;by_cases hlen:l.length=m.length
 ·have HL:=Lib.hid hlen
  have hne:((l.length:Int) !=(m.length:Int))=false:=by rw [hlen];simp
  clear hlen
  go_enter Try.func48,Try.ntmps48
  go_wp2
  go_loopw [5] (fun i wr=>∃k:Nat,k≤l.length∧i=.int .i64 k∧l.take k=m.take k∧Below w.heap.size w wr) (fun i _=>l.length-(intOf i).toNat)
  case atStart=>exact ⟨0,by omega,rfl,rfl,Below.refl _ _⟩
  case round=>
   obtain ⟨k,hk,rfl,heq,hbel⟩:=hrel;have HQ:=Lib.hid heq;clear heq;by_cases hlt:k<l.length
   ·have hlt':k<m.length:=by have:=HL.out;omega
    obtain ⟨x,hx⟩:=jg hlt;obtain ⟨y,hy⟩:=jg hlt';obtain ⟨b1,o1,vk1,T1,rfl,-,hr1,-,-,hb1,hx1⟩:=hca k x hx;obtain ⟨b2,o2,vk2,T2,rfl,-,hr2,-,-,hb2,hx2⟩:=hdb k y hy;clear hca hdb;obtain ⟨au,_,aS0,aS1,rfl,rfl,ah0,rfl,rfl⟩:=hr1;obtain ⟨bu,_,bS0,bS1,rfl,rfl,bh0,rfl,rfl⟩:=hr2;have HX:=Lib.hid hx;have HY:=Lib.hid hy;clear hx hy;have p0:=cell_regrown ((hbel.cell (p:=⟨b1,o1+k,none⟩) hb1).trans (by simpa using hx1 0 _ rfl:w.cell? ⟨b1,o1+k,none⟩=_))
    have q0:=cell_regrown ((hbel.cell (p:=⟨b2,o2+k,none⟩) hb2).trans (by simpa using hx2 0 _ rfl:w.cell? ⟨b2,o2+k,none⟩=_))
    have hcall:=fun (W:World) (hW:Below w.heap.size w W)=>jl7 x y _ _ _ _ W own own' (ah0.below hW (Nat.le_refl _)) (bh0.below hW (Nat.le_refl _))
    clear hx1 hx2;by_cases hxy:x=y
    ·have HXY:=Lib.hid hxy
     clear hxy
     go_wp2
     refine wp_region_quiet_below (by kernel_rfl) (by kernel_rfl) ?_
     repeat (go_big_quiet_step (exact Calls.regrown_of (cb (hcall _ (hbel.trans ((below_regrown wr _ _).mono hbel.size))) (decide_eq_true HXY.out))))
     refine wpQuiet_nil ?_;intro _ hw';obtain ⟨⟨dq,osq⟩,hw''⟩:=hw';subst hw'';have hbel2:=hbel.trans ((below_regrown wr dq osq).mono hbel.size)
     go_wp2
     go_roundw
     case rel=>exact ⟨k+1,by omega,by go_num,zG HX.out (HXY.out▸HY.out) HQ.out,hbel2⟩
     case measure=>simp [intOf];omega
    ·go_wp2
     refine wp_region_quiet_below (by kernel_rfl) (by kernel_rfl) ?_
     repeat (go_big_quiet_step (exact Calls.regrown_of (cb (hcall _ (hbel.trans ((below_regrown wr _ _).mono hbel.size))) (decide_eq_false hxy))))
     refine wpQuiet_nil ?_;intro _ hw';obtain ⟨⟨dq,osq⟩,hw''⟩:=hw';subst hw'';have hbel2:=hbel.trans ((below_regrown wr dq osq).mono hbel.size)
     go_wp2
     go_ret
     exact ⟨jB (decide_eq_false (jfk HX.out HY.out hxy)).symm,hbel2⟩
   ·clear hca hdb
    go_wp2
    go_ret
    exact ⟨jB (decide_eq_true (zH (k:=k) (by omega) (by have:=HL.out;omega) HQ.out)).symm,hbel⟩
 ·have hne:((l.length:Int) !=(m.length:Int))=true:=bne_iff_ne.2 (by omega)
  clear hca hdb
  go_enter Try.func48,Try.ntmps48
  go_wp2
  go_ret
  exact ⟨jB (decide_eq_false (fun e=>hlen (by rw [e]))).symm,Below.refl _ _⟩
theorem jql (x y:Tk) (a b:Value) (S S':List Nat) (w:World) (own own':Bool) (ha:AggRep w own (jn x) a S) (hb:AggRep w own' (jn y) b S'):
 Calls Try.prog 138 #[a,b] w fun e w'=>e=.returned (.bool (decide (x=y)))∧Below w.heap.size w w':=by
 obtain ⟨_,rfl,ha⟩:=ha;obtain ⟨_,rfl,hb⟩:=hb;obtain ⟨rfl,rfl⟩:=qv ha;obtain ⟨rfl,rfl⟩:=qv hb;clear ha hb;obtain ⟨xstate,xneed,xtri,xtil⟩:=x;obtain ⟨ystate,yneed,ytri,ytil⟩:=y
 go_enter Try.func138,Try.ntmps138
 go_wp2
 all_goals go_ret
 all_goals refine ⟨?_,(by repeat (first|exact Below.refl _ _|assumption|refine Below.alloc ?_ (by simp;try omega) _|refine jR ?_ (by assumption)))⟩
 all_goals simp_all
theorem jn9 (l m:List (Tk)) (a b:Value) (S S':List Nat) (w:World) (own own':Bool) (ha:Rep w own (km l) a S) (hb:Rep w own' (km m) b S'):
 Calls Try.prog 124 #[a,b] w fun e w'=>e=.returned (.bool (decide (l=m)))∧Below w.heap.size w w':=by
 obtain ⟨A,c,rfl,hc1,hc2,hca⟩:=Rep.open_ (size:=4) (enc:=jn) (fun _=>rfl) (by decide) ha
 obtain ⟨B,d,rfl,hd1,hd2,hdb⟩:=Rep.open_ (size:=4) (enc:=jn) (fun _=>rfl) (by decide) hb
 unfold maxLen at hc2 hd2;have hl1:l.length≤9223372036854775807:=by omega
 have hl2:m.length≤9223372036854775807:=by omega
 clear ha hb;by_cases hlen:l.length=m.length
 ·have HL:=Lib.hid hlen
  have hne:((l.length:Int) !=(m.length:Int))=false:=by rw [hlen];simp
  clear hlen
  go_enter Try.func124,Try.ntmps124
  go_wp2
  go_loopw [5] (fun i wr=>∃k:Nat,k≤l.length∧i=.int .i64 k∧l.take k=m.take k∧Below w.heap.size w wr) (fun i _=>l.length-(intOf i).toNat)
  case atStart=>exact ⟨0,by omega,rfl,rfl,Below.refl _ _⟩
  case round=>
   obtain ⟨k,hk,rfl,heq,hbel⟩:=hrel;have HQ:=Lib.hid heq;clear heq;by_cases hlt:k<l.length
   ·have hlt':k<m.length:=by have:=HL.out;omega
    obtain ⟨x,hx⟩:=jg hlt;obtain ⟨y,hy⟩:=jg hlt';obtain ⟨b1,o1,vk1,T1,rfl,-,hr1,-,-,hb1,hx1⟩:=hca k x hx;obtain ⟨b2,o2,vk2,T2,rfl,-,hr2,-,-,hb2,hx2⟩:=hdb k y hy;clear hca hdb;obtain ⟨rfl,rfl⟩:=qv hr1;obtain ⟨rfl,rfl⟩:=qv hr2;have HX:=Lib.hid hx;have HY:=Lib.hid hy;clear hx hy;have p0:=cell_regrown ((hbel.cell (p:=⟨b1,o1+k*4,none⟩) hb1).trans (hx1 0 _ rfl:w.cell? ⟨b1,o1+k*4,none⟩=_));have p1:=cell_regrown ((hbel.cell (p:=⟨b1,o1+k*4+1,none⟩) hb1).trans (hx1 1 _ rfl:w.cell? ⟨b1,o1+k*4+1,none⟩=_));have p2:=cell_regrown ((hbel.cell (p:=⟨b1,o1+k*4+2,none⟩) hb1).trans (hx1 2 _ rfl:w.cell? ⟨b1,o1+k*4+2,none⟩=_));have p3:=cell_regrown ((hbel.cell (p:=⟨b1,o1+k*4+3,none⟩) hb1).trans (hx1 3 _ rfl:w.cell? ⟨b1,o1+k*4+3,none⟩=_));have q0:=cell_regrown ((hbel.cell (p:=⟨b2,o2+k*4,none⟩) hb2).trans (hx2 0 _ rfl:w.cell? ⟨b2,o2+k*4,none⟩=_));have q1:=cell_regrown ((hbel.cell (p:=⟨b2,o2+k*4+1,none⟩) hb2).trans (hx2 1 _ rfl:w.cell? ⟨b2,o2+k*4+1,none⟩=_))
    have q2:=cell_regrown ((hbel.cell (p:=⟨b2,o2+k*4+2,none⟩) hb2).trans (hx2 2 _ rfl:w.cell? ⟨b2,o2+k*4+2,none⟩=_));have q3:=cell_regrown ((hbel.cell (p:=⟨b2,o2+k*4+3,none⟩) hb2).trans (hx2 3 _ rfl:w.cell? ⟨b2,o2+k*4+3,none⟩=_));have hcall:=fun (W:World) (hW:Below w.heap.size w W)=>jql x y _ _ _ _ W own own' ⟨_,rfl,hr1.below hW (Nat.le_refl _)⟩ ⟨_,rfl,hr2.below hW (Nat.le_refl _)⟩
    clear hx1 hx2;by_cases hxy:x=y
    ·have HXY:=Lib.hid hxy
     clear hxy
     go_wp2
     refine wp_region_quiet_below (by kernel_rfl) (by kernel_rfl) ?_
     repeat (go_big_quiet_step (exact Calls.regrown_of (cb (hcall _ (hbel.trans ((below_regrown wr _ _).mono hbel.size))) (decide_eq_true HXY.out))))
     refine wpQuiet_nil ?_;intro _ hw';obtain ⟨⟨dq,osq⟩,hw''⟩:=hw';subst hw'';have hbel2:=hbel.trans ((below_regrown wr dq osq).mono hbel.size)
     go_wp2
     go_roundw
     case rel=>exact ⟨k+1,by omega,by go_num,zG HX.out (HXY.out▸HY.out) HQ.out,hbel2⟩
     case measure=>simp [intOf];omega
    ·go_wp2
     refine wp_region_quiet_below (by kernel_rfl) (by kernel_rfl) ?_
     repeat (go_big_quiet_step (exact Calls.regrown_of (cb (hcall _ (hbel.trans ((below_regrown wr _ _).mono hbel.size))) (decide_eq_false hxy))))
     refine wpQuiet_nil ?_;intro _ hw';obtain ⟨⟨dq,osq⟩,hw''⟩:=hw';subst hw'';have hbel2:=hbel.trans ((below_regrown wr dq osq).mono hbel.size)
     go_wp2
     go_ret
     exact ⟨jB (decide_eq_false (jfk HX.out HY.out hxy)).symm,hbel2⟩
   ·clear hca hdb
    go_wp2
    go_ret
    exact ⟨jB (decide_eq_true (zH (k:=k) (by omega) (by have:=HL.out;omega) HQ.out)).symm,hbel⟩
 ·have hne:((l.length:Int) !=(m.length:Int))=true:=bne_iff_ne.2 (by omega)
  clear hca hdb
  go_enter Try.func124,Try.ntmps124
  go_wp2
  go_ret
  exact ⟨jB (decide_eq_false (fun e=>hlen (by rw [e]))).symm,Below.refl _ _⟩
theorem jsJ (x y:Rn) (a b:Value) (S S':List Nat) (w:World) (own own':Bool) (ha:AggRep w own (jc x) a S) (hb:AggRep w own' (jc y) b S'):
 Calls Try.prog 95 #[a,b] w fun e w'=>e=.returned (.bool (decide (x=y)))∧Below w.heap.size w w':=by
 obtain ⟨_,rfl,ha⟩:=ha;obtain ⟨_,rfl,hb⟩:=hb;obtain ⟨av0,av1,aS0,aS1,rfl,ah0,ah1,rfl⟩:=jZ ha;obtain ⟨bv0,bv1,bS0,bS1,rfl,bh0,bh1,rfl⟩:=jZ hb;clear ha hb;obtain ⟨xid,xplan,xstate,xtasks⟩:=x;obtain ⟨yid,yplan,ystate,ytasks⟩:=y
 go_enter Try.func95,Try.ntmps95
 go_wp2_with (first
  |(go_at_call 69;refine (jkK xplan yplan _ _ _ _ _ _ _ ⟨_,rfl,jfK (ah0.below (by repeat (first|exact Below.refl _ _|assumption|refine Below.alloc ?_ (by simp;try omega) _|refine jR ?_ (by assumption))) (Nat.le_refl _))⟩ ⟨_,rfl,jfK (bh0.below (by repeat (first|exact Below.refl _ _|assumption|refine Below.alloc ?_ (by simp;try omega) _|refine jR ?_ (by assumption))) (Nat.le_refl _))⟩).mono ?_;rintro e w1 ⟨rfl,hb1⟩;obtain ⟨hc1,hf1⟩:=vL hb1)
  |(go_at_call 124;refine (jn9 xtasks ytasks _ _ _ _ _ _ _ (ah1.below (by repeat (first|exact Below.refl _ _|assumption|refine Below.alloc ?_ (by simp;try omega) _|refine jR ?_ (by assumption))) (Nat.le_refl _)) (bh1.below (by repeat (first|exact Below.refl _ _|assumption|refine Below.alloc ?_ (by simp;try omega) _|refine jR ?_ (by assumption))) (Nat.le_refl _))).mono ?_;rintro e w1 ⟨rfl,hb1⟩;obtain ⟨hc1,hf1⟩:=vL hb1))
 all_goals go_ret
 all_goals refine ⟨?_,(by repeat (first|exact Below.refl _ _|assumption|refine Below.alloc ?_ (by simp;try omega) _|refine jR ?_ (by assumption)))⟩
 all_goals simp_all
theorem jqm (l m:List (Rn)) (a b:Value) (S S':List Nat) (w:World) (own own':Bool) (ha:Rep w own (kr l) a S) (hb:Rep w own' (kr m) b S'):
 Calls Try.prog 49 #[a,b] w fun e w'=>e=.returned (.bool (decide (l=m)))∧Below w.heap.size w w':=by
 obtain ⟨A,c,rfl,hc1,hc2,hca⟩:=Rep.open_ (size:=8) (enc:=jc) (fun _=>rfl) (by decide) ha
 obtain ⟨B,d,rfl,hd1,hd2,hdb⟩:=Rep.open_ (size:=8) (enc:=jc) (fun _=>rfl) (by decide) hb
 unfold maxLen at hc2 hd2;have hl1:l.length≤9223372036854775807:=by omega
 have hl2:m.length≤9223372036854775807:=by omega
 clear ha hb;by_cases hlen:l.length=m.length
 ·have HL:=Lib.hid hlen
  have hne:((l.length:Int) !=(m.length:Int))=false:=by rw [hlen];simp
  clear hlen
  go_enter Try.func49,Try.ntmps49
  go_wp2
  go_loopw [5] (fun i wr=>∃k:Nat,k≤l.length∧i=.int .i64 k∧l.take k=m.take k∧Below w.heap.size w wr) (fun i _=>l.length-(intOf i).toNat)
  case atStart=>exact ⟨0,by omega,rfl,rfl,Below.refl _ _⟩
  case round=>
   obtain ⟨k,hk,rfl,heq,hbel⟩:=hrel;have HQ:=Lib.hid heq;clear heq;by_cases hlt:k<l.length
   ·have hlt':k<m.length:=by have:=HL.out;omega
    obtain ⟨x,hx⟩:=jg hlt;obtain ⟨y,hy⟩:=jg hlt';obtain ⟨b1,o1,vk1,T1,rfl,-,hr1,-,-,hb1,hx1⟩:=hca k x hx;obtain ⟨b2,o2,vk2,T2,rfl,-,hr2,-,-,hb2,hx2⟩:=hdb k y hy;clear hca hdb;obtain ⟨av0,av1,aS0,aS1,rfl,ah0,ah1,rfl⟩:=jZ hr1;obtain ⟨bv0,bv1,bS0,bS1,rfl,bh0,bh1,rfl⟩:=jZ hr2;have HX:=Lib.hid hx;have HY:=Lib.hid hy;clear hx hy;have p0:=cell_regrown ((hbel.cell (p:=⟨b1,o1+k*8,none⟩) hb1).trans (hx1 0 _ rfl:w.cell? ⟨b1,o1+k*8,none⟩=_));have p1:=cell_regrown ((hbel.cell (p:=⟨b1,o1+k*8+1,none⟩) hb1).trans (hx1 1 _ rfl:w.cell? ⟨b1,o1+k*8+1,none⟩=_));have p2:=cell_regrown ((hbel.cell (p:=⟨b1,o1+k*8+2,none⟩) hb1).trans (hx1 2 _ rfl:w.cell? ⟨b1,o1+k*8+2,none⟩=_));have p3:=cell_regrown ((hbel.cell (p:=⟨b1,o1+k*8+3,none⟩) hb1).trans (hx1 3 _ rfl:w.cell? ⟨b1,o1+k*8+3,none⟩=_));have p4:=cell_regrown ((hbel.cell (p:=⟨b1,o1+k*8+4,none⟩) hb1).trans (hx1 4 _ rfl:w.cell? ⟨b1,o1+k*8+4,none⟩=_));have p5:=cell_regrown ((hbel.cell (p:=⟨b1,o1+k*8+5,none⟩) hb1).trans (hx1 5 _ rfl:w.cell? ⟨b1,o1+k*8+5,none⟩=_))
    have p6:=cell_regrown ((hbel.cell (p:=⟨b1,o1+k*8+6,none⟩) hb1).trans (hx1 6 _ rfl:w.cell? ⟨b1,o1+k*8+6,none⟩=_));have p7:=cell_regrown ((hbel.cell (p:=⟨b1,o1+k*8+7,none⟩) hb1).trans (hx1 7 _ rfl:w.cell? ⟨b1,o1+k*8+7,none⟩=_));have q0:=cell_regrown ((hbel.cell (p:=⟨b2,o2+k*8,none⟩) hb2).trans (hx2 0 _ rfl:w.cell? ⟨b2,o2+k*8,none⟩=_));have q1:=cell_regrown ((hbel.cell (p:=⟨b2,o2+k*8+1,none⟩) hb2).trans (hx2 1 _ rfl:w.cell? ⟨b2,o2+k*8+1,none⟩=_));have q2:=cell_regrown ((hbel.cell (p:=⟨b2,o2+k*8+2,none⟩) hb2).trans (hx2 2 _ rfl:w.cell? ⟨b2,o2+k*8+2,none⟩=_));have q3:=cell_regrown ((hbel.cell (p:=⟨b2,o2+k*8+3,none⟩) hb2).trans (hx2 3 _ rfl:w.cell? ⟨b2,o2+k*8+3,none⟩=_));have q4:=cell_regrown ((hbel.cell (p:=⟨b2,o2+k*8+4,none⟩) hb2).trans (hx2 4 _ rfl:w.cell? ⟨b2,o2+k*8+4,none⟩=_));have q5:=cell_regrown ((hbel.cell (p:=⟨b2,o2+k*8+5,none⟩) hb2).trans (hx2 5 _ rfl:w.cell? ⟨b2,o2+k*8+5,none⟩=_))
    have q6:=cell_regrown ((hbel.cell (p:=⟨b2,o2+k*8+6,none⟩) hb2).trans (hx2 6 _ rfl:w.cell? ⟨b2,o2+k*8+6,none⟩=_));have q7:=cell_regrown ((hbel.cell (p:=⟨b2,o2+k*8+7,none⟩) hb2).trans (hx2 7 _ rfl:w.cell? ⟨b2,o2+k*8+7,none⟩=_));have hcall:=fun (W:World) (hW:Below w.heap.size w W)=>jsJ x y _ _ _ _ W own own' ⟨_,rfl,hr1.below hW (Nat.le_refl _)⟩ ⟨_,rfl,hr2.below hW (Nat.le_refl _)⟩
    clear hx1 hx2;by_cases hxy:x=y
    ·have HXY:=Lib.hid hxy
     clear hxy
     go_wp2
     refine wp_region_quiet_below (by kernel_rfl) (by kernel_rfl) ?_
     repeat (go_big_quiet_step (exact Calls.regrown_of (cb (hcall _ (hbel.trans ((below_regrown wr _ _).mono hbel.size))) (decide_eq_true HXY.out))))
     refine wpQuiet_nil ?_;intro _ hw';obtain ⟨⟨dq,osq⟩,hw''⟩:=hw';subst hw'';have hbel2:=hbel.trans ((below_regrown wr dq osq).mono hbel.size)
     go_wp2
     go_roundw
     case rel=>exact ⟨k+1,by omega,by go_num,zG HX.out (HXY.out▸HY.out) HQ.out,hbel2⟩
     case measure=>simp [intOf];omega
    ·go_wp2
     refine wp_region_quiet_below (by kernel_rfl) (by kernel_rfl) ?_
     repeat (go_big_quiet_step (exact Calls.regrown_of (cb (hcall _ (hbel.trans ((below_regrown wr _ _).mono hbel.size))) (decide_eq_false hxy))))
     refine wpQuiet_nil ?_;intro _ hw';obtain ⟨⟨dq,osq⟩,hw''⟩:=hw';subst hw'';have hbel2:=hbel.trans ((below_regrown wr dq osq).mono hbel.size)
     go_wp2
     go_ret
     exact ⟨jB (decide_eq_false (jfk HX.out HY.out hxy)).symm,hbel2⟩
   ·clear hca hdb
    go_wp2
    go_ret
    exact ⟨jB (decide_eq_true (zH (k:=k) (by omega) (by have:=HL.out;omega) HQ.out)).symm,hbel⟩
 ·have hne:((l.length:Int) !=(m.length:Int))=true:=bne_iff_ne.2 (by omega)
  clear hca hdb
  go_enter Try.func49,Try.ntmps49
  go_wp2
  go_ret
  exact ⟨jB (decide_eq_false (fun e=>hlen (by rw [e]))).symm,Below.refl _ _⟩
theorem jqk (x y:Yd) (a b:Value) (S S':List Nat) (w:World) (own own':Bool) (ha:AggRep w own (jd x) a S) (hb:AggRep w own' (jd y) b S'):
 Calls Try.prog 19 #[a,b] w fun e w'=>e=.returned (.bool (decide (x=y)))∧Below w.heap.size w w':=by
 obtain ⟨_,rfl,ha⟩:=ha;obtain ⟨_,rfl,hb⟩:=hb;obtain ⟨av0,av1,aS0,aS1,rfl,ah0,ah1,rfl⟩:=qs ha;obtain ⟨bv0,bv1,bS0,bS1,rfl,bh0,bh1,rfl⟩:=qs hb;clear ha hb;obtain ⟨xnow,xseq,xshelf,xruns⟩:=x;obtain ⟨ynow,yseq,yshelf,yruns⟩:=y
 go_enter Try.func19,Try.ntmps19
 go_wp2_with (first
  |(go_at_call 48;refine (jjT xshelf yshelf _ _ _ _ _ _ _ (ah0.below (by repeat (first|exact Below.refl _ _|assumption|refine Below.alloc ?_ (by simp;try omega) _|refine jR ?_ (by assumption))) (Nat.le_refl _)) (bh0.below (by repeat (first|exact Below.refl _ _|assumption|refine Below.alloc ?_ (by simp;try omega) _|refine jR ?_ (by assumption))) (Nat.le_refl _))).mono ?_;rintro e w1 ⟨rfl,hb1⟩;obtain ⟨hc1,hf1⟩:=vL hb1)
  |(go_at_call 49;refine (jqm xruns yruns _ _ _ _ _ _ _ (ah1.below (by repeat (first|exact Below.refl _ _|assumption|refine Below.alloc ?_ (by simp;try omega) _|refine jR ?_ (by assumption))) (Nat.le_refl _)) (bh1.below (by repeat (first|exact Below.refl _ _|assumption|refine Below.alloc ?_ (by simp;try omega) _|refine jR ?_ (by assumption))) (Nat.le_refl _))).mono ?_;rintro e w1 ⟨rfl,hb1⟩;obtain ⟨hc1,hf1⟩:=vL hb1))
 all_goals go_ret
 all_goals refine ⟨?_,(by repeat (first|exact Below.refl _ _|assumption|refine Below.alloc ?_ (by simp;try omega) _|refine jR ?_ (by assumption)))⟩
 all_goals simp_all
theorem jqo (x y:Dd) (a b:Value) (S S':List Nat) (w:World) (own own':Bool) (ha:AggRep w own (je x) a S) (hb:AggRep w own' (je y) b S'):
 Calls Try.prog 34 #[a,b] w fun e w'=>e=.returned (.bool (decide (x=y)))∧Below w.heap.size w w':=by
 obtain ⟨_,rfl,ha⟩:=ha;obtain ⟨_,rfl,hb⟩:=hb;obtain ⟨av0,rfl,ah0⟩:=zJ ha;obtain ⟨bv0,rfl,bh0⟩:=zJ hb;clear ha hb;obtain ⟨xkind,xrun,xplan,xtask,xtri,xworker,xdraw⟩:=x;obtain ⟨ykind,yrun,yplan,ytask,ytri,yworker,ydraw⟩:=y
 go_enter Try.func34,Try.ntmps34
 go_wp2_with (first
  |(go_at_call 69;refine (jkK xplan yplan _ _ _ _ _ _ _ ⟨_,rfl,jfK (ah0.below (by repeat (first|exact Below.refl _ _|assumption|refine Below.alloc ?_ (by simp;try omega) _|refine jR ?_ (by assumption))) (Nat.le_refl _))⟩ ⟨_,rfl,jfK (bh0.below (by repeat (first|exact Below.refl _ _|assumption|refine Below.alloc ?_ (by simp;try omega) _|refine jR ?_ (by assumption))) (Nat.le_refl _))⟩).mono ?_;rintro e w1 ⟨rfl,hb1⟩;obtain ⟨hc1,hf1⟩:=vL hb1))
 all_goals go_ret
 all_goals refine ⟨?_,(by repeat (first|exact Below.refl _ _|assumption|refine Below.alloc ?_ (by simp;try omega) _|refine jR ?_ (by assumption)))⟩
 all_goals simp_all
theorem jkL (x y:Nt) (a b:Value) (S S':List Nat) (w:World) (own own':Bool) (ha:AggRep w own (jq x) a S) (hb:AggRep w own' (jq y) b S'):
 Calls Try.prog 9 #[a,b] w fun e w'=>e=.returned (.bool (decide (x=y)))∧Below w.heap.size w w':=by
 obtain ⟨_,rfl,ha⟩:=ha;obtain ⟨_,rfl,hb⟩:=hb;obtain ⟨av0,rfl,ah0⟩:=kj ha;obtain ⟨bv0,rfl,bh0⟩:=kj hb;clear ha hb;obtain ⟨xseq,xdeed⟩:=x;obtain ⟨yseq,ydeed⟩:=y
 go_enter Try.func9,Try.ntmps9
 go_wp2_with (first
  |(go_at_call 34;refine (jqo xdeed ydeed _ _ _ _ _ _ _ ⟨_,rfl,jol (ah0.below (by repeat (first|exact Below.refl _ _|assumption|refine Below.alloc ?_ (by simp;try omega) _|refine jR ?_ (by assumption))) (Nat.le_refl _))⟩ ⟨_,rfl,jol (bh0.below (by repeat (first|exact Below.refl _ _|assumption|refine Below.alloc ?_ (by simp;try omega) _|refine jR ?_ (by assumption))) (Nat.le_refl _))⟩).mono ?_;rintro e w1 ⟨rfl,hb1⟩;obtain ⟨hc1,hf1⟩:=vL hb1))
 all_goals go_ret
 all_goals refine ⟨?_,(by repeat (first|exact Below.refl _ _|assumption|refine Below.alloc ?_ (by simp;try omega) _|refine jR ?_ (by assumption)))⟩
 all_goals simp_all
theorem joa (l m:List (Nt)) (a b:Value) (S S':List Nat) (w:World) (own own':Bool) (ha:Rep w own (ke l) a S) (hb:Rep w own' (ke m) b S'):
 Calls Try.prog 14 #[a,b] w fun e w'=>e=.returned (.bool (decide (l=m)))∧Below w.heap.size w w':=by
 obtain ⟨A,c,rfl,hc1,hc2,hca⟩:=Rep.open_ (size:=12) (enc:=jq) (fun _=>rfl) (by decide) ha
 obtain ⟨B,d,rfl,hd1,hd2,hdb⟩:=Rep.open_ (size:=12) (enc:=jq) (fun _=>rfl) (by decide) hb
 unfold maxLen at hc2 hd2;have hl1:l.length≤9223372036854775807:=by omega
 have hl2:m.length≤9223372036854775807:=by omega
 clear ha hb;by_cases hlen:l.length=m.length
 ·have HL:=Lib.hid hlen
  have hne:((l.length:Int) !=(m.length:Int))=false:=by rw [hlen];simp
  clear hlen
  go_enter Try.func14,Try.ntmps14
  go_wp2
  go_loopw [5] (fun i wr=>∃k:Nat,k≤l.length∧i=.int .i64 k∧l.take k=m.take k∧Below w.heap.size w wr) (fun i _=>l.length-(intOf i).toNat)
  case atStart=>exact ⟨0,by omega,rfl,rfl,Below.refl _ _⟩
  case round=>
   obtain ⟨k,hk,rfl,heq,hbel⟩:=hrel;have HQ:=Lib.hid heq;clear heq;by_cases hlt:k<l.length
   ·have hlt':k<m.length:=by have:=HL.out;omega
    obtain ⟨x,hx⟩:=jg hlt;obtain ⟨y,hy⟩:=jg hlt';obtain ⟨b1,o1,vk1,T1,rfl,-,hr1,-,-,hb1,hx1⟩:=hca k x hx;obtain ⟨b2,o2,vk2,T2,rfl,-,hr2,-,-,hb2,hx2⟩:=hdb k y hy;clear hca hdb;obtain ⟨av0,rfl,ah0⟩:=kj hr1;obtain ⟨bv0,rfl,bh0⟩:=kj hr2;have HX:=Lib.hid hx;have HY:=Lib.hid hy;clear hx hy;have p0:=cell_regrown ((hbel.cell (p:=⟨b1,o1+k*12,none⟩) hb1).trans (hx1 0 _ rfl:w.cell? ⟨b1,o1+k*12,none⟩=_));have p1:=cell_regrown ((hbel.cell (p:=⟨b1,o1+k*12+1,none⟩) hb1).trans (hx1 1 _ rfl:w.cell? ⟨b1,o1+k*12+1,none⟩=_));have p2:=cell_regrown ((hbel.cell (p:=⟨b1,o1+k*12+2,none⟩) hb1).trans (hx1 2 _ rfl:w.cell? ⟨b1,o1+k*12+2,none⟩=_));have p3:=cell_regrown ((hbel.cell (p:=⟨b1,o1+k*12+3,none⟩) hb1).trans (hx1 3 _ rfl:w.cell? ⟨b1,o1+k*12+3,none⟩=_));have p4:=cell_regrown ((hbel.cell (p:=⟨b1,o1+k*12+4,none⟩) hb1).trans (hx1 4 _ rfl:w.cell? ⟨b1,o1+k*12+4,none⟩=_));have p5:=cell_regrown ((hbel.cell (p:=⟨b1,o1+k*12+5,none⟩) hb1).trans (hx1 5 _ rfl:w.cell? ⟨b1,o1+k*12+5,none⟩=_))
    have p6:=cell_regrown ((hbel.cell (p:=⟨b1,o1+k*12+6,none⟩) hb1).trans (hx1 6 _ rfl:w.cell? ⟨b1,o1+k*12+6,none⟩=_));have p7:=cell_regrown ((hbel.cell (p:=⟨b1,o1+k*12+7,none⟩) hb1).trans (hx1 7 _ rfl:w.cell? ⟨b1,o1+k*12+7,none⟩=_));have p8:=cell_regrown ((hbel.cell (p:=⟨b1,o1+k*12+8,none⟩) hb1).trans (hx1 8 _ rfl:w.cell? ⟨b1,o1+k*12+8,none⟩=_));have p9:=cell_regrown ((hbel.cell (p:=⟨b1,o1+k*12+9,none⟩) hb1).trans (hx1 9 _ rfl:w.cell? ⟨b1,o1+k*12+9,none⟩=_));have p10:=cell_regrown ((hbel.cell (p:=⟨b1,o1+k*12+10,none⟩) hb1).trans (hx1 10 _ rfl:w.cell? ⟨b1,o1+k*12+10,none⟩=_));have p11:=cell_regrown ((hbel.cell (p:=⟨b1,o1+k*12+11,none⟩) hb1).trans (hx1 11 _ rfl:w.cell? ⟨b1,o1+k*12+11,none⟩=_));have q0:=cell_regrown ((hbel.cell (p:=⟨b2,o2+k*12,none⟩) hb2).trans (hx2 0 _ rfl:w.cell? ⟨b2,o2+k*12,none⟩=_));have q1:=cell_regrown ((hbel.cell (p:=⟨b2,o2+k*12+1,none⟩) hb2).trans (hx2 1 _ rfl:w.cell? ⟨b2,o2+k*12+1,none⟩=_))
    have q2:=cell_regrown ((hbel.cell (p:=⟨b2,o2+k*12+2,none⟩) hb2).trans (hx2 2 _ rfl:w.cell? ⟨b2,o2+k*12+2,none⟩=_));have q3:=cell_regrown ((hbel.cell (p:=⟨b2,o2+k*12+3,none⟩) hb2).trans (hx2 3 _ rfl:w.cell? ⟨b2,o2+k*12+3,none⟩=_));have q4:=cell_regrown ((hbel.cell (p:=⟨b2,o2+k*12+4,none⟩) hb2).trans (hx2 4 _ rfl:w.cell? ⟨b2,o2+k*12+4,none⟩=_));have q5:=cell_regrown ((hbel.cell (p:=⟨b2,o2+k*12+5,none⟩) hb2).trans (hx2 5 _ rfl:w.cell? ⟨b2,o2+k*12+5,none⟩=_));have q6:=cell_regrown ((hbel.cell (p:=⟨b2,o2+k*12+6,none⟩) hb2).trans (hx2 6 _ rfl:w.cell? ⟨b2,o2+k*12+6,none⟩=_));have q7:=cell_regrown ((hbel.cell (p:=⟨b2,o2+k*12+7,none⟩) hb2).trans (hx2 7 _ rfl:w.cell? ⟨b2,o2+k*12+7,none⟩=_));have q8:=cell_regrown ((hbel.cell (p:=⟨b2,o2+k*12+8,none⟩) hb2).trans (hx2 8 _ rfl:w.cell? ⟨b2,o2+k*12+8,none⟩=_));have q9:=cell_regrown ((hbel.cell (p:=⟨b2,o2+k*12+9,none⟩) hb2).trans (hx2 9 _ rfl:w.cell? ⟨b2,o2+k*12+9,none⟩=_))
    have q10:=cell_regrown ((hbel.cell (p:=⟨b2,o2+k*12+10,none⟩) hb2).trans (hx2 10 _ rfl:w.cell? ⟨b2,o2+k*12+10,none⟩=_));have q11:=cell_regrown ((hbel.cell (p:=⟨b2,o2+k*12+11,none⟩) hb2).trans (hx2 11 _ rfl:w.cell? ⟨b2,o2+k*12+11,none⟩=_));have hcall:=fun (W:World) (hW:Below w.heap.size w W)=>jkL x y _ _ _ _ W own own' ⟨_,rfl,hr1.below hW (Nat.le_refl _)⟩ ⟨_,rfl,hr2.below hW (Nat.le_refl _)⟩
    clear hx1 hx2;by_cases hxy:x=y
    ·have HXY:=Lib.hid hxy
     clear hxy
     go_wp2
     refine wp_region_quiet_below (by kernel_rfl) (by kernel_rfl) ?_
     repeat (go_big_quiet_step (exact Calls.regrown_of (cb (hcall _ (hbel.trans ((below_regrown wr _ _).mono hbel.size))) (decide_eq_true HXY.out))))
     refine wpQuiet_nil ?_;intro _ hw';obtain ⟨⟨dq,osq⟩,hw''⟩:=hw';subst hw'';have hbel2:=hbel.trans ((below_regrown wr dq osq).mono hbel.size)
     go_wp2
     go_roundw
     case rel=>exact ⟨k+1,by omega,by go_num,zG HX.out (HXY.out▸HY.out) HQ.out,hbel2⟩
     case measure=>simp [intOf];omega
    ·go_wp2
     refine wp_region_quiet_below (by kernel_rfl) (by kernel_rfl) ?_
     repeat (go_big_quiet_step (exact Calls.regrown_of (cb (hcall _ (hbel.trans ((below_regrown wr _ _).mono hbel.size))) (decide_eq_false hxy))))
     refine wpQuiet_nil ?_;intro _ hw';obtain ⟨⟨dq,osq⟩,hw''⟩:=hw';subst hw'';have hbel2:=hbel.trans ((below_regrown wr dq osq).mono hbel.size)
     go_wp2
     go_ret
     exact ⟨jB (decide_eq_false (jfk HX.out HY.out hxy)).symm,hbel2⟩
   ·clear hca hdb
    go_wp2
    go_ret
    exact ⟨jB (decide_eq_true (zH (k:=k) (by omega) (by have:=HL.out;omega) HQ.out)).symm,hbel⟩
 ·have hne:((l.length:Int) !=(m.length:Int))=true:=bne_iff_ne.2 (by omega)
  clear hca hdb
  go_enter Try.func14,Try.ntmps14
  go_wp2
  go_ret
  exact ⟨jB (decide_eq_false (fun e=>hlen (by rw [e]))).symm,Below.refl _ _⟩
end Go.Proofs.Ytmnpailnelmpiaa
