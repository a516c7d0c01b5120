/- Parts. -/
import Derived.Test.YtmnpailnelmpiaaQFresh
set_option linter.unusedSimpArgs false
set_option linter.unusedVariables false
set_option maxHeartbeats 4000000
namespace Go.Proofs.Ytmnpailnelmpiaa
open Go.RowKit Go.Sort Go.BigFrame
theorem jhp {w w1:World} {b o:Nat} {v:Value} (hB:Below w.heap.size w w1) (h:w.cell? ⟨b,o+0,none⟩=some v):w1.cell? ⟨b,o,none⟩=some v:=jX hB h
theorem juR:∀(x:En),∀d∈jk x,∃u,d=.val u:=by intro y d hd;simp [jk] at hd;rcases hd with rfl|rfl|rfl|rfl<;>exact ⟨_,rfl⟩
theorem jhc (y:Yd) (a:Value) (S:List Nat) (w:World) (own:Bool) (ha:AggRep w own (jd y) a S) (hsz:kH y≤2000000):
 Calls Try.prog 87 #[a] w (jvj w (js (jaU y))):=by
 obtain ⟨_,rfl,ha⟩:=ha;obtain ⟨sv,rv,S1,S2,rfl,ah0,ah1,rfl⟩:=qs ha;clear ha ah1;obtain ⟨A,c,rfl,hc1,hc2,hca⟩:=Rep.open_ (size:=1) (enc:=fun es=>[js es]) (fun _=>rfl) (by decide) ah0
 unfold maxLen at hc2;have hl1:y.shelf.length≤9223372036854775807:=by omega
 have hsm:y.shelf.flatten.length≤2000000:=by rw [ql];simp only [kH,jeF] at hsz;omega
 go_enter Try.func87,Try.ntmps87
 go_wp2
 go_loopw [3,5,9] (fun v _ i wr=>∃k:Nat,k≤y.shelf.length∧i=.int .i64 k∧Fill jk 4 tEn w (y.shelf.take k).flatten v wr) (fun _ _ i _=>y.shelf.length-(intOf i).toNat)
 case atStart=>exact ⟨0,by omega,rfl,[],Rep.nil_ _ _ _,Fresh.nil _,(Below.refl _ _).alloc (by simp) _⟩
 case round=>
  obtain ⟨k,hk,rfl,S3,hrep,hF,hbel⟩:=hrel;by_cases hlt:k<y.shelf.length
  ·obtain ⟨es,hx⟩:=jg hlt
   obtain ⟨b1,o1,vk1,T1,rfl,-,hr1,-,-,hb1,hx1⟩:=hca k es hx;clear hca;obtain ⟨u,_,U0,U1,rfl,rfl,hu,rfl,rfl⟩:=hr1;have p0:=(hbel.cell (p:=⟨b1,o1+k,none⟩) hb1).trans (by simpa using hx1 0 _ rfl:w.cell? ⟨b1,o1+k,none⟩=_)
   obtain ⟨A2,c2,news,rfl,hn1,hn2,hn3⟩:=Rep.src (enc:=jk) (size:=4) (fun _=>rfl) (by decide) juR (hu.below hbel (Nat.le_refl _))
   have htk:=zm hx
   have hle:(y.shelf.take (k+1)).flatten.length≤2000000:=by
    have:(y.shelf.take (k+1)).flatten.length≤y.shelf.flatten.length:=by rw [ql,ql];exact vt _ _ _
    omega
   rw [htk,List.length_append] at hle;have HK:=Lib.hid htk;clear hx hx1 htk
   go_wp2_with ((with_reducible refine joE (.tmp 13) (.tmp 14) ?_);refine jcZ (enc:=jk) (xs:=(y.shelf.take k).flatten) (ys:=es) rfl _ _ rfl slEn (fun _=>rfl) rfl hrep A2 es.length c2 news rfl hn1 rfl hn2 hn3 jof w.heap.size hbel.size (by simpa using hF) (by unfold maxLen;omega) (by omega) ?_;intro v' w' S' hrep' hF' ho' _)
   go_roundw
   case rel=>
    refine ⟨k+1,by omega,by go_num,S',?_,hF',hbel.trans (ho'.below (fun s hs=>hF.2 s hs) hbel.size)⟩
    rw [HK.out];exact hrep'
   case measure=>simp [intOf];omega
  ·obtain rfl:k=y.shelf.length:=by omega
   clear hca
   go_wp2
   go_ret
   exact ⟨_,S3,rfl,by rw [List.take_length] at hrep;exact hrep,hF,hbel⟩
theorem jl0 (y:Yd) (a:Value) (S:List Nat) (w:World) (own:Bool) (ha:AggRep w own (jd y) a S) (hsz:kH y≤2000000):
 Calls Try.prog 92 #[a] w fun e w'=>e=.returned (.int .i64 (vu y))∧Below w.heap.size w w':=by
 obtain ⟨_,rfl,ha⟩:=ha;obtain ⟨sv,rv,S1,S2,rfl,ah0,ah1,rfl⟩:=qs ha;clear ha;obtain ⟨A,c,rfl,hc1,hc2,hca⟩:=Rep.open_ (size:=8) (enc:=jc) (fun _=>rfl) (by decide) ah1
 unfold maxLen at hc2;have hl1:y.runs.length≤9223372036854775807:=by omega
 have hlive:jP vJ y.runs≤2000000:=by have:=jhE y.runs;simp only [kH,jb2] at hsz;omega
 have hall:(jaU y).length≤2000000:=by unfold jaU;rw [ql];simp only [kH,jeF] at hsz;omega
 obtain ⟨svA,svn,svc,rfl⟩:=Rep.form ah0;have hB0:=upB (Below.refl w.heap.size w) (.cells #[.int .i64 y.now,.int .i64 y.seq,.slice svA svn svc,.slice A y.runs.length c] tYd)
 go_enter Try.func92,Try.ntmps92
 go_wp2
 go_loopw [3,5,11] (fun n _ i wr=>∃k:Nat,k≤y.runs.length∧i=.int .i64 k∧n=.int .i64 (jP vJ (y.runs.take k):Nat)∧Below (w.alloc (.cells #[.int .i64 y.now,.int .i64 y.seq,.slice svA svn svc,.slice A y.runs.length c] tYd)).heap.size (w.alloc (.cells #[.int .i64 y.now,.int .i64 y.seq,.slice svA svn svc,.slice A y.runs.length c] tYd)) wr) (fun _ _ i _=>y.runs.length-(intOf i).toNat)
 case atStart=>exact ⟨0,by omega,rfl,rfl,Below.refl _ _⟩
 case round=>
  obtain ⟨k,hk,rfl,rfl,hbel⟩:=hrel;have hB:=jR hB0 hbel;by_cases hlt:k<y.runs.length
  ·obtain ⟨x,hx⟩:=jg hlt
   obtain ⟨b1,o1,vk1,T1,rfl,-,hr1,-,-,hb1,hx1⟩:=hca k x hx;clear hca;obtain ⟨v0,v1,U0,U1,rfl,hev,htv,-⟩:=jZ hr1;obtain ⟨_,_,_,rfl⟩:=Rep.form hev;obtain ⟨B,d,rfl,hd1,hd2,hdb⟩:=Rep.open_ (size:=4) (enc:=jn) (fun _=>rfl) (by decide) htv
   unfold maxLen at hd2;have hl2:x.tasks.length≤9223372036854775807:=by omega
   have p0:=jhp hB (hx1 0 _ rfl);have p1:=jX hB (hx1 1 _ rfl);have p2:=jX hB (hx1 2 _ rfl);have p3:=jX hB (hx1 3 _ rfl);have p4:=jX hB (hx1 4 _ rfl);have p5:=jX hB (hx1 5 _ rfl);have p6:=jX hB (hx1 6 _ rfl);have p7:=jX hB (hx1 7 _ rfl);have htk:=qu (tot:=vJ) hx;have htl:=vt vJ y.runs (k+1);have hlv:vJ x=if x.state=1 then x.tasks.length else 0:=rfl
   have HK:=Lib.hid htk;have HL:=Lib.hid hlv;have hn0:(jP vJ (y.runs.take k):Int)≤2000000:=by omega
   have hn1:x.tasks.length≤2000000∨x.state≠1:=by by_cases h:x.state=1;left;rw [if_pos h] at hlv;omega;exact .inr h
   clear hx hx1 hr1 htk hlv hdb htl;by_cases hst:x.state=1
   ·have hs:(x.state==1)=true:=by simpa using hst
    have hn2:x.tasks.length≤2000000:=by rcases hn1 with h|h;exact h;exact absurd hst h
    have HS:=Lib.hid hst;clear hst hn1
    go_wp2
    go_roundw
    case rel=>
     refine ⟨k+1,by omega,by go_num,?_,?_⟩
     ·rw [HK.out,HL.out,if_pos HS.out];go_num
     ·exact hbel.trans (((Below.refl _ _).alloc (Nat.le_refl _) _).mono hbel.size)
    case measure=>simp [intOf];omega
   ·have hs:(x.state==1)=false:=by simpa using hst
    have HS:=Lib.hid hst;clear hst hn1
    go_wp2
    go_roundw
    case rel=>
     refine ⟨k+1,by omega,by go_num,?_,?_⟩
     ·rw [HK.out,HL.out,if_neg HS.out];rfl
     ·exact hbel.trans (((Below.refl _ _).alloc (Nat.le_refl _) _).mono hbel.size)
    case measure=>simp [intOf];omega
  ·obtain rfl:k=y.runs.length:=by omega
   clear hca;rw [List.take_length];obtain ⟨hcr,hfr⟩:=vL hbel;have q0:wr.cell? ⟨w.heap.size,0,none⟩=some (.int .i64 y.now):=(hcr _ _ (by simp)).trans (by simp [go_sem])
   have q1:wr.cell? ⟨w.heap.size,1,none⟩=some (.int .i64 y.seq):=(hcr _ _ (by simp)).trans (by simp [go_sem])
   have q2:wr.cell? ⟨w.heap.size,2,none⟩=some (.slice svA svn svc):=(hcr _ _ (by simp)).trans (by simp [go_sem])
   have q3:wr.cell? ⟨w.heap.size,3,none⟩=some (.slice A y.runs.length c):=(hcr _ _ (by simp)).trans (by simp [go_sem])
   clear hcr hfr hbel
   go_wp2_with fail
   refine (jhc y _ _ _ own ⟨_,rfl,jeC (up ah0 hB) (up ah1 hB)⟩ hsz).mono ?_;rintro e w1 ⟨ev,T1,rfl,hrv,-,hb1⟩;obtain ⟨B,d,rfl,hd1,hd2,hdb⟩:=Rep.open_ (size:=4) (enc:=jk) (fun _=>rfl) (by decide) hrv
   unfold maxLen at hd2;have hB1:=jR hB hb1
   replace q0:=jX hb1 q0
   replace q1:=jX hb1 q1
   replace q2:=jX hb1 q2
   replace q3:=jX hb1 q3
   clear hb1 hrv
   go_wp2_with fail
   go_loopw [3,7,27] (fun n _ i wr=>∃k:Nat,k≤(jaU y).length∧i=.int .i64 k∧n=.int .i64 ((jP vJ y.runs:Int)+kT y ((jaU y).take k))∧Below w1.heap.size w1 wr) (fun _ _ i _=>(jaU y).length-(intOf i).toNat)
   case atStart=>exact ⟨0,by omega,rfl,by simp [kT],Below.refl _ _⟩
   case round=>
    obtain ⟨k,hk,rfl,rfl,hbel⟩:=hrel;have hB2:=jR hB1 hbel;by_cases hlt:k<(jaU y).length
    ·obtain ⟨x,hx⟩:=jg hlt
     obtain ⟨b1,o1,vk1,T2,rfl,-,hr1,-,-,hb1,hx1⟩:=hdb k x hx;clear hdb;obtain ⟨rfl,rfl⟩:=qd hr1;have p0:=jhp hbel (hx1 0 _ rfl);have p1:=jX hbel (hx1 1 _ rfl);have p2:=jX hbel (hx1 2 _ rfl);have p3:=jX hbel (hx1 3 _ rfl);have r0:=jX hbel q0;have r1:=jX hbel q1;have r2:=jX hbel q2;have r3:=jX hbel q3;have hltw:=World.block_lt_of_cell? wr _ r0;simp only at hltw;have hss:=jf8 (y:=y) hx;have hst:=jf7 y (jaU y) (k+1);have hsa:=jkd y (jaU y);have hn0:(jP vJ y.runs:Int)+kT y ((jaU y).take k)≤4000000:=by split at hss<;>omega
     have HS:=Lib.hid hss;clear hx hx1 hss hst hsa;by_cases hfr:vB y x=true
     ·have HF:=Lib.hid hfr
      clear hfr
      go_wp2_with (go_at_call 122;refine (cb (jkD y x _ _ _ _ _ own own ⟨_,rfl,jeC (upA (up ah0 hB2) _) (upA (up ah1 hB2) _)⟩ ⟨_,rfl,jjV _ _ x⟩) HF.out).mono ?_;rintro e w2 ⟨rfl,hb2⟩)
      go_roundw
      case rel=>
       refine ⟨k+1,by omega,by go_num,?_,jR (upB hbel _) hb2⟩
       rw [HS.out,if_pos HF.out];rfl
      case measure=>simp [intOf];omega
     ·have hfr':vB y x=false:=by simpa using hfr
      have HF:=Lib.hid hfr';clear hfr hfr'
      go_wp2_with (go_at_call 122;refine (cb (jkD y x _ _ _ _ _ own own ⟨_,rfl,jeC (upA (up ah0 hB2) _) (upA (up ah1 hB2) _)⟩ ⟨_,rfl,jjV _ _ x⟩) HF.out).mono ?_;rintro e w2 ⟨rfl,hb2⟩)
      go_roundw
      case rel=>
       refine ⟨k+1,by omega,by go_num,?_,jR (upB hbel _) hb2⟩
       rw [HS.out,HF.out];simp;omega
      case measure=>simp [intOf];omega
    ·obtain rfl:k=(jaU y).length:=by omega
     clear hdb;rw [List.take_length];have hsl:vu y=(jP vJ y.runs:Int)+kT y (jaU y):=rfl;have HSL:=Lib.hid hsl;clear hsl
     go_wp2
     go_ret
     exact ⟨jao HSL.out.symm,hB2⟩
open Go.RowKit Go.Sort Go.BigFrame
theorem jdI (y:Yd) (a b:List En):kT y (a++b)=kT y a+kT y b:=by simp [kT]
theorem jlo (y:Yd) (a:Value) (S:List Nat) (w:World) (own:Bool) (ha:AggRep w own (jd y) a S) (hsz:kH y≤2000000):
 Calls Try.prog 85 #[a] w fun e w'=>e=.returned (.int .i64 (vu y))∧Below w.heap.size w w':=by
 obtain ⟨_,rfl,ha⟩:=ha;obtain ⟨sv,rv,S1,S2,rfl,ah0,ah1,rfl⟩:=qs ha;clear ha;obtain ⟨A,c,rfl,hc1,hc2,hca⟩:=Rep.open_ (size:=8) (enc:=jc) (fun _=>rfl) (by decide) ah1
 obtain ⟨C,f,rfl,hf1,hf2,hfa⟩:=Rep.open_ (size:=1) (enc:=fun es=>[js es]) (fun _=>rfl) (by decide) ah0
 unfold maxLen at hc2 hf2;have hl1:y.runs.length≤9223372036854775807:=by omega
 have hl2:y.shelf.length≤9223372036854775807:=by omega
 have hlive:jP vJ y.runs≤2000000:=by have:=jhE y.runs;simp only [kH,jb2] at hsz;omega
 have hall:(jaU y).length≤2000000:=by unfold jaU;rw [ql];simp only [kH,jeF] at hsz;omega
 have hB0:=upB (Below.refl w.heap.size w) (.cells #[.int .i64 y.now,.int .i64 y.seq,.slice C y.shelf.length f,.slice A y.runs.length c] tYd)
 go_enter Try.func85,Try.ntmps85
 go_wp2
 go_loop [3,4] (fun n i=>∃k:Nat,k≤y.runs.length∧i=.int .i64 k∧n=.int .i64 (jP vJ (y.runs.take k):Nat)) (fun _ i=>y.runs.length-(intOf i).toNat)
 case atStart=>exact ⟨0,by omega,rfl,rfl⟩
 case round=>
  obtain ⟨k,hk,rfl,rfl⟩:=hrel;by_cases hlt:k<y.runs.length
  ·obtain ⟨x,hx⟩:=jg hlt
   obtain ⟨b1,o1,vk1,T1,rfl,-,hr1,-,-,hb1,hx1⟩:=hca k x hx;clear hca hfa;obtain ⟨v0,v1,U0,U1,rfl,hev,htv,-⟩:=jZ hr1;obtain ⟨B,d,rfl,hd1,hd2,hdb⟩:=Rep.open_ (size:=4) (enc:=jn) (fun _=>rfl) (by decide) htv
   unfold maxLen at hd2;have hl3:x.tasks.length≤9223372036854775807:=by omega
   have p6:=hx1 6 _ rfl;have p7:=hx1 7 _ rfl;have htk:=qu (tot:=vJ) hx;have htl:=vt vJ y.runs (k+1);have hlv:vJ x=if x.state=1 then x.tasks.length else 0:=rfl
   have HK:=Lib.hid htk;have HL:=Lib.hid hlv;have hn0:(jP vJ (y.runs.take k):Int)≤2000000:=by omega
   have hn1:x.tasks.length≤2000000∨x.state≠1:=by by_cases h:x.state=1;left;rw [if_pos h] at hlv;omega;exact .inr h
   clear hx hx1 hr1 htk hlv hdb htl;by_cases hst:x.state=1
   ·have hs:(x.state==1)=true:=by simpa using hst
    have hn2:x.tasks.length≤2000000:=by rcases hn1 with h|h;exact h;exact absurd hst h
    have HS:=Lib.hid hst;clear hst hn1
    go_wp2
    go_round
    case rel=>
     refine ⟨k+1,by omega,by go_num,?_⟩
     rw [HK.out,HL.out,if_pos HS.out];go_num
    case measure=>simp [intOf];omega
   ·have hs:(x.state==1)=false:=by simpa using hst
    have HS:=Lib.hid hst;clear hst hn1
    go_wp2
    go_round
    case rel=>
     refine ⟨k+1,by omega,by go_num,?_⟩
     rw [HK.out,HL.out,if_neg HS.out];rfl
    case measure=>simp [intOf];omega
  ·obtain rfl:k=y.runs.length:=by omega
   clear hca;rw [List.take_length]
   go_wp2
   go_loopw [3,5,6] (fun n i _ wr=>∃k:Nat,k≤y.shelf.length∧i=.int .i64 k∧n=.int .i64 ((jP vJ y.runs:Int)+kT y (y.shelf.take k).flatten)∧Below (w.alloc (.cells #[.int .i64 y.now,.int .i64 y.seq,.slice C y.shelf.length f,.slice A y.runs.length c] tYd)).heap.size (w.alloc (.cells #[.int .i64 y.now,.int .i64 y.seq,.slice C y.shelf.length f,.slice A y.runs.length c] tYd)) wr) (fun _ i _ _=>y.shelf.length-(intOf i).toNat)
   case atStart=>exact ⟨0,by omega,rfl,by simp [kT],Below.refl _ _⟩
   case round=>
    obtain ⟨k,hk,rfl,rfl,hbel⟩:=hrel;obtain ⟨wo,rfl⟩:∃wo:World,wo=wr:=⟨_,rfl⟩;have hB2:=jR hB0 hbel;obtain ⟨hcr,hfr⟩:=vL hbel;have q0:wo.cell? ⟨w.heap.size,0,none⟩=some (.int .i64 y.now):=(hcr _ _ (by simp)).trans (by simp [go_sem])
    have q1:wo.cell? ⟨w.heap.size,1,none⟩=some (.int .i64 y.seq):=(hcr _ _ (by simp)).trans (by simp [go_sem])
    have q2:wo.cell? ⟨w.heap.size,2,none⟩=some (.slice C y.shelf.length f):=(hcr _ _ (by simp)).trans (by simp [go_sem])
    have q3:wo.cell? ⟨w.heap.size,3,none⟩=some (.slice A y.runs.length c):=(hcr _ _ (by simp)).trans (by simp [go_sem])
    clear hcr hfr;by_cases hlt:k<y.shelf.length
    ·obtain ⟨es,hx⟩:=jg hlt
     obtain ⟨b1,o1,vk1,T2,rfl,-,hr1,-,-,hb1,hx1⟩:=hfa k es hx;clear hfa;obtain ⟨u,_,U0,U1,rfl,rfl,hu,rfl,rfl⟩:=hr1;have p0:w.cell? ⟨b1,o1+k,none⟩=some u:=by simpa using hx1 0 _ rfl
     have hfs:=zm hx
     have hse:∀j,kT y (y.shelf.take k).flatten+kT y (es.take j)≤2000000:=fun j=>by
      have h1:=jf7 y es j;have h2:=jdI y (y.shelf.take k).flatten es;rw [←hfs] at h2;have h3:=jkd y (y.shelf.take (k+1)).flatten;have h4:(y.shelf.take (k+1)).flatten.length≤(jaU y).length:=by unfold jaU;rw [ql,ql];exact vt _ _ _
      omega
     obtain ⟨B,d,rfl,hd1,hd2,hdb⟩:=Rep.open_ (size:=4) (enc:=jk) (fun _=>rfl) (by decide) hu
     unfold maxLen at hd2;have hl3:es.length≤9223372036854775807:=by omega
     have p0':=jX hB2 p0;have HFS:=Lib.hid hfs;clear hx hx1 hfs
     go_wp2
     go_loopw [3,6] (fun n i wr=>∃j:Nat,j≤es.length∧i=.int .i64 j∧n=.int .i64 ((jP vJ y.runs:Int)+kT y (y.shelf.take k).flatten+kT y (es.take j))∧Below wo.heap.size wo wr) (fun _ i _=>es.length-(intOf i).toNat)
     case atStart=>exact ⟨0,by omega,rfl,by simp [kT],Below.refl _ _⟩
     case round=>
      obtain ⟨j,hj,rfl,rfl,hbe⟩:=hrel;have hB3:=jR hB2 hbe;have r2:=jX hbe q2;have p0'':=jX hbe p0';by_cases hjl:j<es.length
      ·obtain ⟨x,hx⟩:=jg hjl
       obtain ⟨b2,o2,vk2,T3,rfl,-,hr2,-,-,hb2,hx2⟩:=hdb j x hx;clear hdb;obtain ⟨rfl,rfl⟩:=qd hr2;have hsj:=hse j;have hss:=jf8 (y:=y) hx;have HS:=Lib.hid hss;have c0:=cell_regrown (jhp hB3 (hx2 0 _ rfl));have c1:=cell_regrown (jX hB3 (hx2 1 _ rfl));have c2:=cell_regrown (jX hB3 (hx2 2 _ rfl));have c3:=cell_regrown (jX hB3 (hx2 3 _ rfl));have g0:=cell_regrown (jX hbe q0);have g1:=cell_regrown (jX hbe q1);have g2:=cell_regrown r2;have g3:=cell_regrown (jX hbe q3);have gp:=cell_regrown p0'';have hcall:=fun (W:World) (hW:Below wr.heap.size wr W)=>jpp y x _ _ _ _ W own own ⟨_,rfl,jeC (up (up ah0 hB3) hW) (up (up ah1 hB3) hW)⟩ ⟨_,rfl,jjV _ _ x⟩
       clear hx hx2 hss hse;by_cases hfr:vB y x=true
       ·have HF:=Lib.hid hfr
        clear hfr
        go_wp2
        refine wp_region_quiet_below (by kernel_rfl) (by kernel_rfl) ?_
        repeat (go_big_quiet_step (exact Calls.regrown_of (cb (hcall _ (below_regrown wr _ _)) HF.out)))
        refine wpQuiet_nil ?_;intro _ hw';obtain ⟨⟨dq,osq⟩,hw''⟩:=hw';subst hw''
        go_wp2
        go_roundw
        case rel=>
         refine ⟨j+1,by omega,by go_num,?_,jR hbe (below_regrown wr dq osq)⟩
         rw [HS.out,if_pos HF.out];rfl
        case measure=>simp [intOf];omega
       ·have hfr':vB y x=false:=by simpa using hfr
        have HF:=Lib.hid hfr';clear hfr hfr'
        go_wp2
        refine wp_region_quiet_below (by kernel_rfl) (by kernel_rfl) ?_
        repeat (go_big_quiet_step (exact Calls.regrown_of (cb (hcall _ (below_regrown wr _ _)) HF.out)))
        refine wpQuiet_nil ?_;intro _ hw';obtain ⟨⟨dq,osq⟩,hw''⟩:=hw';subst hw''
        go_wp2
        go_roundw
        case rel=>
         refine ⟨j+1,by omega,by go_num,?_,jR hbe (below_regrown wr dq osq)⟩
         rw [HS.out,HF.out];simp;omega
        case measure=>simp [intOf];omega
      ·obtain rfl:j=es.length:=by omega
       clear hdb hse;rw [List.take_length]
       go_wp2
       go_roundw
       case rel=>
        refine ⟨k+1,by omega,by go_num,?_,jR hbel hbe⟩
        rw [HFS.out,jdI];simp;omega
       case measure=>simp [intOf];omega
    ·obtain rfl:k=y.shelf.length:=by omega
     clear hfa;rw [List.take_length];have hsl:vu y=(jP vJ y.runs:Int)+kT y y.shelf.flatten:=rfl;have HSL:=Lib.hid hsl;clear hsl
     go_wp2
     go_ret
     exact ⟨jao HSL.out.symm,hB2⟩
end Go.Proofs.Ytmnpailnelmpiaa
