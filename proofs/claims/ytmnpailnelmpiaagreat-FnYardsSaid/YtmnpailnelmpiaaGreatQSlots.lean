/- Parts. -/
import Derived.Test.YtmnpailnelmpiaaGreatQRunAt
set_option linter.unusedSimpArgs false
set_option linter.unusedVariables false
set_option maxHeartbeats 4000000
namespace Go.Proofs.YtmnpailnelmpiaaGreat
open Go.RowKit Go.Sort Go.BigFrame
theorem jmm {w w1:World} {b o:Nat} {v:Value} (hB:Below w.heap.size w w1) (h:w.cell? ⟨b,o+0,none⟩=some v):w1.cell? ⟨b,o,none⟩=some v:=jv hB h
theorem jAI:∀(x:En),∀d∈jf x,∃u,d=.val u:=by intro y d hd;simp [jf] at hd;rcases hd with rfl|rfl|rfl|rfl<;>exact ⟨_,rfl⟩
theorem jl2 (y:Yd) (a:Value) (S:List Nat) (w:World) (own:Bool) (ha:AggRep w own (jb y) a S) (hsz:jK y≤2000000):
 Calls Tryz.prog 133 #[a] w (jBl w (jm (zZ y))):=by
 obtain ⟨_,rfl,ha⟩:=ha;obtain ⟨sv,rv,S1,S2,rfl,ah0,ah1,rfl⟩:=vQ ha;clear ha ah1;obtain ⟨A,c,rfl,hc1,hc2,hca⟩:=Rep.open_ (size:=1) (enc:=fun es=>[jm es]) (fun _=>rfl) (by decide) ah0
 unfold maxLen at hc2;have hl1:y.shelf.length≤9223372036854775807:=by omega
 have hsm:y.shelf.flatten.length≤2000000:=by rw [qX];simp only [jK,jb9] at hsz;omega
 go_enter Tryz.func133,Tryz.ntmps133
 go_wp2
 go_loopw [3,5,9] (fun v _ i wr=>∃k:Nat,k≤y.shelf.length∧i=.int .i64 k∧Fill jf 4 tEn w (y.shelf.take k).flatten v wr) (fun _ _ i _=>y.shelf.length-(intOf i).toNat)
 case atStart=>exact ⟨0,by omega,rfl,[],Rep.nil_ _ _ _,Fresh.nil _,(Below.refl _ _).alloc (by simp) _⟩
 case round=>
  obtain ⟨k,hk,rfl,S3,hrep,hF,hbel⟩:=hrel;by_cases hlt:k<y.shelf.length
  ·obtain ⟨es,hx⟩:=je hlt
   obtain ⟨b1,o1,vk1,T1,rfl,-,hr1,-,-,hb1,hx1⟩:=hca k es hx;clear hca;obtain ⟨u,_,U0,U1,rfl,rfl,hu,rfl,rfl⟩:=hr1;have p0:=(hbel.cell (p:=⟨b1,o1+k,none⟩) hb1).trans (by simpa using hx1 0 _ rfl:w.cell? ⟨b1,o1+k,none⟩=_)
   obtain ⟨A2,c2,news,rfl,hn1,hn2,hn3⟩:=Rep.src (enc:=jf) (size:=4) (fun _=>rfl) (by decide) jAI (hu.below hbel (Nat.le_refl _))
   have htk:=jbd hx
   have hle:(y.shelf.take (k+1)).flatten.length≤2000000:=by
    have:(y.shelf.take (k+1)).flatten.length≤y.shelf.flatten.length:=by rw [qX,qX];exact jbq _ _ _
    omega
   rw [htk,List.length_append] at hle;have HK:=Lib.hid htk;clear hx hx1 htk
   go_wp2_with ((with_reducible refine jn5 (.tmp 13) (.tmp 14) ?_);refine jaW (enc:=jf) (xs:=(y.shelf.take k).flatten) (ys:=es) rfl _ _ rfl slEn (fun _=>rfl) rfl hrep A2 es.length c2 news rfl hn1 rfl hn2 hn3 jue w.heap.size hbel.size (by simpa using hF) (by unfold maxLen;omega) (by omega) ?_;intro v' w' S' hrep' hF' ho' _)
   go_roundw
   case rel=>
    refine ⟨k+1,by omega,by go_num,S',?_,hF',hbel.trans (ho'.below (fun s hs=>hF.2 s hs) hbel.size)⟩
    rw [HK.out];exact hrep'
   case measure=>simp [intOf];omega
  ·obtain rfl:k=y.shelf.length:=by omega
   clear hca
   go_wp2
   go_ret
   exact ⟨_,S3,rfl,by rw [List.take_length] at hrep;exact hrep,hF,hbel⟩
theorem jkS (y:Yd) (a:Value) (S:List Nat) (w:World) (own:Bool) (ha:AggRep w own (jb y) a S) (hsz:jK y≤2000000):
 Calls Tryz.prog 62 #[a] w fun e w'=>e=.returned (.int .i64 (kZ y))∧Below w.heap.size w w':=by
 obtain ⟨_,rfl,ha⟩:=ha;obtain ⟨sv,rv,S1,S2,rfl,ah0,ah1,rfl⟩:=vQ ha;clear ha;obtain ⟨A,c,rfl,hc1,hc2,hca⟩:=Rep.open_ (size:=8) (enc:=jd) (fun _=>rfl) (by decide) ah1
 unfold maxLen at hc2;have hl1:y.runs.length≤9223372036854775807:=by omega
 have hlive:vM kJ y.runs≤2000000:=by have:=jix y.runs;simp only [jK,jca] at hsz;omega
 have hall:(zZ y).length≤2000000:=by unfold zZ;rw [qX];simp only [jK,jb9] at hsz;omega
 obtain ⟨svA,svn,svc,rfl⟩:=Rep.form ah0;have hB0:=upB (Below.refl w.heap.size w) (.cells #[.int .i64 y.now,.int .i64 y.seq,.slice svA svn svc,.slice A y.runs.length c] tYd)
 go_enter Tryz.func62,Tryz.ntmps62
 go_wp2
 go_loopw [3,5,11] (fun n _ i wr=>∃k:Nat,k≤y.runs.length∧i=.int .i64 k∧n=.int .i64 (vM kJ (y.runs.take k):Nat)∧Below (w.alloc (.cells #[.int .i64 y.now,.int .i64 y.seq,.slice svA svn svc,.slice A y.runs.length c] tYd)).heap.size (w.alloc (.cells #[.int .i64 y.now,.int .i64 y.seq,.slice svA svn svc,.slice A y.runs.length c] tYd)) wr) (fun _ _ i _=>y.runs.length-(intOf i).toNat)
 case atStart=>exact ⟨0,by omega,rfl,rfl,Below.refl _ _⟩
 case round=>
  obtain ⟨k,hk,rfl,rfl,hbel⟩:=hrel;have hB:=kq hB0 hbel;by_cases hlt:k<y.runs.length
  ·obtain ⟨x,hx⟩:=je hlt
   obtain ⟨b1,o1,vk1,T1,rfl,-,hr1,-,-,hb1,hx1⟩:=hca k x hx;clear hca;obtain ⟨v0,v1,U0,U1,rfl,hev,htv,-⟩:=zU hr1;obtain ⟨_,_,_,rfl⟩:=Rep.form hev;obtain ⟨B,d,rfl,hd1,hd2,hdb⟩:=Rep.open_ (size:=4) (enc:=jn) (fun _=>rfl) (by decide) htv
   unfold maxLen at hd2;have hl2:x.tasks.length≤9223372036854775807:=by omega
   have p0:=jmm hB (hx1 0 _ rfl);have p1:=jv hB (hx1 1 _ rfl);have p2:=jv hB (hx1 2 _ rfl);have p3:=jv hB (hx1 3 _ rfl);have p4:=jv hB (hx1 4 _ rfl);have p5:=jv hB (hx1 5 _ rfl);have p6:=jv hB (hx1 6 _ rfl);have p7:=jv hB (hx1 7 _ rfl);have htk:=jac (tot:=kJ) hx;have htl:=jbq kJ y.runs (k+1);have hlv:kJ x=if x.state=1 then x.tasks.length else 0:=rfl
   have HK:=Lib.hid htk;have HL:=Lib.hid hlv;have hn0:(vM kJ (y.runs.take k):Int)≤2000000:=by omega
   have hn1:x.tasks.length≤2000000∨x.state≠1:=by by_cases h:x.state=1;left;rw [if_pos h] at hlv;omega;exact .inr h
   clear hx hx1 hr1 htk hlv hdb htl;by_cases hst:x.state=1
   ·have hs:(x.state==1)=true:=by simpa using hst
    have hn2:x.tasks.length≤2000000:=by rcases hn1 with h|h;exact h;exact absurd hst h
    have HS:=Lib.hid hst;clear hst hn1
    go_wp2
    go_roundw
    case rel=>
     refine ⟨k+1,by omega,by go_num,?_,?_⟩
     ·rw [HK.out,HL.out,if_pos HS.out];go_num
     ·exact hbel.trans (((Below.refl _ _).alloc (Nat.le_refl _) _).mono hbel.size)
    case measure=>simp [intOf];omega
   ·have hs:(x.state==1)=false:=by simpa using hst
    have HS:=Lib.hid hst;clear hst hn1
    go_wp2
    go_roundw
    case rel=>
     refine ⟨k+1,by omega,by go_num,?_,?_⟩
     ·rw [HK.out,HL.out,if_neg HS.out];rfl
     ·exact hbel.trans (((Below.refl _ _).alloc (Nat.le_refl _) _).mono hbel.size)
    case measure=>simp [intOf];omega
  ·obtain rfl:k=y.runs.length:=by omega
   clear hca;rw [List.take_length];obtain ⟨hcr,hfr⟩:=zI hbel;have q0:wr.cell? ⟨w.heap.size,0,none⟩=some (.int .i64 y.now):=(hcr _ _ (by simp)).trans (by simp [go_sem])
   have q1:wr.cell? ⟨w.heap.size,1,none⟩=some (.int .i64 y.seq):=(hcr _ _ (by simp)).trans (by simp [go_sem])
   have q2:wr.cell? ⟨w.heap.size,2,none⟩=some (.slice svA svn svc):=(hcr _ _ (by simp)).trans (by simp [go_sem])
   have q3:wr.cell? ⟨w.heap.size,3,none⟩=some (.slice A y.runs.length c):=(hcr _ _ (by simp)).trans (by simp [go_sem])
   clear hcr hfr hbel
   go_wp2_with fail
   refine (jl2 y _ _ _ own ⟨_,rfl,jaq (up ah0 hB) (up ah1 hB)⟩ hsz).mono ?_;rintro e w1 ⟨ev,T1,rfl,hrv,-,hb1⟩;obtain ⟨B,d,rfl,hd1,hd2,hdb⟩:=Rep.open_ (size:=4) (enc:=jf) (fun _=>rfl) (by decide) hrv
   unfold maxLen at hd2;have hB1:=kq hB hb1
   replace q0:=jv hb1 q0
   replace q1:=jv hb1 q1
   replace q2:=jv hb1 q2
   replace q3:=jv hb1 q3
   clear hb1 hrv
   go_wp2_with fail
   go_loopw [3,7,27] (fun n _ i wr=>∃k:Nat,k≤(zZ y).length∧i=.int .i64 k∧n=.int .i64 ((vM kJ y.runs:Int)+qq y ((zZ y).take k))∧Below w1.heap.size w1 wr) (fun _ _ i _=>(zZ y).length-(intOf i).toNat)
   case atStart=>exact ⟨0,by omega,rfl,by simp [qq],Below.refl _ _⟩
   case round=>
    obtain ⟨k,hk,rfl,rfl,hbel⟩:=hrel;have hB2:=kq hB1 hbel;by_cases hlt:k<(zZ y).length
    ·obtain ⟨x,hx⟩:=je hlt
     obtain ⟨b1,o1,vk1,T2,rfl,-,hr1,-,-,hb1,hx1⟩:=hdb k x hx;clear hdb;obtain ⟨rfl,rfl⟩:=jfi hr1;have p0:=jmm hbel (hx1 0 _ rfl);have p1:=jv hbel (hx1 1 _ rfl);have p2:=jv hbel (hx1 2 _ rfl);have p3:=jv hbel (hx1 3 _ rfl);have r0:=jv hbel q0;have r1:=jv hbel q1;have r2:=jv hbel q2;have r3:=jv hbel q3;have hltw:=World.block_lt_of_cell? wr _ r0;simp only at hltw;have hss:=jkr (y:=y) hx;have hst:=jkq y (zZ y) (k+1);have hsa:=jlh y (zZ y);have hn0:(vM kJ y.runs:Int)+qq y ((zZ y).take k)≤4000000:=by split at hss<;>omega
     have HS:=Lib.hid hss;clear hx hx1 hss hst hsa;by_cases hfr:jN y x=true
     ·have HF:=Lib.hid hfr
      clear hfr
      go_wp2_with (go_at_call 57;refine (cb (jl3 y x _ _ _ _ _ own own ⟨_,rfl,jaq (upA (up ah0 hB2) _) (upA (up ah1 hB2) _)⟩ ⟨_,rfl,jwe _ _ x⟩) HF.out).mono ?_;rintro e w2 ⟨rfl,hb2⟩)
      go_roundw
      case rel=>
       refine ⟨k+1,by omega,by go_num,?_,kq (upB hbel _) hb2⟩
       rw [HS.out,if_pos HF.out];rfl
      case measure=>simp [intOf];omega
     ·have hfr':jN y x=false:=by simpa using hfr
      have HF:=Lib.hid hfr';clear hfr hfr'
      go_wp2_with (go_at_call 57;refine (cb (jl3 y x _ _ _ _ _ own own ⟨_,rfl,jaq (upA (up ah0 hB2) _) (upA (up ah1 hB2) _)⟩ ⟨_,rfl,jwe _ _ x⟩) HF.out).mono ?_;rintro e w2 ⟨rfl,hb2⟩)
      go_roundw
      case rel=>
       refine ⟨k+1,by omega,by go_num,?_,kq (upB hbel _) hb2⟩
       rw [HS.out,HF.out];simp;omega
      case measure=>simp [intOf];omega
    ·obtain rfl:k=(zZ y).length:=by omega
     clear hdb;rw [List.take_length];have hsl:kZ y=(vM kJ y.runs:Int)+qq y (zZ y):=rfl;have HSL:=Lib.hid hsl;clear hsl
     go_wp2
     go_ret
     exact ⟨jgf HSL.out.symm,hB2⟩
open Go.RowKit Go.Sort Go.BigFrame
theorem jg6 (y:Yd) (a b:List En):qq y (a++b)=qq y a+qq y b:=by simp [qq]
theorem jkx (y:Yd) (a:Value) (S:List Nat) (w:World) (own:Bool) (ha:AggRep w own (jb y) a S) (hsz:jK y≤2000000):
 Calls Tryz.prog 63 #[a] w fun e w'=>e=.returned (.int .i64 (kZ y))∧Below w.heap.size w w':=by
 obtain ⟨_,rfl,ha⟩:=ha;obtain ⟨sv,rv,S1,S2,rfl,ah0,ah1,rfl⟩:=vQ ha;clear ha;obtain ⟨A,c,rfl,hc1,hc2,hca⟩:=Rep.open_ (size:=8) (enc:=jd) (fun _=>rfl) (by decide) ah1
 obtain ⟨C,f,rfl,hf1,hf2,hfa⟩:=Rep.open_ (size:=1) (enc:=fun es=>[jm es]) (fun _=>rfl) (by decide) ah0
 unfold maxLen at hc2 hf2;have hl1:y.runs.length≤9223372036854775807:=by omega
 have hl2:y.shelf.length≤9223372036854775807:=by omega
 have hlive:vM kJ y.runs≤2000000:=by have:=jix y.runs;simp only [jK,jca] at hsz;omega
 have hall:(zZ y).length≤2000000:=by unfold zZ;rw [qX];simp only [jK,jb9] at hsz;omega
 have hB0:=upB (Below.refl w.heap.size w) (.cells #[.int .i64 y.now,.int .i64 y.seq,.slice C y.shelf.length f,.slice A y.runs.length c] tYd)
 go_enter Tryz.func63,Tryz.ntmps63
 go_wp2
 go_loop [3,4] (fun n i=>∃k:Nat,k≤y.runs.length∧i=.int .i64 k∧n=.int .i64 (vM kJ (y.runs.take k):Nat)) (fun _ i=>y.runs.length-(intOf i).toNat)
 case atStart=>exact ⟨0,by omega,rfl,rfl⟩
 case round=>
  obtain ⟨k,hk,rfl,rfl⟩:=hrel;by_cases hlt:k<y.runs.length
  ·obtain ⟨x,hx⟩:=je hlt
   obtain ⟨b1,o1,vk1,T1,rfl,-,hr1,-,-,hb1,hx1⟩:=hca k x hx;clear hca hfa;obtain ⟨v0,v1,U0,U1,rfl,hev,htv,-⟩:=zU hr1;obtain ⟨B,d,rfl,hd1,hd2,hdb⟩:=Rep.open_ (size:=4) (enc:=jn) (fun _=>rfl) (by decide) htv
   unfold maxLen at hd2;have hl3:x.tasks.length≤9223372036854775807:=by omega
   have p6:=hx1 6 _ rfl;have p7:=hx1 7 _ rfl;have htk:=jac (tot:=kJ) hx;have htl:=jbq kJ y.runs (k+1);have hlv:kJ x=if x.state=1 then x.tasks.length else 0:=rfl
   have HK:=Lib.hid htk;have HL:=Lib.hid hlv;have hn0:(vM kJ (y.runs.take k):Int)≤2000000:=by omega
   have hn1:x.tasks.length≤2000000∨x.state≠1:=by by_cases h:x.state=1;left;rw [if_pos h] at hlv;omega;exact .inr h
   clear hx hx1 hr1 htk hlv hdb htl;by_cases hst:x.state=1
   ·have hs:(x.state==1)=true:=by simpa using hst
    have hn2:x.tasks.length≤2000000:=by rcases hn1 with h|h;exact h;exact absurd hst h
    have HS:=Lib.hid hst;clear hst hn1
    go_wp2
    go_round
    case rel=>
     refine ⟨k+1,by omega,by go_num,?_⟩
     rw [HK.out,HL.out,if_pos HS.out];go_num
    case measure=>simp [intOf];omega
   ·have hs:(x.state==1)=false:=by simpa using hst
    have HS:=Lib.hid hst;clear hst hn1
    go_wp2
    go_round
    case rel=>
     refine ⟨k+1,by omega,by go_num,?_⟩
     rw [HK.out,HL.out,if_neg HS.out];rfl
    case measure=>simp [intOf];omega
  ·obtain rfl:k=y.runs.length:=by omega
   clear hca;rw [List.take_length]
   go_wp2
   go_loopw [3,5,6] (fun n i _ wr=>∃k:Nat,k≤y.shelf.length∧i=.int .i64 k∧n=.int .i64 ((vM kJ y.runs:Int)+qq y (y.shelf.take k).flatten)∧Below (w.alloc (.cells #[.int .i64 y.now,.int .i64 y.seq,.slice C y.shelf.length f,.slice A y.runs.length c] tYd)).heap.size (w.alloc (.cells #[.int .i64 y.now,.int .i64 y.seq,.slice C y.shelf.length f,.slice A y.runs.length c] tYd)) wr) (fun _ i _ _=>y.shelf.length-(intOf i).toNat)
   case atStart=>exact ⟨0,by omega,rfl,by simp [qq],Below.refl _ _⟩
   case round=>
    obtain ⟨k,hk,rfl,rfl,hbel⟩:=hrel;obtain ⟨wo,rfl⟩:∃wo:World,wo=wr:=⟨_,rfl⟩;have hB2:=kq hB0 hbel;obtain ⟨hcr,hfr⟩:=zI hbel;have q0:wo.cell? ⟨w.heap.size,0,none⟩=some (.int .i64 y.now):=(hcr _ _ (by simp)).trans (by simp [go_sem])
    have q1:wo.cell? ⟨w.heap.size,1,none⟩=some (.int .i64 y.seq):=(hcr _ _ (by simp)).trans (by simp [go_sem])
    have q2:wo.cell? ⟨w.heap.size,2,none⟩=some (.slice C y.shelf.length f):=(hcr _ _ (by simp)).trans (by simp [go_sem])
    have q3:wo.cell? ⟨w.heap.size,3,none⟩=some (.slice A y.runs.length c):=(hcr _ _ (by simp)).trans (by simp [go_sem])
    clear hcr hfr;by_cases hlt:k<y.shelf.length
    ·obtain ⟨es,hx⟩:=je hlt
     obtain ⟨b1,o1,vk1,T2,rfl,-,hr1,-,-,hb1,hx1⟩:=hfa k es hx;clear hfa;obtain ⟨u,_,U0,U1,rfl,rfl,hu,rfl,rfl⟩:=hr1;have p0:w.cell? ⟨b1,o1+k,none⟩=some u:=by simpa using hx1 0 _ rfl
     have hfs:=jbd hx
     have hse:∀j,qq y (y.shelf.take k).flatten+qq y (es.take j)≤2000000:=fun j=>by
      have h1:=jkq y es j;have h2:=jg6 y (y.shelf.take k).flatten es;rw [←hfs] at h2;have h3:=jlh y (y.shelf.take (k+1)).flatten;have h4:(y.shelf.take (k+1)).flatten.length≤(zZ y).length:=by unfold zZ;rw [qX,qX];exact jbq _ _ _
      omega
     obtain ⟨B,d,rfl,hd1,hd2,hdb⟩:=Rep.open_ (size:=4) (enc:=jf) (fun _=>rfl) (by decide) hu
     unfold maxLen at hd2;have hl3:es.length≤9223372036854775807:=by omega
     have p0':=jv hB2 p0;have HFS:=Lib.hid hfs;clear hx hx1 hfs
     go_wp2
     go_loopw [3,6] (fun n i wr=>∃j:Nat,j≤es.length∧i=.int .i64 j∧n=.int .i64 ((vM kJ y.runs:Int)+qq y (y.shelf.take k).flatten+qq y (es.take j))∧Below wo.heap.size wo wr) (fun _ i _=>es.length-(intOf i).toNat)
     case atStart=>exact ⟨0,by omega,rfl,by simp [qq],Below.refl _ _⟩
     case round=>
      obtain ⟨j,hj,rfl,rfl,hbe⟩:=hrel;have hB3:=kq hB2 hbe;have r2:=jv hbe q2;have p0'':=jv hbe p0';by_cases hjl:j<es.length
      ·obtain ⟨x,hx⟩:=je hjl
       obtain ⟨b2,o2,vk2,T3,rfl,-,hr2,-,-,hb2,hx2⟩:=hdb j x hx;clear hdb;obtain ⟨rfl,rfl⟩:=jfi hr2;have hsj:=hse j;have hss:=jkr (y:=y) hx;have HS:=Lib.hid hss;have c0:=cell_regrown (jmm hB3 (hx2 0 _ rfl));have c1:=cell_regrown (jv hB3 (hx2 1 _ rfl));have c2:=cell_regrown (jv hB3 (hx2 2 _ rfl));have c3:=cell_regrown (jv hB3 (hx2 3 _ rfl));have g0:=cell_regrown (jv hbe q0);have g1:=cell_regrown (jv hbe q1);have g2:=cell_regrown r2;have g3:=cell_regrown (jv hbe q3);have gp:=cell_regrown p0'';have hcall:=fun (W:World) (hW:Below wr.heap.size wr W)=>jpy y x _ _ _ _ W own own ⟨_,rfl,jaq (up (up ah0 hB3) hW) (up (up ah1 hB3) hW)⟩ ⟨_,rfl,jwe _ _ x⟩
       clear hx hx2 hss hse;by_cases hfr:jN y x=true
       ·have HF:=Lib.hid hfr
        clear hfr
        go_wp2
        refine wp_region_quiet_below (by kernel_rfl) (by kernel_rfl) ?_
        repeat (go_big_quiet_step (exact Calls.regrown_of (cb (hcall _ (below_regrown wr _ _)) HF.out)))
        refine wpQuiet_nil ?_;intro _ hw';obtain ⟨⟨dq,osq⟩,hw''⟩:=hw';subst hw''
        go_wp2
        go_roundw
        case rel=>
         refine ⟨j+1,by omega,by go_num,?_,kq hbe (below_regrown wr dq osq)⟩
         rw [HS.out,if_pos HF.out];rfl
        case measure=>simp [intOf];omega
       ·have hfr':jN y x=false:=by simpa using hfr
        have HF:=Lib.hid hfr';clear hfr hfr'
        go_wp2
        refine wp_region_quiet_below (by kernel_rfl) (by kernel_rfl) ?_
        repeat (go_big_quiet_step (exact Calls.regrown_of (cb (hcall _ (below_regrown wr _ _)) HF.out)))
        refine wpQuiet_nil ?_;intro _ hw';obtain ⟨⟨dq,osq⟩,hw''⟩:=hw';subst hw''
        go_wp2
        go_roundw
        case rel=>
         refine ⟨j+1,by omega,by go_num,?_,kq hbe (below_regrown wr dq osq)⟩
         rw [HS.out,HF.out];simp;omega
        case measure=>simp [intOf];omega
      ·obtain rfl:j=es.length:=by omega
       clear hdb hse;rw [List.take_length]
       go_wp2
       go_roundw
       case rel=>
        refine ⟨k+1,by omega,by go_num,?_,kq hbel hbe⟩
        rw [HFS.out,jg6];simp;omega
       case measure=>simp [intOf];omega
    ·obtain rfl:k=y.shelf.length:=by omega
     clear hfa;rw [List.take_length];have hsl:kZ y=(vM kJ y.runs:Int)+qq y y.shelf.flatten:=rfl;have HSL:=Lib.hid hsl;clear hsl
     go_wp2
     go_ret
     exact ⟨jgf HSL.out.symm,hB2⟩
open Go.RowKit Go.Sort Go.BigFrame
theorem jpx {y:Yd} (h:jK y≤2000000):0≤kZ y∧kZ y≤4000000:=by
 have hlive:vM kJ y.runs≤2000000:=by have:=jix y.runs;simp only [jK,jca] at h;omega
 have hall:(zZ y).length≤2000000:=by unfold zZ;rw [qX];simp only [jK,jb9] at h;omega
 have hst:=jlh y (zZ y);unfold kZ;omega
theorem jrO (y:Yd) (p:Pl) (a b:Value) (S S':List Nat) (w:World) (own own':Bool) (ha:AggRep w own (jb y) a S) (hb:AggRep w own' (ja p) b S') (hsz:jK y≤2000000):
 Calls Tryz.prog 211 #[a,b] w fun e1 w'=>e1=.returned (.bool (zg y p))∧Below w.heap.size w w':=by
 obtain ⟨_,rfl,ha⟩:=ha;obtain ⟨_,rfl,hb⟩:=hb;obtain ⟨ev,rfl,hev⟩:=jc8 hb;obtain ⟨sv,rv,S1,S2,rfl,ah0,ah1,rfl⟩:=vQ ha;clear ha hb;obtain ⟨A,c,rfl,hc1,hc2,-⟩:=Rep.open_ (size:=8) (enc:=jd) (fun _=>rfl) (by decide) ah1
 unfold maxLen at hc2;have hl1:y.runs.length≤9223372036854775807:=by omega
 have hsl:=jpx hsz
 have hcall:∀w',Below w.heap.size w w'→Calls Tryz.prog 62 #[.agg #[.int .i64 y.now,.int .i64 y.seq,sv,.slice A y.runs.length c]] w' fun e w''=>e=.returned (.int .i64 (kZ y))∧Below w'.heap.size w' w'':=
  fun w' hw=>jkS y _ _ w' own ⟨_,rfl,jaq (up ah0 hw) (up ah1 hw)⟩ hsz
 have hRF:zg y p=(decide (y.runs.length<8)&&(decide (0≤p.tasks∧p.tasks≤12)&&(decide (kZ y+p.tasks≤40)&&decide (y.seq≤1000000000-1000-p.tasks)))):=rfl;have HB:=Lib.hid hRF;clear hRF;generalize kZ y=s at*;obtain ⟨bo,hbo⟩:∃bo,bo=zg y p:=⟨_,rfl⟩;rw [←hbo];have HRF:Hid (bo=(decide (y.runs.length<8)&&(decide (0≤p.tasks∧p.tasks≤12)&&(decide (s+p.tasks≤40)&&decide (y.seq≤1000000000-1000-p.tasks))))):=Lib.hid (hbo.trans HB.out);clear hbo HB;obtain ⟨w2,hw2⟩:∃w2,w2=((w.alloc (.cells #[.int .i64 y.now,.int .i64 y.seq,sv,.slice A y.runs.length c] tYd)).alloc (.cells #[.int .i64 p.prio,.int .i64 p.most,.int .i64 p.wait,.int .i64 p.tasks,ev] tPl)):=⟨_,rfl⟩;have hB2:Below w.heap.size w w2:=by subst hw2;exact upB (upB (Below.refl w.heap.size w) _) _
 have q3:∀(d:Nat) (os:Array Obj),(grow (redrawn w2 d) os).cell? ⟨w.heap.size,3,none⟩=some (.slice A y.runs.length c):=fun d os=>cell_regrown (by subst hw2;simp [go_sem]) d os
 have r3:∀(d:Nat) (os:Array Obj),(grow (redrawn w2 d) os).cell? ⟨w.heap.size+1,3,none⟩=some (.int .i64 p.tasks):=fun d os=>cell_regrown (by subst hw2;simp [go_sem]) d os
 have q0:∀(d:Nat) (os:Array Obj),(grow (redrawn w2 d) os).cell? ⟨w.heap.size,0,none⟩=some (.int .i64 y.now):=fun d os=>cell_regrown (by subst hw2;simp [go_sem]) d os
 have q1:∀(d:Nat) (os:Array Obj),(grow (redrawn w2 d) os).cell? ⟨w.heap.size,1,none⟩=some (.int .i64 y.seq):=fun d os=>cell_regrown (by subst hw2;simp [go_sem]) d os
 have q2:∀(d:Nat) (os:Array Obj),(grow (redrawn w2 d) os).cell? ⟨w.heap.size,2,none⟩=some sv:=fun d os=>cell_regrown (by subst hw2;simp [go_sem]) d os
 by_cases h1:y.runs.length<8;rotate_left
 ·have g1:decide ((y.runs.length:Int)<8)=false:=by simp;omega
  have HD:=Lib.hid (show bo=false by rw [HRF.out];simp only [Bool.and_eq_false_iff,decide_eq_false_iff_not];omega)
  clear h1 HRF
  go_enter Tryz.func211,Tryz.ntmps211
  go_wp2
  rw [←hw2];clear hw2;refine wp_region_quiet_below (by kernel_rfl) (by kernel_rfl) ?_
  repeat (go_big_quiet_step (first|exact Calls.regrown_of (cb (vz _ _ _ _) HW.out)|exact Calls.regrown_of (hcall _ (kq hB2 (below_regrown w2 _ _)))))
  refine wpQuiet_nil ?_;intro _ hw';obtain ⟨⟨dq,osq⟩,hw''⟩:=hw';subst hw''
  go_wp2
  go_ret
  exact ⟨jX (by rw [HD.out]),kq hB2 (below_regrown w2 dq osq)⟩
 have g1:decide ((y.runs.length:Int)<8)=true:=by simp;omega
 by_cases h2:0≤p.tasks∧p.tasks≤12;rotate_left
 ·have HD:=Lib.hid (show bo=false by rw [HRF.out];simp only [Bool.and_eq_false_iff,decide_eq_false_iff_not];omega)
  have HW:Hid (inb p.tasks 0 12=false):=vA h2;clear h1 h2 HRF
  go_enter Tryz.func211,Tryz.ntmps211
  go_wp2
  rw [←hw2];clear hw2;refine wp_region_quiet_below (by kernel_rfl) (by kernel_rfl) ?_
  repeat (go_big_quiet_step (first|exact Calls.regrown_of (cb (vz _ _ _ _) HW.out)|exact Calls.regrown_of (hcall _ (kq hB2 (below_regrown w2 _ _)))))
  refine wpQuiet_nil ?_;intro _ hw';obtain ⟨⟨dq,osq⟩,hw''⟩:=hw';subst hw''
  go_wp2
  go_ret
  exact ⟨jX (by rw [HD.out]),kq hB2 (below_regrown w2 dq osq)⟩
 have HW:Hid (inb p.tasks 0 12=true):=jaE h2;obtain ⟨h2a,h2b⟩:=h2;by_cases h3:s+p.tasks≤40;rotate_left
 ·have g3:decide (s+p.tasks≤40)=false:=by simp;omega
  have HD:=Lib.hid (show bo=false by rw [HRF.out];simp only [Bool.and_eq_false_iff,decide_eq_false_iff_not];omega)
  clear h1 h3 HRF
  go_enter Tryz.func211,Tryz.ntmps211
  go_wp2
  rw [←hw2];clear hw2;refine wp_region_quiet_below (by kernel_rfl) (by kernel_rfl) ?_
  repeat (go_big_quiet_step (first|exact Calls.regrown_of (cb (vz _ _ _ _) HW.out)|exact Calls.regrown_of (hcall _ (kq hB2 (below_regrown w2 _ _)))))
  refine wpQuiet_nil ?_;intro _ hw';obtain ⟨⟨dq,osq⟩,hw''⟩:=hw';subst hw''
  go_wp2
  go_ret
  exact ⟨jX (by rw [HD.out]),kq hB2 (below_regrown w2 dq osq)⟩
 have g3:decide (s+p.tasks≤40)=true:=by simp;omega
 by_cases h4:y.seq≤999999000-p.tasks
 ·have g4:decide (y.seq≤999999000-p.tasks)=true:=by simp;omega
  have HD:=Lib.hid (show bo=true by rw [HRF.out];simp only [Bool.and_eq_true,decide_eq_true_eq];omega)
  clear h1 h3 h4 HRF
  go_enter Tryz.func211,Tryz.ntmps211
  go_wp2
  rw [←hw2];clear hw2;refine wp_region_quiet_below (by kernel_rfl) (by kernel_rfl) ?_
  repeat (go_big_quiet_step (first|exact Calls.regrown_of (cb (vz _ _ _ _) HW.out)|exact Calls.regrown_of (hcall _ (kq hB2 (below_regrown w2 _ _)))))
  refine wpQuiet_nil ?_;intro _ hw';obtain ⟨⟨dq,osq⟩,hw''⟩:=hw';subst hw''
  go_wp2
  go_ret
  exact ⟨jX (by rw [HD.out]),kq hB2 (below_regrown w2 dq osq)⟩
 ·have g4:decide (y.seq≤999999000-p.tasks)=false:=by simp;omega
  have HD:=Lib.hid (show bo=false by rw [HRF.out];simp only [Bool.and_eq_false_iff,decide_eq_false_iff_not];omega)
  clear h1 h3 h4 HRF
  go_enter Tryz.func211,Tryz.ntmps211
  go_wp2
  rw [←hw2];clear hw2;refine wp_region_quiet_below (by kernel_rfl) (by kernel_rfl) ?_
  repeat (go_big_quiet_step (first|exact Calls.regrown_of (cb (vz _ _ _ _) HW.out)|exact Calls.regrown_of (hcall _ (kq hB2 (below_regrown w2 _ _)))))
  refine wpQuiet_nil ?_;intro _ hw';obtain ⟨⟨dq,osq⟩,hw''⟩:=hw';subst hw''
  go_wp2
  go_ret
  exact ⟨jX (by rw [HD.out]),kq hB2 (below_regrown w2 dq osq)⟩
theorem jq8 (y:Yd) (p:Pl) (a b:Value) (S S':List Nat) (w:World) (own own':Bool) (ha:AggRep w own (jb y) a S) (hb:AggRep w own' (ja p) b S') (hsz:jK y≤2000000):
 Calls Tryz.prog 187 #[a,b] w fun e1 w'=>e1=.returned (.bool (zg y p))∧Below w.heap.size w w':=by
 obtain ⟨_,rfl,ha⟩:=ha;obtain ⟨_,rfl,hb⟩:=hb;obtain ⟨ev,rfl,hev⟩:=jc8 hb;obtain ⟨sv,rv,S1,S2,rfl,ah0,ah1,rfl⟩:=vQ ha;clear ha hb;obtain ⟨A,c,rfl,hc1,hc2,-⟩:=Rep.open_ (size:=8) (enc:=jd) (fun _=>rfl) (by decide) ah1
 unfold maxLen at hc2;have hl1:y.runs.length≤9223372036854775807:=by omega
 have hsl:=jpx hsz
 have hcall:∀w',Below w.heap.size w w'→Calls Tryz.prog 63 #[.agg #[.int .i64 y.now,.int .i64 y.seq,sv,.slice A y.runs.length c]] w' fun e w''=>e=.returned (.int .i64 (kZ y))∧Below w'.heap.size w' w'':=
  fun w' hw=>jkx y _ _ w' own ⟨_,rfl,jaq (up ah0 hw) (up ah1 hw)⟩ hsz
 have hRF:zg y p=(decide (y.runs.length<8)&&(decide (0≤p.tasks∧p.tasks≤12)&&(decide (kZ y+p.tasks≤40)&&decide (y.seq≤1000000000-1000-p.tasks)))):=rfl;have HB:=Lib.hid hRF;clear hRF;generalize kZ y=s at*;obtain ⟨bo,hbo⟩:∃bo,bo=zg y p:=⟨_,rfl⟩;rw [←hbo];have HRF:Hid (bo=(decide (y.runs.length<8)&&(decide (0≤p.tasks∧p.tasks≤12)&&(decide (s+p.tasks≤40)&&decide (y.seq≤1000000000-1000-p.tasks))))):=Lib.hid (hbo.trans HB.out);clear hbo HB;obtain ⟨w2,hw2⟩:∃w2,w2=((w.alloc (.cells #[.int .i64 y.now,.int .i64 y.seq,sv,.slice A y.runs.length c] tYd)).alloc (.cells #[.int .i64 p.prio,.int .i64 p.most,.int .i64 p.wait,.int .i64 p.tasks,ev] tPl)):=⟨_,rfl⟩;have hB2:Below w.heap.size w w2:=by subst hw2;exact upB (upB (Below.refl w.heap.size w) _) _
 have q3:∀(d:Nat) (os:Array Obj),(grow (redrawn w2 d) os).cell? ⟨w.heap.size,3,none⟩=some (.slice A y.runs.length c):=fun d os=>cell_regrown (by subst hw2;simp [go_sem]) d os
 have r3:∀(d:Nat) (os:Array Obj),(grow (redrawn w2 d) os).cell? ⟨w.heap.size+1,3,none⟩=some (.int .i64 p.tasks):=fun d os=>cell_regrown (by subst hw2;simp [go_sem]) d os
 have q0:∀(d:Nat) (os:Array Obj),(grow (redrawn w2 d) os).cell? ⟨w.heap.size,0,none⟩=some (.int .i64 y.now):=fun d os=>cell_regrown (by subst hw2;simp [go_sem]) d os
 have q1:∀(d:Nat) (os:Array Obj),(grow (redrawn w2 d) os).cell? ⟨w.heap.size,1,none⟩=some (.int .i64 y.seq):=fun d os=>cell_regrown (by subst hw2;simp [go_sem]) d os
 have q2:∀(d:Nat) (os:Array Obj),(grow (redrawn w2 d) os).cell? ⟨w.heap.size,2,none⟩=some sv:=fun d os=>cell_regrown (by subst hw2;simp [go_sem]) d os
 by_cases h1:y.runs.length<8;rotate_left
 ·have g1:decide ((y.runs.length:Int)<8)=false:=by simp;omega
  have HD:=Lib.hid (show bo=false by rw [HRF.out];simp only [Bool.and_eq_false_iff,decide_eq_false_iff_not];omega)
  clear h1 HRF
  go_enter Tryz.func187,Tryz.ntmps187
  go_wp2
  rw [←hw2];clear hw2;refine wp_region_quiet_below (by kernel_rfl) (by kernel_rfl) ?_
  repeat (go_big_quiet_step (first|exact Calls.regrown_of (cb (zq _ _ _ _) HW.out)|exact Calls.regrown_of (hcall _ (kq hB2 (below_regrown w2 _ _)))))
  refine wpQuiet_nil ?_;intro _ hw';obtain ⟨⟨dq,osq⟩,hw''⟩:=hw';subst hw''
  go_wp2
  go_ret
  exact ⟨jX (by rw [HD.out]),kq hB2 (below_regrown w2 dq osq)⟩
 have g1:decide ((y.runs.length:Int)<8)=true:=by simp;omega
 by_cases h2:0≤p.tasks∧p.tasks≤12;rotate_left
 ·have HD:=Lib.hid (show bo=false by rw [HRF.out];simp only [Bool.and_eq_false_iff,decide_eq_false_iff_not];omega)
  have HW:Hid (inb p.tasks 0 12=false):=vA h2;clear h1 h2 HRF
  go_enter Tryz.func187,Tryz.ntmps187
  go_wp2
  rw [←hw2];clear hw2;refine wp_region_quiet_below (by kernel_rfl) (by kernel_rfl) ?_
  repeat (go_big_quiet_step (first|exact Calls.regrown_of (cb (zq _ _ _ _) HW.out)|exact Calls.regrown_of (hcall _ (kq hB2 (below_regrown w2 _ _)))))
  refine wpQuiet_nil ?_;intro _ hw';obtain ⟨⟨dq,osq⟩,hw''⟩:=hw';subst hw''
  go_wp2
  go_ret
  exact ⟨jX (by rw [HD.out]),kq hB2 (below_regrown w2 dq osq)⟩
 have HW:Hid (inb p.tasks 0 12=true):=jaE h2;obtain ⟨h2a,h2b⟩:=h2;by_cases h3:s+p.tasks≤40;rotate_left
 ·have g3:decide (s+p.tasks≤40)=false:=by simp;omega
  have HD:=Lib.hid (show bo=false by rw [HRF.out];simp only [Bool.and_eq_false_iff,decide_eq_false_iff_not];omega)
  clear h1 h3 HRF
  go_enter Tryz.func187,Tryz.ntmps187
  go_wp2
  rw [←hw2];clear hw2;refine wp_region_quiet_below (by kernel_rfl) (by kernel_rfl) ?_
  repeat (go_big_quiet_step (first|exact Calls.regrown_of (cb (zq _ _ _ _) HW.out)|exact Calls.regrown_of (hcall _ (kq hB2 (below_regrown w2 _ _)))))
  refine wpQuiet_nil ?_;intro _ hw';obtain ⟨⟨dq,osq⟩,hw''⟩:=hw';subst hw''
  go_wp2
  go_ret
  exact ⟨jX (by rw [HD.out]),kq hB2 (below_regrown w2 dq osq)⟩
 have g3:decide (s+p.tasks≤40)=true:=by simp;omega
 by_cases h4:y.seq≤999999000-p.tasks
 ·have g4:decide (y.seq≤999999000-p.tasks)=true:=by simp;omega
  have HD:=Lib.hid (show bo=true by rw [HRF.out];simp only [Bool.and_eq_true,decide_eq_true_eq];omega)
  clear h1 h3 h4 HRF
  go_enter Tryz.func187,Tryz.ntmps187
  go_wp2
  rw [←hw2];clear hw2;refine wp_region_quiet_below (by kernel_rfl) (by kernel_rfl) ?_
  repeat (go_big_quiet_step (first|exact Calls.regrown_of (cb (zq _ _ _ _) HW.out)|exact Calls.regrown_of (hcall _ (kq hB2 (below_regrown w2 _ _)))))
  refine wpQuiet_nil ?_;intro _ hw';obtain ⟨⟨dq,osq⟩,hw''⟩:=hw';subst hw''
  go_wp2
  go_ret
  exact ⟨jX (by rw [HD.out]),kq hB2 (below_regrown w2 dq osq)⟩
 ·have g4:decide (y.seq≤999999000-p.tasks)=false:=by simp;omega
  have HD:=Lib.hid (show bo=false by rw [HRF.out];simp only [Bool.and_eq_false_iff,decide_eq_false_iff_not];omega)
  clear h1 h3 h4 HRF
  go_enter Tryz.func187,Tryz.ntmps187
  go_wp2
  rw [←hw2];clear hw2;refine wp_region_quiet_below (by kernel_rfl) (by kernel_rfl) ?_
  repeat (go_big_quiet_step (first|exact Calls.regrown_of (cb (zq _ _ _ _) HW.out)|exact Calls.regrown_of (hcall _ (kq hB2 (below_regrown w2 _ _)))))
  refine wpQuiet_nil ?_;intro _ hw';obtain ⟨⟨dq,osq⟩,hw''⟩:=hw';subst hw''
  go_wp2
  go_ret
  exact ⟨jX (by rw [HD.out]),kq hB2 (below_regrown w2 dq osq)⟩
end Go.Proofs.YtmnpailnelmpiaaGreat
