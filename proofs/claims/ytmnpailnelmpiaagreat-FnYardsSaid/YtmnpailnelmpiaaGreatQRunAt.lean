/- Parts. -/
import Derived.Test.YtmnpailnelmpiaaGreatQTy
set_option linter.unusedSimpArgs false
set_option linter.unusedVariables false
set_option maxHeartbeats 2000000
set_option maxRecDepth 100000
namespace Go.Proofs.YtmnpailnelmpiaaGreat
open Go.RowKit Go.Sort Go.BigFrame
theorem jaA (y:Yd) (id:Int) (a:Value) (S:List Nat) (w:World) (own:Bool) (ha:AggRep w own (jb y) a S):
 Calls Tryz.prog 152 #[a,.int .i64 id] w fun e w'=>e=.returned (.int .i64 (runAt y id))∧Below w.heap.size w w':=by
 obtain ⟨_,rfl,ha⟩:=ha;obtain ⟨sv,rv,S1,S2,rfl,ah0,ah1,rfl⟩:=vQ ha;clear ha ah0;obtain ⟨A,c,rfl,hc1,hc2,hca⟩:=Rep.open_ (size:=8) (enc:=jd) (fun _=>rfl) (by decide) ah1
 unfold maxLen at hc2;have hl1:y.runs.length≤9223372036854775807:=by omega
 by_cases h8:8<y.runs.length
 ·clear hca
  have hr:runAt y id=-1:=by simp [runAt,h8]
  rw [hr];clear hr
  go_enter Tryz.func152,Tryz.ntmps152
  go_wp2
  go_loop [5] (fun i=>i=.int .i64 0) (fun _=>0)
  case atStart=>rfl
  case round=>
   subst hrel
   go_wp2
   all_goals go_ret
   all_goals exact ⟨rfl,(Below.refl _ _).alloc (by simp) _⟩
 ·have hr:runAt y id=jgd y.runs id:=by simp [runAt,h8]
  rw [hr];clear hr
  go_enter Tryz.func152,Tryz.ntmps152
  go_wp2
  go_loop [5] (fun i=>∃k:Nat,k≤y.runs.length∧i=.int .i64 k∧∀j,j<k→∀z,y.runs[j]?=some z→z.id≠id) (fun i=>y.runs.length-(intOf i).toNat)
  case atStart=>exact ⟨0,by omega,rfl,by simp⟩
  case round=>
   obtain ⟨k,hk,rfl,hno⟩:=hrel;have HN:=Lib.hid hno;clear hno;by_cases hlt:k<y.runs.length
   ·obtain ⟨x,hx⟩:=je hlt
    obtain ⟨b1,o1,vk1,T1,rfl,-,hr1,-,-,hb1,hx1⟩:=hca k x hx;clear hca;obtain ⟨v0,v1,U0,U1,rfl,-,-,-⟩:=zU hr1;have HX:=Lib.hid hx;clear hx;have p0:w.cell? ⟨b1,o1+k*8,none⟩=some (.int .i64 x.id):=hx1 0 _ rfl;clear hx1 hr1;by_cases he:x.id=id
    ·have hb:(x.id==id)=true:=by simpa using he
     have HE:=Lib.hid he;clear he
     go_wp2
     go_ret
     exact ⟨jgf (jbs HX.out HE.out HN.out).symm,(Below.refl _ _).alloc (by simp) _⟩
    ·have hb:(x.id==id)=false:=by simpa using he
     have HE:=Lib.hid he;clear he
     go_wp2
     go_round
     case rel=>
      refine ⟨k+1,by omega,by go_num,fun j hj z hz=>?_⟩
      by_cases hjk:j=k
      ·subst hjk
       have:=HX.out;rw [hz] at this;cases this;exact HE.out
      ·exact HN.out j (by omega) z hz
     case measure=>simp [intOf];omega
   ·obtain rfl:k=y.runs.length:=by omega
    clear hca
    go_wp2
    go_ret
    exact ⟨jgf (jgc HN.out).symm,(Below.refl _ _).alloc (by simp) _⟩
theorem jnx (x:Rn) (id:Int) (a:Value) (S:List Nat) (g:Nat) (w:World) (own:Bool) (ha:AggRep w own (jd x) a S) (hg:w.cell? ⟨g,0,none⟩=some (.int .i64 id)):
 Calls Tryz.prog 135 #[a,.pointer (some ⟨g,0,none⟩)] w fun e w'=>e=.returned (.bool (x.id==id))∧Below w.heap.size w w':=by
 obtain ⟨_,rfl,ha⟩:=ha;obtain ⟨v0,v1,U0,U1,rfl,-,-,-⟩:=zU ha;clear ha;have hlt:=World.block_lt_of_cell? w _ hg
 go_enter Tryz.func135,Tryz.ntmps135
 go_wp2
 go_ret
 exact ⟨rfl,(Below.refl _ _).alloc (by simp) _⟩
theorem joY (rs:List Rn) (id:Int) (a:Value) (S:List Nat) (g:Nat) (w:World) (own:Bool) (ha:Rep w own (jO rs) a S) (hg:w.cell? ⟨g,0,none⟩=some (.int .i64 id)):
 Calls Tryz.prog 134 #[a,.func (.func 135) #[] #[.pointer (some ⟨g,0,none⟩)]] w fun e w'=>e=.returned (.int .i64 (jgd rs id))∧Below w.heap.size w w':=by
 obtain ⟨A,c,rfl,hc1,hc2,hca⟩:=Rep.open_ (size:=8) (enc:=jd) (fun _=>rfl) (by decide) ha
 unfold maxLen at hc2;have hl1:rs.length≤9223372036854775807:=by omega
 have hglt:=World.block_lt_of_cell? w _ hg;clear ha
 go_enter Tryz.func134,Tryz.ntmps134
 go_wp2
 go_loopw [5,8] (fun _ i wr=>∃k:Nat,k≤rs.length∧i=.int .i64 k∧(∀j,j<k→∀z,rs[j]?=some z→z.id≠id)∧Below w.heap.size w wr) (fun _ i _=>rs.length-(intOf i).toNat)
 case atStart=>exact ⟨0,by omega,rfl,by simp,Below.refl _ _⟩
 case round=>
  obtain ⟨k,hk,rfl,hno,hbel⟩:=hrel;have HN:=Lib.hid hno;clear hno;have hgr:wr.cell? ⟨g,0,none⟩=some (.int .i64 id):=(hbel.cell (p:=⟨g,0,none⟩) hglt).trans hg;by_cases hlt:k<rs.length
  ·obtain ⟨x,hx⟩:=je hlt
   obtain ⟨b1,o1,vk1,T1,rfl,-,hr1,-,-,hb1,hx1⟩:=hca k x hx;clear hca;obtain ⟨v0,v1,U0,U1,rfl,-,-,-⟩:=zU hr1;have HX:=Lib.hid hx;clear hx;have p0:=(hbel.cell (p:=⟨b1,o1+k*8,none⟩) hb1).trans (hx1 0 _ rfl:w.cell? ⟨b1,o1+k*8,none⟩=_);have p1:=(hbel.cell (p:=⟨b1,o1+k*8+1,none⟩) hb1).trans (hx1 1 _ rfl);have p2:=(hbel.cell (p:=⟨b1,o1+k*8+2,none⟩) hb1).trans (hx1 2 _ rfl);have p3:=(hbel.cell (p:=⟨b1,o1+k*8+3,none⟩) hb1).trans (hx1 3 _ rfl);have p4:=(hbel.cell (p:=⟨b1,o1+k*8+4,none⟩) hb1).trans (hx1 4 _ rfl);have p5:=(hbel.cell (p:=⟨b1,o1+k*8+5,none⟩) hb1).trans (hx1 5 _ rfl);have p6:=(hbel.cell (p:=⟨b1,o1+k*8+6,none⟩) hb1).trans (hx1 6 _ rfl);have p7:=(hbel.cell (p:=⟨b1,o1+k*8+7,none⟩) hb1).trans (hx1 7 _ rfl);clear hx1;by_cases he:x.id=id
   ·have hb:(x.id==id)=true:=by simpa using he
    have HE:=Lib.hid he;clear he
    go_wp2_with (go_at_call 135;refine (jnx x id _ _ _ _ own ⟨_,rfl,hr1.below hbel (Nat.le_refl _)⟩ hgr).mono ?_;rintro e w2 ⟨rfl,hb2⟩)
    go_ret
    exact ⟨jgf (jbs HX.out HE.out HN.out).symm,kq hbel hb2⟩
   ·have hb:(x.id==id)=false:=by simpa using he
    have HE:=Lib.hid he;clear he
    go_wp2_with (go_at_call 135;refine (jnx x id _ _ _ _ own ⟨_,rfl,hr1.below hbel (Nat.le_refl _)⟩ hgr).mono ?_;rintro e w2 ⟨rfl,hb2⟩)
    go_roundw
    case rel=>
     refine ⟨k+1,by omega,by go_num,fun j hj z hz=>?_,kq hbel hb2⟩
     by_cases hjk:j=k
     ·subst hjk
      have:=HX.out;rw [hz] at this;cases this;exact HE.out
     ·exact HN.out j (by omega) z hz
    case measure=>simp [intOf];omega
  ·obtain rfl:k=rs.length:=by omega
   clear hca
   go_wp2
   go_ret
   exact ⟨jgf (jgc HN.out).symm,hbel⟩
theorem jaG (y:Yd) (id:Int) (a:Value) (S:List Nat) (w:World) (own:Bool) (ha:AggRep w own (jb y) a S):
 Calls Tryz.prog 56 #[a,.int .i64 id] w fun e w'=>e=.returned (.int .i64 (runAt y id))∧Below w.heap.size w w':=by
 obtain ⟨_,rfl,ha⟩:=ha;obtain ⟨sv,rv,S1,S2,rfl,ah0,ah1,rfl⟩:=vQ ha;clear ha ah0;obtain ⟨A,c,rfl,hc1,hc2,hca⟩:=Rep.open_ (size:=8) (enc:=jd) (fun _=>rfl) (by decide) ah1
 unfold maxLen at hc2;have hl1:y.runs.length≤9223372036854775807:=by omega
 clear hca;by_cases h8:8<y.runs.length
 ·have hr:runAt y id=-1:=by simp [runAt,h8]
  rw [hr];clear hr
  go_enter Tryz.func56,Tryz.ntmps56
  go_wp2
  go_ret
  exact ⟨rfl,((Below.refl _ _).alloc (by simp) _).alloc (by simp) _⟩
 ·have hr:runAt y id=jgd y.runs id:=by simp [runAt,h8]
  rw [hr];clear hr
  go_enter Tryz.func56,Tryz.ntmps56
  go_wp2_with (go_at_call 134;refine (joY y.runs id _ _ _ _ own (ah1.below (((Below.refl _ _).alloc (by simp) _).alloc (by simp) _) (Nat.le_refl _)) (by simp [go_sem])).mono ?_;rintro e w2 ⟨rfl,hb2⟩)
  go_ret
  exact ⟨rfl,kq (((Below.refl _ _).alloc (by simp) _).alloc (by simp) _) hb2⟩
open Go.RowKit Go.Sort Go.BigFrame
theorem jg1 {w w1:World} {b o:Nat} {v:Value} (hB:Below w.heap.size w w1) (h:w.cell? ⟨b,o,none⟩=some v) (d:Nat) (os:Array Obj):(grow (redrawn w1 d) os).cell? ⟨b,o,none⟩=some v:=
 cell_regrown ((hB.cell (p:=⟨b,o,none⟩) (World.block_lt_of_cell? w _ h)).trans h) d os
theorem jv {w w1:World} {b o:Nat} {v:Value} (hB:Below w.heap.size w w1) (h:w.cell? ⟨b,o,none⟩=some v):w1.cell? ⟨b,o,none⟩=some v:=
 (hB.cell (p:=⟨b,o,none⟩) (World.block_lt_of_cell? w _ h)).trans h
def inb (n low high:Int):Bool:=decide (low≤n∧n≤high)
theorem jaE {n low high:Int} (h:low≤n∧n≤high):inb n low high=true:=decide_eq_true h
theorem vA {n low high:Int} (h:¬(low≤n∧n≤high)):inb n low high=false:=decide_eq_false h
theorem vz (a b c:Int) (w:World):Calls Tryz.prog 78 #[.int .i64 a,.int .i64 b,.int .i64 c] w fun e w'=>e=.returned (.bool (inb a b c))∧Below w.heap.size w w':=by
 by_cases h1:b≤a
 ·by_cases h2:a≤c
  ·have H:Hid (inb a b c=true):=jaE ⟨h1,h2⟩
   go_enter Tryz.func78,Tryz.ntmps78
   go_wp2
   go_ret
   exact ⟨jX H.out.symm,Below.refl _ _⟩
  ·have H:Hid (inb a b c=false):=vA fun h=>h2 h.2
   go_enter Tryz.func78,Tryz.ntmps78
   go_wp2
   go_ret
   exact ⟨jX H.out.symm,Below.refl _ _⟩
 ·have H:Hid (inb a b c=false):=vA fun h=>h1 h.1
  go_enter Tryz.func78,Tryz.ntmps78
  go_wp2
  go_ret
  exact ⟨jX H.out.symm,Below.refl _ _⟩
theorem zq (a b c:Int) (w:World):Calls Tryz.prog 74 #[.int .i64 a,.int .i64 b,.int .i64 c] w fun e w'=>e=.returned (.bool (inb a b c))∧Below w.heap.size w w':=by
 by_cases h1:b≤a
 ·by_cases h2:a≤c
  ·have H:Hid (inb a b c=true):=jaE ⟨h1,h2⟩
   go_enter Tryz.func74,Tryz.ntmps74
   go_wp2
   go_ret
   exact ⟨jX H.out.symm,Below.refl _ _⟩
  ·have H:Hid (inb a b c=false):=vA fun h=>h2 h.2
   go_enter Tryz.func74,Tryz.ntmps74
   go_wp2
   go_ret
   exact ⟨jX H.out.symm,Below.refl _ _⟩
 ·have H:Hid (inb a b c=false):=vA fun h=>h1 h.1
  go_enter Tryz.func74,Tryz.ntmps74
  go_wp2
  go_ret
  exact ⟨jX H.out.symm,Below.refl _ _⟩
theorem jl3 (y:Yd) (e:En) (a b:Value) (S S':List Nat) (w:World) (own own':Bool) (ha:AggRep w own (jb y) a S) (hb:AggRep w own' (jf e) b S'):
 Calls Tryz.prog 57 #[a,b] w fun e1 w'=>e1=.returned (.bool (jN y e))∧Below w.heap.size w w':=by
 obtain ⟨_,rfl,ha⟩:=ha;obtain ⟨_,rfl,hb⟩:=hb;obtain ⟨rfl,rfl⟩:=jfi hb;obtain ⟨sv,rv,S1,S2,rfl,ah0,ah1,rfl⟩:=vQ ha;clear ha hb;rcases vH y e.run e.task with ⟨hr,ht⟩|⟨k,r,hr,hx,⟨hno,ht⟩|⟨j,t,hj,htx,ht⟩⟩
 ·have HR:=Lib.hid hr
  have HF:Hid (jN y e=false):=by unfold jN;rw [ht];rfl
  clear hr ht
  go_enter Tryz.func57,Tryz.ntmps57
  go_wp2_with (go_at_call 56;refine (ci (jaG y e.run _ _ _ own ⟨_,rfl,jaq (upA (upA ah0 _) _) (upA (upA ah1 _) _)⟩) HR.out).mono ?_;rintro e1 w1 ⟨rfl,hb1⟩;obtain ⟨hc1,hf1⟩:=zI hb1)
  refine wp_region_quiet_below (by kernel_rfl) (by kernel_rfl) ?_
  repeat (go_big_quiet_step (fail))
  refine wpQuiet_nil ?_;intro _ hw';obtain ⟨⟨dq,osq⟩,hw''⟩:=hw';subst hw''
  go_wp2
  go_ret
  exact ⟨jX (by rw [HF.out]),kq (kq (((Below.refl _ _).alloc (by simp) _).alloc (by simp) _) hb1) (below_regrown w1 dq osq)⟩
 all_goals
  have HR:=Lib.hid hr;obtain ⟨A,c,rfl,hc1,hc2,hca⟩:=Rep.open_ (size:=8) (enc:=jd) (fun _=>rfl) (by decide) ah1
  have hk:k<y.runs.length:=(List.getElem?_eq_some_iff.1 hx).1;unfold maxLen at hc2;have hl1:y.runs.length≤9223372036854775807:=by omega
  obtain ⟨b1,o1,vk1,T1,rfl,-,hr1,-,-,hbl,hx1⟩:=hca k r hx;clear hca;obtain ⟨v0,v1,U0,U1,rfl,-,hts,-⟩:=zU hr1;have p7:=hx1 7 _ rfl;clear hx1 hr1;obtain ⟨B,d,rfl,hd1,hd2,hdb⟩:=Rep.open_ (size:=4) (enc:=jn) (fun _=>rfl) (by decide) hts
  unfold maxLen at hd2;have hl2:r.tasks.length≤9223372036854775807:=by omega
  have hk0:decide ((k:Int)≥0)=true:=by simp
  have hk1:decide ((k:Int)<0)=false:=by simp
  clear hr hx
 ·clear hdb
  have HF:Hid (jN y e=false):=by unfold jN;rw [ht];rfl
  have HW:Hid (inb e.task 0 ((r.tasks.length:Int)-1)=false):=vA hno;clear ht hno
  go_enter Tryz.func57,Tryz.ntmps57
  go_wp2_with (go_at_call 56;refine (ci (jaG y e.run _ _ _ own ⟨_,rfl,jaq (upA (upA ah0 _) _) (upA (upA ah1 _) _)⟩) HR.out).mono ?_;rintro e1 w1 ⟨rfl,hb1⟩;obtain ⟨hc1,hf1⟩:=zI hb1)
  have hBw:Below w.heap.size w w1:=kq (((Below.refl _ _).alloc (by simp) _).alloc (by simp) _) hb1
  have p7':=jg1 hBw p7;have q3:∀(d:Nat) (os:Array Obj),(grow (redrawn w1 d) os).cell? ⟨w.heap.size,3,none⟩=some (.slice (some ⟨b1,o1,none⟩) y.runs.length c):=fun d os=>cell_regrown ((hc1 _ _ (by simp;try omega)).trans (by simp [go_sem])) d os
  have r3:∀(d:Nat) (os:Array Obj),(grow (redrawn w1 d) os).cell? ⟨w.heap.size+1,3,none⟩=some (.int .i64 e.task):=fun d os=>cell_regrown ((hc1 _ _ (by simp;try omega)).trans (by simp [go_sem])) d os
  refine wp_region_quiet_below (by kernel_rfl) (by kernel_rfl) ?_
  repeat (go_big_quiet_step (exact Calls.regrown_of (cb (vz _ _ _ _) HW.out)))
  refine wpQuiet_nil ?_;intro _ hw';obtain ⟨⟨dq,osq⟩,hw''⟩:=hw';subst hw''
  go_wp2
  go_ret
  exact ⟨jX (by rw [HF.out]),kq hBw (below_regrown w1 dq osq)⟩
 ·obtain ⟨b2,o2,vk2,T2,rfl,-,hr2,-,-,hbl2,hx2⟩:=hdb j t htx
  clear hdb;obtain ⟨rfl,rfl⟩:=jib hr2;have p0:w.cell? ⟨b2,o2+j*4,none⟩=some (.int .i64 t.state):=hx2 0 _ rfl;have hjl:j<r.tasks.length:=(List.getElem?_eq_some_iff.1 htx).1;clear hx2 hr2 htx;obtain ⟨e1,e2,e3,e4⟩:=e;simp only at hj HR ht;subst hj;have HW:Hid (inb (j:Int) 0 ((r.tasks.length:Int)-1)=true):=jaE (by omega)
  by_cases hst:t.state=2
  all_goals
   first|(have hs:(t.state==2)=true:=by simpa using hst)|(have hs:(t.state==2)=false:=by simpa using hst)
   have HF:=Lib.hid (show jN y ⟨e1,e2,e3,j⟩=(t.state==2) by unfold jN;rw [ht])
   clear ht hst
   go_enter Tryz.func57,Tryz.ntmps57
   go_wp2_with (go_at_call 56;refine (ci (jaG y e3 _ _ _ own ⟨_,rfl,jaq (upA (upA ah0 _) _) (upA (upA ah1 _) _)⟩) HR.out).mono ?_;rintro e1 w1 ⟨rfl,hb1⟩;obtain ⟨hc1,hf1⟩:=zI hb1)
   have hBw:Below w.heap.size w w1:=kq (((Below.refl _ _).alloc (by simp) _).alloc (by simp) _) hb1
   have p7':=jg1 hBw p7;have q3:∀(d:Nat) (os:Array Obj),(grow (redrawn w1 d) os).cell? ⟨w.heap.size,3,none⟩=some (.slice (some ⟨b1,o1,none⟩) y.runs.length c):=fun d os=>cell_regrown ((hc1 _ _ (by simp;try omega)).trans (by simp [go_sem])) d os
   have r3:∀(d:Nat) (os:Array Obj),(grow (redrawn w1 d) os).cell? ⟨w.heap.size+1,3,none⟩=some (.int .i64 j):=fun d os=>cell_regrown ((hc1 _ _ (by simp;try omega)).trans (by simp [go_sem])) d os
   have p0':=jg1 hBw p0;refine wp_region_quiet_below (by kernel_rfl) (by kernel_rfl) ?_
   repeat (go_big_quiet_step (exact Calls.regrown_of (cb (vz _ _ _ _) HW.out)))
   refine wpQuiet_nil ?_;intro _ hw';obtain ⟨⟨dq,osq⟩,hw''⟩:=hw';subst hw''
   go_wp2
   go_ret
   exact ⟨jX (by rw [HF.out,hs]),kq hBw (below_regrown w1 dq osq)⟩
theorem jpy (y:Yd) (e:En) (a b:Value) (S S':List Nat) (w:World) (own own':Bool) (ha:AggRep w own (jb y) a S) (hb:AggRep w own' (jf e) b S'):
 Calls Tryz.prog 141 #[a,b] w fun e1 w'=>e1=.returned (.bool (jN y e))∧Below w.heap.size w w':=by
 obtain ⟨_,rfl,ha⟩:=ha;obtain ⟨_,rfl,hb⟩:=hb;obtain ⟨rfl,rfl⟩:=jfi hb;obtain ⟨sv,rv,S1,S2,rfl,ah0,ah1,rfl⟩:=vQ ha;clear ha hb;rcases vH y e.run e.task with ⟨hr,ht⟩|⟨k,r,hr,hx,⟨hno,ht⟩|⟨j,t,hj,htx,ht⟩⟩
 ·have HR:=Lib.hid hr
  have HF:Hid (jN y e=false):=by unfold jN;rw [ht];rfl
  clear hr ht
  go_enter Tryz.func141,Tryz.ntmps141
  go_wp2_with (go_at_call 152;refine (ci (jaA y e.run _ _ _ own ⟨_,rfl,jaq (upA (upA ah0 _) _) (upA (upA ah1 _) _)⟩) HR.out).mono ?_;rintro e1 w1 ⟨rfl,hb1⟩;obtain ⟨hc1,hf1⟩:=zI hb1)
  refine wp_region_quiet_below (by kernel_rfl) (by kernel_rfl) ?_
  repeat (go_big_quiet_step (fail))
  refine wpQuiet_nil ?_;intro _ hw';obtain ⟨⟨dq,osq⟩,hw''⟩:=hw';subst hw''
  go_wp2
  go_ret
  exact ⟨jX (by rw [HF.out]),kq (kq (((Below.refl _ _).alloc (by simp) _).alloc (by simp) _) hb1) (below_regrown w1 dq osq)⟩
 all_goals
  have HR:=Lib.hid hr;obtain ⟨A,c,rfl,hc1,hc2,hca⟩:=Rep.open_ (size:=8) (enc:=jd) (fun _=>rfl) (by decide) ah1
  have hk:k<y.runs.length:=(List.getElem?_eq_some_iff.1 hx).1;unfold maxLen at hc2;have hl1:y.runs.length≤9223372036854775807:=by omega
  obtain ⟨b1,o1,vk1,T1,rfl,-,hr1,-,-,hbl,hx1⟩:=hca k r hx;clear hca;obtain ⟨v0,v1,U0,U1,rfl,-,hts,-⟩:=zU hr1;have p7:=hx1 7 _ rfl;clear hx1 hr1;obtain ⟨B,d,rfl,hd1,hd2,hdb⟩:=Rep.open_ (size:=4) (enc:=jn) (fun _=>rfl) (by decide) hts
  unfold maxLen at hd2;have hl2:r.tasks.length≤9223372036854775807:=by omega
  have hk0:decide ((k:Int)≥0)=true:=by simp
  have hk1:decide ((k:Int)<0)=false:=by simp
  clear hr hx
 ·clear hdb
  have HF:Hid (jN y e=false):=by unfold jN;rw [ht];rfl
  have HW:Hid (inb e.task 0 ((r.tasks.length:Int)-1)=false):=vA hno;clear ht hno
  go_enter Tryz.func141,Tryz.ntmps141
  go_wp2_with (go_at_call 152;refine (ci (jaA y e.run _ _ _ own ⟨_,rfl,jaq (upA (upA ah0 _) _) (upA (upA ah1 _) _)⟩) HR.out).mono ?_;rintro e1 w1 ⟨rfl,hb1⟩;obtain ⟨hc1,hf1⟩:=zI hb1)
  have hBw:Below w.heap.size w w1:=kq (((Below.refl _ _).alloc (by simp) _).alloc (by simp) _) hb1
  have p7':=jg1 hBw p7;have q3:∀(d:Nat) (os:Array Obj),(grow (redrawn w1 d) os).cell? ⟨w.heap.size,3,none⟩=some (.slice (some ⟨b1,o1,none⟩) y.runs.length c):=fun d os=>cell_regrown ((hc1 _ _ (by simp;try omega)).trans (by simp [go_sem])) d os
  have r3:∀(d:Nat) (os:Array Obj),(grow (redrawn w1 d) os).cell? ⟨w.heap.size+1,3,none⟩=some (.int .i64 e.task):=fun d os=>cell_regrown ((hc1 _ _ (by simp;try omega)).trans (by simp [go_sem])) d os
  refine wp_region_quiet_below (by kernel_rfl) (by kernel_rfl) ?_
  repeat (go_big_quiet_step (exact Calls.regrown_of (cb (zq _ _ _ _) HW.out)))
  refine wpQuiet_nil ?_;intro _ hw';obtain ⟨⟨dq,osq⟩,hw''⟩:=hw';subst hw''
  go_wp2
  go_ret
  exact ⟨jX (by rw [HF.out]),kq hBw (below_regrown w1 dq osq)⟩
 ·obtain ⟨b2,o2,vk2,T2,rfl,-,hr2,-,-,hbl2,hx2⟩:=hdb j t htx
  clear hdb;obtain ⟨rfl,rfl⟩:=jib hr2;have p0:w.cell? ⟨b2,o2+j*4,none⟩=some (.int .i64 t.state):=hx2 0 _ rfl;have hjl:j<r.tasks.length:=(List.getElem?_eq_some_iff.1 htx).1;clear hx2 hr2 htx;obtain ⟨e1,e2,e3,e4⟩:=e;simp only at hj HR ht;subst hj;have HW:Hid (inb (j:Int) 0 ((r.tasks.length:Int)-1)=true):=jaE (by omega)
  by_cases hst:t.state=2
  all_goals
   first|(have hs:(t.state==2)=true:=by simpa using hst)|(have hs:(t.state==2)=false:=by simpa using hst)
   have HF:=Lib.hid (show jN y ⟨e1,e2,e3,j⟩=(t.state==2) by unfold jN;rw [ht])
   clear ht hst
   go_enter Tryz.func141,Tryz.ntmps141
   go_wp2_with (go_at_call 152;refine (ci (jaA y e3 _ _ _ own ⟨_,rfl,jaq (upA (upA ah0 _) _) (upA (upA ah1 _) _)⟩) HR.out).mono ?_;rintro e1 w1 ⟨rfl,hb1⟩;obtain ⟨hc1,hf1⟩:=zI hb1)
   have hBw:Below w.heap.size w w1:=kq (((Below.refl _ _).alloc (by simp) _).alloc (by simp) _) hb1
   have p7':=jg1 hBw p7;have q3:∀(d:Nat) (os:Array Obj),(grow (redrawn w1 d) os).cell? ⟨w.heap.size,3,none⟩=some (.slice (some ⟨b1,o1,none⟩) y.runs.length c):=fun d os=>cell_regrown ((hc1 _ _ (by simp;try omega)).trans (by simp [go_sem])) d os
   have r3:∀(d:Nat) (os:Array Obj),(grow (redrawn w1 d) os).cell? ⟨w.heap.size+1,3,none⟩=some (.int .i64 j):=fun d os=>cell_regrown ((hc1 _ _ (by simp;try omega)).trans (by simp [go_sem])) d os
   have p0':=jg1 hBw p0;refine wp_region_quiet_below (by kernel_rfl) (by kernel_rfl) ?_
   repeat (go_big_quiet_step (exact Calls.regrown_of (cb (zq _ _ _ _) HW.out)))
   refine wpQuiet_nil ?_;intro _ hw';obtain ⟨⟨dq,osq⟩,hw''⟩:=hw';subst hw''
   go_wp2
   go_ret
   exact ⟨jX (by rw [HF.out,hs]),kq hBw (below_regrown w1 dq osq)⟩
def jbi:C:=iS [iA 1 (.box 37 4 (.t 0)),iA 2 (.mov (.c (.slice none 0 0)))] (iS [iA 5 (.bsl 111 4 0 [] []),iA 3 (iM 5)] (.seq (iS [iA 4 (iN 0)] (.blk 0 (.loop (.seq (iS [iA 6 (iM 4),iA 7 (iF 2 1),iA 8 (iL 7),iA 9 (iG 8),iA 10 (iP .lss 3 6 9)] (iD 10 .skip (.exit 0))) (.seq (.blk 1 (.reg [iA 13 (iM 3),iA 14 (iF 2 1),iA 15 (iL 14),iA 16 (iM 4),iA 17 (iI 1 15 16),iA 18 (iL 17),iA 19 (.app 111 4 32 (.t 13) (.t 18)),iA 3 (iM 19)])) (.reg [iA 11 (iM 4),iA 12 (iQ .add 3 11 1),iA 4 (iM 12)])))))) (iS [iA 20 (iM 3),iA 2 (iM 20)] .ret)))
theorem jdq:fnC Tryz.prog Tryz.f140=some (jbi,[.t 2],21):=by kernel_rfl
def jbl:C:=iS [iA 1 (.box 37 4 (.t 0)),iA 2 (.mov (.c (.slice none 0 0)))] (iS [iA 3 (.mov (.c (.slice none 0 0)))] (.seq (iS [iA 6 (iF 2 1),iA 7 (iL 6),iA 8 (iG 7),iA 9 (iN 0)] (.blk 0 (.loop (iS [iA 10 (iP .lss 3 9 8)] (.seq (iD 10 .skip (.exit 0)) (.seq (.blk 1 (iS [iA 11 (iI 1 7 9),iA 12 (iL 11),iA 5 (iM 12)] (.reg [iA 13 (iM 3),iA 14 (iM 5),iA 15 (.app 111 4 32 (.t 13) (.t 14)),iA 3 (iM 15)]))) (.reg [iA 16 (iQ .add 3 9 1),iA 9 (iM 16)]))))))) (iS [iA 17 (iM 3),iA 2 (iM 17)] .ret)))
theorem jdt:fnC Tryz.prog Tryz.f133=some (jbl,[.t 2],18):=by kernel_rfl
def jd7:C:=iS [iA 1 (.box 37 4 (.t 0)),iA 2 (.mov (.c (.slice none 0 0)))] (iS [iA 6 (.bsl 111 4 0 [] []),iA 3 (iM 6)] (iS [iA 7 (iT 4 1),iA 8 (.call 140 [.t 7]),iA 4 (iM 8)] (.seq (iS [iA 5 (iN 0)] (.blk 0 (.loop (.seq (iS [iA 9 (iM 5),iA 10 (iM 4),iA 11 (iG 10),iA 12 (iP .lss 3 9 11)] (iD 12 .skip (.exit 0))) (.seq (.blk 1 (.seq (.dreg (T.pure 0 (iA 15 (iT 4 1)) (T.pure 1 (iA 16 (iM 4)) (T.pure 2 (iA 17 (iM 5)) (T.pure 3 (iA 18 (iI 4 16 17)) (T.pure 4 (iA 19 (iT 4 18)) (T.alt (iA 20 (.call 141 [.t 15,.t 19])) [] T.done T.stop))))))) (iD 20 (.reg [iA 21 (iM 3),iA 22 (iM 4),iA 23 (iM 5),iA 24 (iI 4 22 23),iA 25 (iT 4 24),iA 26 (.bsl 111 4 1 [none,none,none,none] [(0,4,.t 25)]),iA 27 (.app 111 4 32 (.t 21) (.t 26)),iA 3 (iM 27)]) .skip))) (.reg [iA 13 (iM 5),iA 14 (iQ .add 3 13 1),iA 5 (iM 14)])))))) (iS [iA 28 (iM 3),iA 2 (iM 28)] .ret))))
theorem jgN:fnC Tryz.prog Tryz.f61=some (jd7,[.t 2],29):=by kernel_rfl
def jei:C:=iS [iA 1 (.box 37 4 (.t 0)),iA 2 (.mov (.c (.slice none 0 0)))] (iS [iA 3 (.mov (.c (.slice none 0 0)))] (.seq (iS [iA 6 (iT 4 1),iA 7 (.call 133 [.t 6]),iA 8 (iG 7),iA 9 (iN 0)] (.blk 0 (.loop (iS [iA 10 (iP .lss 3 9 8)] (.seq (iD 10 .skip (.exit 0)) (.seq (.blk 1 (iS [iA 11 (iI 4 7 9),iA 12 (iT 4 11),iA 5 (.alloc 111 [.int .i64 0,.int .i64 0,.int .i64 0,.int .i64 0]),iC (.st 4 [none,none,none,none] (.t 5) (.t 12))] (iS [iA 13 (iT 4 1),iA 14 (iT 4 5),iA 15 (.call 57 [.t 13,.t 14])] (iD 15 (.reg [iA 16 (iM 3),iA 17 (iT 4 5),iA 18 (.bsl 111 4 1 [none,none,none,none] [(0,4,.t 17)]),iA 19 (.app 111 4 32 (.t 16) (.t 18)),iA 3 (iM 19)]) .skip)))) (.reg [iA 20 (iQ .add 3 9 1),iA 9 (iM 20)]))))))) (iS [iA 21 (iM 3),iA 2 (iM 21)] .ret)))
theorem jgY:fnC Tryz.prog Tryz.f54=some (jei,[.t 2],22):=by kernel_rfl
theorem jaD (y:Yd) (e:En):kp Tryz.prog 57 [.agg (jb y),.agg (jf e)] (.c (.val (.bool (jN y e)))):=jox ⟨_,Tryz.func57,by kernel_rfl,by kernel_rfl⟩ fun w a b ⟨S,ha⟩ ⟨S2,hb⟩=>jl3 y e a b S S2 w false false ha hb
theorem jhb (y:Yd) (e:En):kp Tryz.prog 141 [.agg (jb y),.agg (jf e)] (.c (.val (.bool (jN y e)))):=jox ⟨_,Tryz.func141,by kernel_rfl,by kernel_rfl⟩ fun w a b ⟨S,ha⟩ ⟨S2,hb⟩=>jpy y e a b S S2 w false false ha hb
theorem juc (l m:List En):D.sl 4 tEn (l.flatMap jf++m.flatMap jf)=jm (l++m):=by simp [jm]
theorem jqi (l:List En) (x:En):D.sl 4 tEn (l.flatMap jf++jf x)=jm (l++[x]):=by simp [jm]
theorem zi (y:Yd) (ht:jK y≤2000000):kp Tryz.prog 140 [.agg (jb y)] (.c (jm y.shelf.flatten)):=by
 refine js Tryz.func140 jdq (by simp) ?_
 unfold jbi;have hl:=jlm ht;have hf:=vf ht;simp only [go_sem,jb];intro b η0;refine qQ (fun s=>∃(k g ty:Nat) (η:jq),k≤y.shelf.length∧(g=500∨g=1900)∧s.t 1=.c (.bp 100 0 b)∧s.o 100=.box b ty ((jb y).map fun x=>.a x.toRo)∧s.t 4=.c (.v (.int .i64 k))∧s.t 3=.c (.h g 0 [] (η []))∧s.o g=.loose (jm (y.shelf.take k).flatten) η) (fun s=>y.shelf.length-s.n 4) ?_ ?_
 ·exact ⟨0,500,_,η0,Nat.zero_le _,.inl rfl,by simp only [go_sem]<;>rfl,by simp only [go_sem]<;>rfl,by simp only [go_sem]<;>rfl,by simp only [go_sem]<;>rfl,by simp only [go_sem]<;>rfl⟩
 ·rintro s ⟨k,g,ty,η,hk,hg,h1,ho1,h4,h3,hob⟩
  by_cases hlt:k<y.shelf.length
  ·have hlt':(k:Int)<y.shelf.length:=by omega
   obtain ⟨x,hx⟩:=je hlt;have hw:IntKind.i64.wrap ((k:Int)+1)=((k+1:Nat):Int):=jg (by omega) (by omega)
   have hn:=jjc hx;have hle:=jcz y.shelf (k+1);rw [hn,List.length_append] at hle;generalize (y.shelf.take k).flatten=l at*;have h1':l.length+x.length≤maxLen:=by unfold maxLen;omega
   have h2':(l.length+x.length)*32≤140737488355328:=by omega
   rcases hg with rfl|rfl
   all_goals
    simp only [go_sem,h1,ho1,h4,h3,hob,jb,hlt,hlt',kY hx,h1',h2',hw,juc];intro η2;refine ⟨⟨k+1,1900,ty,η2,?_⟩,?_⟩
    ·and_intros<;>first|rfl|omega|exact .inr rfl|(rw [hn];rfl)
    ·rw [jaP (k:=.i64) (n:=((k+1:Nat):Int)) (by simp only [go_sem]),jaP h4];omega
  ·have hlt':¬(k:Int)<y.shelf.length:=by omega
   rw [List.take_of_length_le (by omega)] at hob
   rcases hg with rfl|rfl
   all_goals
    simp only [go_sem,h1,ho1,h4,h3,hob,jb,hlt']
theorem ja9 (y:Yd) (ht:jK y≤2000000):kp Tryz.prog 133 [.agg (jb y)] (.c (jm y.shelf.flatten)):=by
 refine js Tryz.func133 jdt (by simp) ?_
 unfold jbl;have hl:=jlm ht;have hf:=vf ht;simp only [go_sem,jb];intro b;refine qQ (fun s=>∃k:Nat,k≤y.shelf.length∧s.t 7=.c (.ro (kw y.shelf))∧s.t 8=.c (.v (.int .i64 y.shelf.length))∧s.t 9=.c (.v (.int .i64 k))∧(((y.shelf.take k).flatten=[]∧s.t 3=.c (.v (.slice none 0 0)))∨∃η:jq,s.t 3=.c (.h 1500 0 [] (η []))∧s.o 1500=.loose (jm (y.shelf.take k).flatten) η)) (fun s=>y.shelf.length-s.n 9) ?_ ?_
 ·exact ⟨0,Nat.zero_le _,by simp only [go_sem]<;>rfl,by simp only [go_sem]<;>rfl,by simp only [go_sem]<;>rfl,.inl ⟨rfl,by simp only [go_sem]⟩⟩
 ·rintro s ⟨k,hk,h7,h8,h9,hg⟩
  by_cases hlt:k<y.shelf.length
  ·have hlt':(k:Int)<y.shelf.length:=by omega
   obtain ⟨x,hx⟩:=je hlt;have hw:IntKind.i64.wrap ((k:Int)+1)=((k+1:Nat):Int):=jg (by omega) (by omega)
   have hn:=jjc hx;have hle:=jcz y.shelf (k+1);rw [hn,List.length_append] at hle;generalize (y.shelf.take k).flatten=l at*;have h1':l.length+x.length≤maxLen:=by unfold maxLen;omega
   have h2':(l.length+x.length)*32≤140737488355328:=by omega
   rcases hg with ⟨hnil,h3⟩|⟨η,h3,hob⟩
   ·have h3':x.length≤maxLen:=by unfold maxLen;omega
    have h4':x.length*32≤140737488355328:=by omega
    rw [hnil,List.nil_append] at hn;simp only [go_sem,h7,h8,h9,h3,hlt,hlt',kY hx,hw,h3',h4',jo3];intro η2;refine ⟨⟨k+1,by omega,rfl,.inr ⟨η2,rfl,by rw [hn]⟩⟩,?_⟩
    rw [jaP (k:=.i64) (n:=((k+1:Nat):Int)) (by simp only [go_sem]),jaP h9];omega
   ·simp only [go_sem,h7,h8,h9,h3,hob,hlt,hlt',kY hx,hw,h1',h2',juc]
    intro η2;refine ⟨⟨k+1,by omega,rfl,.inr ⟨η2,rfl,by rw [hn]⟩⟩,?_⟩
    rw [jaP (k:=.i64) (n:=((k+1:Nat):Int)) (by simp only [go_sem]),jaP h9];omega
  ·have hlt':¬(k:Int)<y.shelf.length:=by omega
   have hk':y.shelf.take k=y.shelf:=List.take_of_length_le (by omega)
   rcases hg with ⟨hnil,h3⟩|⟨η,h3,hob⟩
   ·rw [hk'] at hnil
    simp only [go_sem,h7,h8,h9,h3,hlt',hnil]
   ·rw [hk'] at hob
    simp only [go_sem,h7,h8,h9,h3,hob,hlt']
theorem jjX (y:Yd) (ht:jK y≤2000000):kp Tryz.prog 61 [.agg (jb y)] (.c (jm (jkD y))):=by
 refine js Tryz.func61 jgN (by simp) ?_
 unfold jd7;have hf:=vf ht;simp only [go_sem,jb];intro b η0;refine jc (zi y ht) (by simp only [go_sem,jb]) fun η1=>?_
 unfold jkD;generalize y.shelf.flatten=L at*;simp only [go_sem];refine qQ (fun s=>∃(k g ty:Nat) (η ηL:jq),k≤L.length∧(g=600∨g=2700)∧s.t 1=.c (.bp 100 0 b)∧s.o 100=.box b ty ((jb y).map fun x=>.a x.toRo)∧s.t 4=.c (.h 800 0 [] (ηL []))∧s.o 800=.loose (jm L) ηL∧s.t 5=.c (.v (.int .i64 k))∧s.t 3=.c (.h g 0 [] (η []))∧s.o g=.loose (jm ((L.take k).filter (jN y))) η) (fun s=>L.length-s.n 5) ?_ ?_
 ·exact ⟨0,600,_,η0,η1 0,Nat.zero_le _,.inl rfl,by simp only [go_sem]<;>rfl,by simp only [go_sem]<;>rfl,by simp only [go_sem]<;>rfl,by simp only [go_sem]<;>rfl,by simp only [go_sem]<;>rfl,by simp only [go_sem]<;>rfl,by simp only [go_sem]<;>rfl⟩
 ·rintro s ⟨k,g,ty,η,ηL,hk,hg,h1,ho1,h4,ho8,h5,h3,hob⟩
  by_cases hlt:k<L.length
  ·have hlt':(k:Int)<L.length:=by omega
   obtain ⟨x,hx⟩:=je hlt;have hw:IntKind.i64.wrap ((k:Int)+1)=((k+1:Nat):Int):=jg (by omega) (by omega)
   have hn:=jev (f:=jN y) hx
   have hle:((L.take k).filter (jN y)).length≤k:=by
    have:=List.length_filter_le (jN y) (L.take k);rw [List.length_take] at this;omega
   generalize (L.take k).filter (jN y)=l at*;have h1':l.length+1≤maxLen:=by unfold maxLen;omega
   have h2':(l.length+1)*32≤140737488355328:=by omega
   have hsn:=jqi l x;simp only [jf] at hsn;simp only [go_sem,h1,ho1,h4,ho8,h5,h3,jb,hlt,hlt',jc2 hx,jcw hlt,jf];refine jc (jhb y x) (by simp only [go_sem,jb,jf]) fun η2=>?_
   cases hfr:jN y x
   ·rw [hfr,if_neg (by simp)] at hn
    simp only [go_sem,h1,ho1,h4,ho8,h5,h3,hlt,hlt',hw];refine ⟨⟨k+1,g,ty,η,ηL,?_⟩,?_⟩
    ·and_intros<;>first|rfl|assumption|omega|(rw [hn];assumption)
    ·rw [jaP (k:=.i64) (n:=((k+1:Nat):Int)) (by simp only [go_sem]),jaP h5];omega
   ·rw [hfr,if_pos rfl] at hn
    rcases hg with rfl|rfl
    all_goals
     simp only [go_sem,h1,ho1,h4,ho8,h5,h3,hob,hlt,hlt',jc2 hx,jcw hlt,jf,hw,h1',h2',hsn];intro η3 η4;refine ⟨⟨k+1,2700,ty,η4,ηL,?_⟩,?_⟩
     ·and_intros<;>first|rfl|assumption|omega|exact .inr rfl|(rw [hn];rfl)
     ·rw [jaP (k:=.i64) (n:=((k+1:Nat):Int)) (by simp only [go_sem]),jaP h5];omega
  ·have hlt':¬(k:Int)<L.length:=by omega
   rw [List.take_of_length_le (by omega)] at hob
   rcases hg with rfl|rfl
   all_goals
    simp only [go_sem,h1,ho1,h4,ho8,h5,h3,hob,hlt']
theorem jj3 (y:Yd) (ht:jK y≤2000000):kp Tryz.prog 54 [.agg (jb y)] (.c (jm (jkD y))):=by
 refine js Tryz.func54 jgY (by simp) ?_
 unfold jei;have hf:=vf ht;simp only [go_sem,jb];intro b;refine jc (ja9 y ht) (by simp only [go_sem,jb]) fun η1=>?_
 unfold jkD;generalize y.shelf.flatten=L at*;simp only [go_sem];refine qQ (fun s=>∃(k ty:Nat) (ηL:jq),k≤L.length∧s.t 1=.c (.bp 100 0 b)∧s.o 100=.box b ty ((jb y).map fun x=>.a x.toRo)∧s.t 7=.c (.h 700 0 [] (ηL []))∧s.o 700=.loose (jm L) ηL∧s.t 8=.c (.v (.int .i64 L.length))∧s.t 9=.c (.v (.int .i64 k))∧(((L.take k).filter (jN y)=[]∧s.t 3=.c (.v (.slice none 0 0)))∨∃η:jq,s.t 3=.c (.h 1900 0 [] (η []))∧s.o 1900=.loose (jm ((L.take k).filter (jN y))) η)) (fun s=>L.length-s.n 9) ?_ ?_
 ·exact ⟨0,_,η1 0,Nat.zero_le _,by simp only [go_sem]<;>rfl,by simp only [go_sem]<;>rfl,by simp only [go_sem]<;>rfl,by simp only [go_sem]<;>rfl,by simp only [go_sem]<;>rfl,by simp only [go_sem]<;>rfl,.inl ⟨rfl,by simp only [go_sem]⟩⟩
 ·rintro s ⟨k,ty,ηL,hk,h1,ho1,h7,ho7,h8,h9,hg⟩
  by_cases hlt:k<L.length
  ·have hlt':(k:Int)<L.length:=by omega
   obtain ⟨x,hx⟩:=je hlt;have hw:IntKind.i64.wrap ((k:Int)+1)=((k+1:Nat):Int):=jg (by omega) (by omega)
   have hn:=jev (f:=jN y) hx
   have hle:((L.take k).filter (jN y)).length≤k:=by
    have:=List.length_filter_le (jN y) (L.take k);rw [List.length_take] at this;omega
   generalize (L.take k).filter (jN y)=l at*;have h1':l.length+1≤maxLen:=by unfold maxLen;omega
   have h2':(l.length+1)*32≤140737488355328:=by omega
   have hmax:1≤maxLen:=by unfold maxLen;omega
   have hsn:=jqi l x;have hone:D.sl 4 tEn (jf x)=jm [x]:=by simp [jm]
   simp only [jf] at hsn hone;rcases hg with ⟨hnil,h3⟩|⟨η,h3,hob⟩
   ·simp only [go_sem,h1,ho1,h7,ho7,h8,h9,h3,jb,hlt,hlt',jc2 hx,jcw hlt,jf]
    intro b1;refine jc (jaD y x) (by simp only [go_sem,jb,jf]) fun η2=>?_
    cases hfr:jN y x
    ·rw [hfr,if_neg (by simp)] at hn
     simp only [go_sem,h1,ho1,h7,ho7,h8,h9,h3,hlt,hlt',hw];refine ⟨⟨k+1,ty,ηL,by omega,rfl,rfl,rfl,rfl,.inl (by rw [hn,hnil])⟩,?_⟩
     rw [jaP (k:=.i64) (n:=((k+1:Nat):Int)) (by simp only [go_sem]),jaP h9];omega
    ·rw [hfr,if_pos rfl,hnil,List.nil_append] at hn
     simp only [go_sem,h1,ho1,h7,ho7,h8,h9,h3,hlt,hlt',jf,hw,hmax,hone];intro η3 η4;refine ⟨⟨k+1,ty,ηL,by omega,rfl,rfl,rfl,rfl,.inr ⟨η4,rfl,by rw [hn]⟩⟩,?_⟩
     rw [jaP (k:=.i64) (n:=((k+1:Nat):Int)) (by simp only [go_sem]),jaP h9];omega
   ·simp only [go_sem,h1,ho1,h7,ho7,h8,h9,h3,hob,jb,hlt,hlt',jc2 hx,jcw hlt,jf]
    intro b1;refine jc (jaD y x) (by simp only [go_sem,jb,jf]) fun η2=>?_
    cases hfr:jN y x
    ·rw [hfr,if_neg (by simp)] at hn
     simp only [go_sem,h1,ho1,h7,ho7,h8,h9,h3,hob,hlt,hlt',hw];refine ⟨⟨k+1,ty,ηL,by omega,rfl,rfl,rfl,rfl,.inr ⟨η,rfl,by rw [hn]⟩⟩,?_⟩
     rw [jaP (k:=.i64) (n:=((k+1:Nat):Int)) (by simp only [go_sem]),jaP h9];omega
    ·rw [hfr,if_pos rfl] at hn
     simp only [go_sem,h1,ho1,h7,ho7,h8,h9,h3,hob,hlt,hlt',jf,hw,h1',h2',hsn];intro η3 η4;refine ⟨⟨k+1,ty,ηL,by omega,rfl,rfl,rfl,rfl,.inr ⟨η4,rfl,by rw [hn]⟩⟩,?_⟩
     rw [jaP (k:=.i64) (n:=((k+1:Nat):Int)) (by simp only [go_sem]),jaP h9];omega
  ·have hlt':¬(k:Int)<L.length:=by omega
   have hk':L.take k=L:=List.take_of_length_le (by omega)
   rcases hg with ⟨hnil,h3⟩|⟨η,h3,hob⟩
   ·rw [hk'] at hnil
    simp only [go_sem,h1,ho1,h7,ho7,h8,h9,h3,hlt',hnil]
   ·rw [hk'] at hob
    simp only [go_sem,h1,ho1,h7,ho7,h8,h9,h3,hob,hlt']
open Go.RowKit Go.Sort Go.BigFrame
theorem jvZ (y:Yd) (id task tri:Int) (a:Value) (S:List Nat) (w:World) (own:Bool) (ha:AggRep w own (jb y) a S):
 Calls Tryz.prog 227 #[a,.int .i64 id,.int .i64 task,.int .i64 tri] w fun e1 w'=>e1=.returned (.bool (qU y id task tri))∧Below w.heap.size w w':=by
 obtain ⟨_,rfl,ha⟩:=ha;obtain ⟨sv,rv,S1,S2,rfl,ah0,ah1,rfl⟩:=vQ ha;clear ha;rcases vH y id task with ⟨hr,ht⟩|⟨k,r,hr,hx,⟨hno,ht⟩|⟨j,t,hj,htx,ht⟩⟩
 ·have HR:=Lib.hid hr
  have HF:Hid (qU y id task tri=false):=by unfold qU;rw [ht];rfl
  clear hr ht
  go_enter Tryz.func227,Tryz.ntmps227
  go_wp2_with (go_at_call 56;refine (ci (jaG y id _ _ _ own ⟨_,rfl,jaq (upA ah0 _) (upA ah1 _)⟩) HR.out).mono ?_;rintro e1 w1 ⟨rfl,hb1⟩;obtain ⟨hc1,hf1⟩:=zI hb1)
  go_ret
  exact ⟨jX (by rw [HF.out]),kq ((Below.refl _ _).alloc (by simp) _) hb1⟩
 all_goals
  have HR:=Lib.hid hr;obtain ⟨A,c,rfl,hc1,hc2,hca⟩:=Rep.open_ (size:=8) (enc:=jd) (fun _=>rfl) (by decide) ah1
  have hk:k<y.runs.length:=(List.getElem?_eq_some_iff.1 hx).1;unfold maxLen at hc2;have hl1:y.runs.length≤9223372036854775807:=by omega
  obtain ⟨b1,o1,vk1,T1,rfl,-,hr1,-,-,hbl,hx1⟩:=hca k r hx;clear hca;obtain ⟨v0,v1,U0,U1,rfl,-,hts,-⟩:=zU hr1;have p7:=hx1 7 _ rfl;clear hx1 hr1;obtain ⟨B,d,rfl,hd1,hd2,hdb⟩:=Rep.open_ (size:=4) (enc:=jn) (fun _=>rfl) (by decide) hts
  unfold maxLen at hd2;have hl2:r.tasks.length≤9223372036854775807:=by omega
  have hk0:decide ((k:Int)≥0)=true:=by simp
  have hk1:decide ((k:Int)<0)=false:=by simp
  clear hr hx
 ·clear hdb
  have HF:Hid (qU y id task tri=false):=by unfold qU;rw [ht];rfl
  have HW:Hid (inb task 0 ((r.tasks.length:Int)-1)=false):=vA hno;clear ht hno
  go_enter Tryz.func227,Tryz.ntmps227
  go_wp2_with fail
  refine (ci (jaG y id _ _ _ own ⟨_,rfl,jaq (upA ah0 _) (upA ah1 _)⟩) HR.out).mono ?_;rintro e1 w1 ⟨rfl,hb1⟩;obtain ⟨hc1,hf1⟩:=zI hb1;have hBw:Below w.heap.size w w1:=kq ((Below.refl _ _).alloc (by simp) _) hb1
  have p7':=jv hBw p7;have q3:w1.cell? ⟨w.heap.size,3,none⟩=some (.slice (some ⟨b1,o1,none⟩) y.runs.length c):=(hc1 _ _ (by simp)).trans (by simp [go_sem])
  go_wp2_with (go_at_call 78;refine (cb (vz _ _ _ _) HW.out).mono ?_;rintro e2 w2 ⟨rfl,hb2⟩;obtain ⟨hc2,hf2⟩:=zI hb2)
  go_ret
  exact ⟨jX (by rw [HF.out]),kq hBw hb2⟩
 ·obtain ⟨b2,o2,vk2,T2,rfl,-,hr2,-,-,hbl2,hx2⟩:=hdb j t htx
  clear hdb;obtain ⟨rfl,rfl⟩:=jib hr2;have p0:w.cell? ⟨b2,o2+j*4,none⟩=some (.int .i64 t.state):=hx2 0 _ rfl;have p1:=hx2 1 _ rfl;have p2:=hx2 2 _ rfl;have p3:=hx2 3 _ rfl;have hjl:j<r.tasks.length:=(List.getElem?_eq_some_iff.1 htx).1;clear hx2 hr2 htx;subst hj;have HW:Hid (inb (j:Int) 0 ((r.tasks.length:Int)-1)=true):=jaE (by omega)
  by_cases hst:t.state=3
  ·have hs:(t.state==3)=true:=by simpa using hst
   by_cases htr:t.tri=tri
   all_goals
    first|(have hs2:(t.tri==tri)=true:=by simpa using htr)|(have hs2:(t.tri==tri)=false:=by simpa using htr)
    have HF:=Lib.hid (show qU y id j tri=(t.tri==tri) by unfold qU;rw [ht];simp [hs])
    clear ht hst htr
    go_enter Tryz.func227,Tryz.ntmps227
    go_wp2_with fail
    refine (ci (jaG y id _ _ _ own ⟨_,rfl,jaq (upA ah0 _) (upA ah1 _)⟩) HR.out).mono ?_;rintro e1 w1 ⟨rfl,hb1⟩;obtain ⟨hc1,hf1⟩:=zI hb1;have hBw:Below w.heap.size w w1:=kq ((Below.refl _ _).alloc (by simp) _) hb1
    have p7':=jv hBw p7;have q3:w1.cell? ⟨w.heap.size,3,none⟩=some (.slice (some ⟨b1,o1,none⟩) y.runs.length c):=(hc1 _ _ (by simp)).trans (by simp [go_sem])
    go_wp2_with fail
    refine (cb (vz _ _ _ _) HW.out).mono ?_;rintro e2 w2 ⟨rfl,hb2⟩;obtain ⟨hc2,hf2⟩:=zI hb2
    replace p7':=jv hb2 p7'
    replace q3:=jv hb2 q3
    have p0':=jv hb2 (jv hBw p0);have p1':=jv hb2 (jv hBw p1);have p2':=jv hb2 (jv hBw p2);have p3':=jv hb2 (jv hBw p3)
    go_wp2
    go_ret
    exact ⟨jX (by rw [HF.out,hs2]),by repeat (first|(with_reducible exact kq hBw hb2)|((with_reducible refine Below.alloc ?_ ?_ _);rotate_left;focus (exact (kq hBw hb2).size)))⟩
  ·have hs:(t.state==3)=false:=by simpa using hst
   have HF:=Lib.hid (show qU y id j tri=false by unfold qU;rw [ht];simp [hs])
   clear ht hst
   go_enter Tryz.func227,Tryz.ntmps227
   go_wp2_with fail
   refine (ci (jaG y id _ _ _ own ⟨_,rfl,jaq (upA ah0 _) (upA ah1 _)⟩) HR.out).mono ?_;rintro e1 w1 ⟨rfl,hb1⟩;obtain ⟨hc1,hf1⟩:=zI hb1;have hBw:Below w.heap.size w w1:=kq ((Below.refl _ _).alloc (by simp) _) hb1
   have p7':=jv hBw p7;have q3:w1.cell? ⟨w.heap.size,3,none⟩=some (.slice (some ⟨b1,o1,none⟩) y.runs.length c):=(hc1 _ _ (by simp)).trans (by simp [go_sem])
   go_wp2_with fail
   refine (cb (vz _ _ _ _) HW.out).mono ?_;rintro e2 w2 ⟨rfl,hb2⟩;obtain ⟨hc2,hf2⟩:=zI hb2
   replace p7':=jv hb2 p7'
   replace q3:=jv hb2 q3
   have p0':=jv hb2 (jv hBw p0);have p1':=jv hb2 (jv hBw p1);have p2':=jv hb2 (jv hBw p2);have p3':=jv hb2 (jv hBw p3)
   go_wp2
   go_ret
   exact ⟨jX (by rw [HF.out]),by repeat (first|(with_reducible exact kq hBw hb2)|((with_reducible refine Below.alloc ?_ ?_ _);rotate_left;focus (exact (kq hBw hb2).size)))⟩
theorem jvn (y:Yd) (id task tri:Int) (a:Value) (S:List Nat) (w:World) (own:Bool) (ha:AggRep w own (jb y) a S):
 Calls Tryz.prog 262 #[a,.int .i64 id,.int .i64 task,.int .i64 tri] w fun e1 w'=>e1=.returned (.bool (qU y id task tri))∧Below w.heap.size w w':=by
 obtain ⟨_,rfl,ha⟩:=ha;obtain ⟨sv,rv,S1,S2,rfl,ah0,ah1,rfl⟩:=vQ ha;clear ha;rcases vH y id task with ⟨hr,ht⟩|⟨k,r,hr,hx,⟨hno,ht⟩|⟨j,t,hj,htx,ht⟩⟩
 ·have HR:=Lib.hid hr
  have HF:Hid (qU y id task tri=false):=by unfold qU;rw [ht];rfl
  clear hr ht
  go_enter Tryz.func262,Tryz.ntmps262
  go_wp2_with (go_at_call 152;refine (ci (jaA y id _ _ _ own ⟨_,rfl,jaq (upA ah0 _) (upA ah1 _)⟩) HR.out).mono ?_;rintro e1 w1 ⟨rfl,hb1⟩;obtain ⟨hc1,hf1⟩:=zI hb1)
  go_ret
  exact ⟨jX (by rw [HF.out]),kq ((Below.refl _ _).alloc (by simp) _) hb1⟩
 all_goals
  have HR:=Lib.hid hr;obtain ⟨A,c,rfl,hc1,hc2,hca⟩:=Rep.open_ (size:=8) (enc:=jd) (fun _=>rfl) (by decide) ah1
  have hk:k<y.runs.length:=(List.getElem?_eq_some_iff.1 hx).1;unfold maxLen at hc2;have hl1:y.runs.length≤9223372036854775807:=by omega
  obtain ⟨b1,o1,vk1,T1,rfl,-,hr1,-,-,hbl,hx1⟩:=hca k r hx;clear hca;obtain ⟨v0,v1,U0,U1,rfl,-,hts,-⟩:=zU hr1;have p7:=hx1 7 _ rfl;clear hx1 hr1;obtain ⟨B,d,rfl,hd1,hd2,hdb⟩:=Rep.open_ (size:=4) (enc:=jn) (fun _=>rfl) (by decide) hts
  unfold maxLen at hd2;have hl2:r.tasks.length≤9223372036854775807:=by omega
  have hk0:decide ((k:Int)≥0)=true:=by simp
  have hk1:decide ((k:Int)<0)=false:=by simp
  clear hr hx
 ·clear hdb
  have HF:Hid (qU y id task tri=false):=by unfold qU;rw [ht];rfl
  have HW:Hid (inb task 0 ((r.tasks.length:Int)-1)=false):=vA hno;clear ht hno
  go_enter Tryz.func262,Tryz.ntmps262
  go_wp2_with fail
  refine (ci (jaA y id _ _ _ own ⟨_,rfl,jaq (upA ah0 _) (upA ah1 _)⟩) HR.out).mono ?_;rintro e1 w1 ⟨rfl,hb1⟩;obtain ⟨hc1,hf1⟩:=zI hb1;have hBw:Below w.heap.size w w1:=kq ((Below.refl _ _).alloc (by simp) _) hb1
  have p7':=jv hBw p7;have q3:w1.cell? ⟨w.heap.size,3,none⟩=some (.slice (some ⟨b1,o1,none⟩) y.runs.length c):=(hc1 _ _ (by simp)).trans (by simp [go_sem])
  go_wp2_with (go_at_call 74;refine (cb (zq _ _ _ _) HW.out).mono ?_;rintro e2 w2 ⟨rfl,hb2⟩;obtain ⟨hc2,hf2⟩:=zI hb2)
  go_ret
  exact ⟨jX (by rw [HF.out]),kq hBw hb2⟩
 ·obtain ⟨b2,o2,vk2,T2,rfl,-,hr2,-,-,hbl2,hx2⟩:=hdb j t htx
  clear hdb;obtain ⟨rfl,rfl⟩:=jib hr2;have p0:w.cell? ⟨b2,o2+j*4,none⟩=some (.int .i64 t.state):=hx2 0 _ rfl;have p1:=hx2 1 _ rfl;have p2:=hx2 2 _ rfl;have p3:=hx2 3 _ rfl;have hjl:j<r.tasks.length:=(List.getElem?_eq_some_iff.1 htx).1;clear hx2 hr2 htx;subst hj;have HW:Hid (inb (j:Int) 0 ((r.tasks.length:Int)-1)=true):=jaE (by omega)
  by_cases hst:t.state=3
  ·have hs:(t.state==3)=true:=by simpa using hst
   by_cases htr:t.tri=tri
   all_goals
    first|(have hs2:(t.tri==tri)=true:=by simpa using htr)|(have hs2:(t.tri==tri)=false:=by simpa using htr)
    have HF:=Lib.hid (show qU y id j tri=(t.tri==tri) by unfold qU;rw [ht];simp [hs])
    clear ht hst htr
    go_enter Tryz.func262,Tryz.ntmps262
    go_wp2_with fail
    refine (ci (jaA y id _ _ _ own ⟨_,rfl,jaq (upA ah0 _) (upA ah1 _)⟩) HR.out).mono ?_;rintro e1 w1 ⟨rfl,hb1⟩;obtain ⟨hc1,hf1⟩:=zI hb1;have hBw:Below w.heap.size w w1:=kq ((Below.refl _ _).alloc (by simp) _) hb1
    have p7':=jv hBw p7;have q3:w1.cell? ⟨w.heap.size,3,none⟩=some (.slice (some ⟨b1,o1,none⟩) y.runs.length c):=(hc1 _ _ (by simp)).trans (by simp [go_sem])
    go_wp2_with fail
    refine (cb (zq _ _ _ _) HW.out).mono ?_;rintro e2 w2 ⟨rfl,hb2⟩;obtain ⟨hc2,hf2⟩:=zI hb2
    replace p7':=jv hb2 p7'
    replace q3:=jv hb2 q3
    have p0':=jv hb2 (jv hBw p0);have p1':=jv hb2 (jv hBw p1);have p2':=jv hb2 (jv hBw p2);have p3':=jv hb2 (jv hBw p3)
    go_wp2
    go_ret
    exact ⟨jX (by rw [HF.out,hs2]),by repeat (first|(with_reducible exact kq hBw hb2)|((with_reducible refine Below.alloc ?_ ?_ _);rotate_left;focus (exact (kq hBw hb2).size)))⟩
  ·have hs:(t.state==3)=false:=by simpa using hst
   have HF:=Lib.hid (show qU y id j tri=false by unfold qU;rw [ht];simp [hs])
   clear ht hst
   go_enter Tryz.func262,Tryz.ntmps262
   go_wp2_with fail
   refine (ci (jaA y id _ _ _ own ⟨_,rfl,jaq (upA ah0 _) (upA ah1 _)⟩) HR.out).mono ?_;rintro e1 w1 ⟨rfl,hb1⟩;obtain ⟨hc1,hf1⟩:=zI hb1;have hBw:Below w.heap.size w w1:=kq ((Below.refl _ _).alloc (by simp) _) hb1
   have p7':=jv hBw p7;have q3:w1.cell? ⟨w.heap.size,3,none⟩=some (.slice (some ⟨b1,o1,none⟩) y.runs.length c):=(hc1 _ _ (by simp)).trans (by simp [go_sem])
   go_wp2_with fail
   refine (cb (zq _ _ _ _) HW.out).mono ?_;rintro e2 w2 ⟨rfl,hb2⟩;obtain ⟨hc2,hf2⟩:=zI hb2
   replace p7':=jv hb2 p7'
   replace q3:=jv hb2 q3
   have p0':=jv hb2 (jv hBw p0);have p1':=jv hb2 (jv hBw p1);have p2':=jv hb2 (jv hBw p2);have p3':=jv hb2 (jv hBw p3)
   go_wp2
   go_ret
   exact ⟨jX (by rw [HF.out]),by repeat (first|(with_reducible exact kq hBw hb2)|((with_reducible refine Below.alloc ?_ ?_ _);rotate_left;focus (exact (kq hBw hb2).size)))⟩
end Go.Proofs.YtmnpailnelmpiaaGreat
