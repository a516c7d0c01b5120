/- Parts. -/
import Derived.Test.YtmnpailnelmpiaaGreatQAb
import Derived.Test.YtmnpailnelmpiaaGreatQData
import Derived.Test.YtmnpailnelmpiaaGreatQMarkB
import Derived.Test.YtmnpailnelmpiaaGreatQOpen
import Derived.Test.YtmnpailnelmpiaaGreatProg
set_option linter.unusedSimpArgs false
set_option linter.unusedVariables false
set_option maxHeartbeats 2000000
set_option maxRecDepth 100000
namespace Go.Proofs.YtmnpailnelmpiaaGreat
open Go.RowKit Go.Sort
theorem jfF {y:Yd} (h:jt y≤2000000):y.runs.length≤2000000:=by
 simp only [jt,qz] at h;omega
theorem joK {y:Yd} (h:jt y≤2000000):y.shelf.length≤2000000:=by
 simp only [jt,vL] at h;omega
theorem jyl (l:List (List En)):l.flatten.length≤vL l:=by
 induction l with
 |nil=>simp
 |cons x l ih=>
  simp only [List.flatten_cons,List.length_append,vL,List.length_cons,kj,List.map_cons,List.sum_cons,kO] at ih⊢;omega
theorem jiA {l:List (List En)} {k:Nat} {x:List En} (h:l[k]?=some x):(l.take (k+1)).flatten=(l.take k).flatten++x:=by
 rw [List.take_add_one,h];simp
theorem jcc (l:List (List En)) (k:Nat):(l.take k).flatten.length≤l.flatten.length:=by
 have h:l.flatten=(l.take k).flatten++(l.drop k).flatten:=by rw [←List.flatten_append,List.take_append_drop]
 rw [h,List.length_append];omega
theorem zh {y:Yd} (h:jt y≤2000000):y.shelf.flatten.length≤2000000:=by
 have:=jyl y.shelf;simp only [jt] at h;omega
theorem jof {α:Type} {f:α→Bool} {l:List α} {k:Nat} {x:α} (h:l[k]?=some x):(l.take (k+1)).filter f=if f x=true then (l.take k).filter f++[x] else (l.take k).filter f:=by
 rw [List.take_add_one,h];cases hx:f x<;>simp [List.filter_append,hx]
open Go.RowKit Go.Sort Go.BigFrame
theorem jgp {w w1:World} {b o:Nat} {v:Value} (hB:Below w.heap.size w w1) (h:w.cell? ⟨b,o,none⟩=some v) (d:Nat) (os:Array Obj):(grow (redrawn w1 d) os).cell? ⟨b,o,none⟩=some v:=
 cell_regrown ((hB.cell (p:=⟨b,o,none⟩) (World.block_lt_of_cell? w _ h)).trans h) d os
theorem ju {w w1:World} {b o:Nat} {v:Value} (hB:Below w.heap.size w w1) (h:w.cell? ⟨b,o,none⟩=some v):w1.cell? ⟨b,o,none⟩=some v:=
 (hB.cell (p:=⟨b,o,none⟩) (World.block_lt_of_cell? w _ h)).trans h
def inb (n low high:Int):Bool:=decide (low≤n∧n≤high)
theorem jaA {n low high:Int} (h:low≤n∧n≤high):inb n low high=true:=decide_eq_true h
theorem vu {n low high:Int} (h:¬(low≤n∧n≤high)):inb n low high=false:=decide_eq_false h
theorem vt (a b c:Int) (w:World):Calls Tryz.prog 78 #[.int .i64 a,.int .i64 b,.int .i64 c] w fun e w'=>e=.returned (.bool (inb a b c))∧Below w.heap.size w w':=by
 by_cases h1:b≤a
 ·by_cases h2:a≤c
  ·have H:Hid (inb a b c=true):=jaA ⟨h1,h2⟩
   go_enter Tryz.func78,Tryz.ntmps78
   go_wp2
   go_ret
   exact ⟨jy H.out.symm,Below.refl _ _⟩
  ·have H:Hid (inb a b c=false):=vu fun h=>h2 h.2
   go_enter Tryz.func78,Tryz.ntmps78
   go_wp2
   go_ret
   exact ⟨jy H.out.symm,Below.refl _ _⟩
 ·have H:Hid (inb a b c=false):=vu fun h=>h1 h.1
  go_enter Tryz.func78,Tryz.ntmps78
  go_wp2
  go_ret
  exact ⟨jy H.out.symm,Below.refl _ _⟩
theorem zo (a b c:Int) (w:World):Calls Tryz.prog 74 #[.int .i64 a,.int .i64 b,.int .i64 c] w fun e w'=>e=.returned (.bool (inb a b c))∧Below w.heap.size w w':=by
 by_cases h1:b≤a
 ·by_cases h2:a≤c
  ·have H:Hid (inb a b c=true):=jaA ⟨h1,h2⟩
   go_enter Tryz.func74,Tryz.ntmps74
   go_wp2
   go_ret
   exact ⟨jy H.out.symm,Below.refl _ _⟩
  ·have H:Hid (inb a b c=false):=vu fun h=>h2 h.2
   go_enter Tryz.func74,Tryz.ntmps74
   go_wp2
   go_ret
   exact ⟨jy H.out.symm,Below.refl _ _⟩
 ·have H:Hid (inb a b c=false):=vu fun h=>h1 h.1
  go_enter Tryz.func74,Tryz.ntmps74
  go_wp2
  go_ret
  exact ⟨jy H.out.symm,Below.refl _ _⟩
theorem jli (y:Yd) (e:En) (a b:Value) (S S':List Nat) (w:World) (own own':Bool) (ha:AggRep w own (jb y) a S) (hb:AggRep w own' (jf e) b S'):
 Calls Tryz.prog 57 #[a,b] w fun e1 w'=>e1=.returned (.bool (kr y e))∧Below w.heap.size w w':=by
 obtain ⟨_,rfl,ha⟩:=ha;obtain ⟨_,rfl,hb⟩:=hb;obtain ⟨rfl,rfl⟩:=qs hb;obtain ⟨sv,rv,S1,S2,rfl,ah0,ah1,rfl⟩:=qe ha;clear ha hb;rcases vE y e.run e.task with ⟨hr,ht⟩|⟨k,r,hr,hx,⟨hno,ht⟩|⟨j,t,hj,htx,ht⟩⟩
 ·have HR:=Lib.hid hr
  have HF:Hid (kr y e=false):=by unfold kr;rw [ht];rfl
  clear hr ht
  go_enter Tryz.func57,Tryz.ntmps57
  go_wp2_with (go_at_call 56;refine (ci (jaC y e.run _ _ _ own ⟨_,rfl,jaq (upA (upA ah0 _) _) (upA (upA ah1 _) _)⟩) HR.out).mono ?_;rintro e1 w1 ⟨rfl,hb1⟩;obtain ⟨hc1,hf1⟩:=kX hb1)
  refine wp_region_quiet_below (by kernel_rfl) (by kernel_rfl) ?_
  repeat (go_big_quiet_step (fail))
  refine wpQuiet_nil ?_;intro _ hw';obtain ⟨⟨dq,osq⟩,hw''⟩:=hw';subst hw''
  go_wp2
  go_ret
  exact ⟨jy (by rw [HF.out]),jv (jv (((Below.refl _ _).alloc (by simp) _).alloc (by simp) _) hb1) (below_regrown w1 dq osq)⟩
 all_goals
  have HR:=Lib.hid hr;obtain ⟨A,c,rfl,hc1,hc2,hca⟩:=Rep.open_ (size:=8) (enc:=jd) (fun _=>rfl) (by decide) ah1
  have hk:k<y.runs.length:=(List.getElem?_eq_some_iff.1 hx).1;unfold maxLen at hc2;have hl1:y.runs.length≤9223372036854775807:=by omega
  obtain ⟨b1,o1,vk1,T1,rfl,-,hr1,-,-,hbl,hx1⟩:=hca k r hx;clear hca;obtain ⟨v0,v1,U0,U1,rfl,-,hts,-⟩:=kh hr1;have p7:=hx1 7 _ rfl;clear hx1 hr1;obtain ⟨B,d,rfl,hd1,hd2,hdb⟩:=Rep.open_ (size:=4) (enc:=jn) (fun _=>rfl) (by decide) hts
  unfold maxLen at hd2;have hl2:r.tasks.length≤9223372036854775807:=by omega
  have hk0:decide ((k:Int)≥0)=true:=by simp
  have hk1:decide ((k:Int)<0)=false:=by simp
  clear hr hx
 ·clear hdb
  have HF:Hid (kr y e=false):=by unfold kr;rw [ht];rfl
  have HW:Hid (inb e.task 0 ((r.tasks.length:Int)-1)=false):=vu hno;clear ht hno
  go_enter Tryz.func57,Tryz.ntmps57
  go_wp2_with (go_at_call 56;refine (ci (jaC y e.run _ _ _ own ⟨_,rfl,jaq (upA (upA ah0 _) _) (upA (upA ah1 _) _)⟩) HR.out).mono ?_;rintro e1 w1 ⟨rfl,hb1⟩;obtain ⟨hc1,hf1⟩:=kX hb1)
  have hBw:Below w.heap.size w w1:=jv (((Below.refl _ _).alloc (by simp) _).alloc (by simp) _) hb1
  have p7':=jgp hBw p7;have q3:∀(d:Nat) (os:Array Obj),(grow (redrawn w1 d) os).cell? ⟨w.heap.size,3,none⟩=some (.slice (some ⟨b1,o1,none⟩) y.runs.length c):=fun d os=>cell_regrown ((hc1 _ _ (by simp;try omega)).trans (by simp [go_sem])) d os
  have r3:∀(d:Nat) (os:Array Obj),(grow (redrawn w1 d) os).cell? ⟨w.heap.size+1,3,none⟩=some (.int .i64 e.task):=fun d os=>cell_regrown ((hc1 _ _ (by simp;try omega)).trans (by simp [go_sem])) d os
  refine wp_region_quiet_below (by kernel_rfl) (by kernel_rfl) ?_
  repeat (go_big_quiet_step (exact Calls.regrown_of (cb (vt _ _ _ _) HW.out)))
  refine wpQuiet_nil ?_;intro _ hw';obtain ⟨⟨dq,osq⟩,hw''⟩:=hw';subst hw''
  go_wp2
  go_ret
  exact ⟨jy (by rw [HF.out]),jv hBw (below_regrown w1 dq osq)⟩
 ·obtain ⟨b2,o2,vk2,T2,rfl,-,hr2,-,-,hbl2,hx2⟩:=hdb j t htx
  clear hdb;obtain ⟨rfl,rfl⟩:=qE hr2;have p0:w.cell? ⟨b2,o2+j*4,none⟩=some (.int .i64 t.state):=hx2 0 _ rfl;have hjl:j<r.tasks.length:=(List.getElem?_eq_some_iff.1 htx).1;clear hx2 hr2 htx;obtain ⟨e1,e2,e3,e4⟩:=e;simp only at hj HR ht;subst hj;have HW:Hid (inb (j:Int) 0 ((r.tasks.length:Int)-1)=true):=jaA (by omega)
  by_cases hst:t.state=2
  all_goals
   first|(have hs:(t.state==2)=true:=by simpa using hst)|(have hs:(t.state==2)=false:=by simpa using hst)
   have HF:=Lib.hid (show kr y ⟨e1,e2,e3,j⟩=(t.state==2) by unfold kr;rw [ht])
   clear ht hst
   go_enter Tryz.func57,Tryz.ntmps57
   go_wp2_with (go_at_call 56;refine (ci (jaC y e3 _ _ _ own ⟨_,rfl,jaq (upA (upA ah0 _) _) (upA (upA ah1 _) _)⟩) HR.out).mono ?_;rintro e1 w1 ⟨rfl,hb1⟩;obtain ⟨hc1,hf1⟩:=kX hb1)
   have hBw:Below w.heap.size w w1:=jv (((Below.refl _ _).alloc (by simp) _).alloc (by simp) _) hb1
   have p7':=jgp hBw p7;have q3:∀(d:Nat) (os:Array Obj),(grow (redrawn w1 d) os).cell? ⟨w.heap.size,3,none⟩=some (.slice (some ⟨b1,o1,none⟩) y.runs.length c):=fun d os=>cell_regrown ((hc1 _ _ (by simp;try omega)).trans (by simp [go_sem])) d os
   have r3:∀(d:Nat) (os:Array Obj),(grow (redrawn w1 d) os).cell? ⟨w.heap.size+1,3,none⟩=some (.int .i64 j):=fun d os=>cell_regrown ((hc1 _ _ (by simp;try omega)).trans (by simp [go_sem])) d os
   have p0':=jgp hBw p0;refine wp_region_quiet_below (by kernel_rfl) (by kernel_rfl) ?_
   repeat (go_big_quiet_step (exact Calls.regrown_of (cb (vt _ _ _ _) HW.out)))
   refine wpQuiet_nil ?_;intro _ hw';obtain ⟨⟨dq,osq⟩,hw''⟩:=hw';subst hw''
   go_wp2
   go_ret
   exact ⟨jy (by rw [HF.out,hs]),jv hBw (below_regrown w1 dq osq)⟩
theorem joL (y:Yd) (e:En) (a b:Value) (S S':List Nat) (w:World) (own own':Bool) (ha:AggRep w own (jb y) a S) (hb:AggRep w own' (jf e) b S'):
 Calls Tryz.prog 141 #[a,b] w fun e1 w'=>e1=.returned (.bool (kr y e))∧Below w.heap.size w w':=by
 obtain ⟨_,rfl,ha⟩:=ha;obtain ⟨_,rfl,hb⟩:=hb;obtain ⟨rfl,rfl⟩:=qs hb;obtain ⟨sv,rv,S1,S2,rfl,ah0,ah1,rfl⟩:=qe ha;clear ha hb;rcases vE y e.run e.task with ⟨hr,ht⟩|⟨k,r,hr,hx,⟨hno,ht⟩|⟨j,t,hj,htx,ht⟩⟩
 ·have HR:=Lib.hid hr
  have HF:Hid (kr y e=false):=by unfold kr;rw [ht];rfl
  clear hr ht
  go_enter Tryz.func141,Tryz.ntmps141
  go_wp2_with (go_at_call 152;refine (ci (jay y e.run _ _ _ own ⟨_,rfl,jaq (upA (upA ah0 _) _) (upA (upA ah1 _) _)⟩) HR.out).mono ?_;rintro e1 w1 ⟨rfl,hb1⟩;obtain ⟨hc1,hf1⟩:=kX hb1)
  refine wp_region_quiet_below (by kernel_rfl) (by kernel_rfl) ?_
  repeat (go_big_quiet_step (fail))
  refine wpQuiet_nil ?_;intro _ hw';obtain ⟨⟨dq,osq⟩,hw''⟩:=hw';subst hw''
  go_wp2
  go_ret
  exact ⟨jy (by rw [HF.out]),jv (jv (((Below.refl _ _).alloc (by simp) _).alloc (by simp) _) hb1) (below_regrown w1 dq osq)⟩
 all_goals
  have HR:=Lib.hid hr;obtain ⟨A,c,rfl,hc1,hc2,hca⟩:=Rep.open_ (size:=8) (enc:=jd) (fun _=>rfl) (by decide) ah1
  have hk:k<y.runs.length:=(List.getElem?_eq_some_iff.1 hx).1;unfold maxLen at hc2;have hl1:y.runs.length≤9223372036854775807:=by omega
  obtain ⟨b1,o1,vk1,T1,rfl,-,hr1,-,-,hbl,hx1⟩:=hca k r hx;clear hca;obtain ⟨v0,v1,U0,U1,rfl,-,hts,-⟩:=kh hr1;have p7:=hx1 7 _ rfl;clear hx1 hr1;obtain ⟨B,d,rfl,hd1,hd2,hdb⟩:=Rep.open_ (size:=4) (enc:=jn) (fun _=>rfl) (by decide) hts
  unfold maxLen at hd2;have hl2:r.tasks.length≤9223372036854775807:=by omega
  have hk0:decide ((k:Int)≥0)=true:=by simp
  have hk1:decide ((k:Int)<0)=false:=by simp
  clear hr hx
 ·clear hdb
  have HF:Hid (kr y e=false):=by unfold kr;rw [ht];rfl
  have HW:Hid (inb e.task 0 ((r.tasks.length:Int)-1)=false):=vu hno;clear ht hno
  go_enter Tryz.func141,Tryz.ntmps141
  go_wp2_with (go_at_call 152;refine (ci (jay y e.run _ _ _ own ⟨_,rfl,jaq (upA (upA ah0 _) _) (upA (upA ah1 _) _)⟩) HR.out).mono ?_;rintro e1 w1 ⟨rfl,hb1⟩;obtain ⟨hc1,hf1⟩:=kX hb1)
  have hBw:Below w.heap.size w w1:=jv (((Below.refl _ _).alloc (by simp) _).alloc (by simp) _) hb1
  have p7':=jgp hBw p7;have q3:∀(d:Nat) (os:Array Obj),(grow (redrawn w1 d) os).cell? ⟨w.heap.size,3,none⟩=some (.slice (some ⟨b1,o1,none⟩) y.runs.length c):=fun d os=>cell_regrown ((hc1 _ _ (by simp;try omega)).trans (by simp [go_sem])) d os
  have r3:∀(d:Nat) (os:Array Obj),(grow (redrawn w1 d) os).cell? ⟨w.heap.size+1,3,none⟩=some (.int .i64 e.task):=fun d os=>cell_regrown ((hc1 _ _ (by simp;try omega)).trans (by simp [go_sem])) d os
  refine wp_region_quiet_below (by kernel_rfl) (by kernel_rfl) ?_
  repeat (go_big_quiet_step (exact Calls.regrown_of (cb (zo _ _ _ _) HW.out)))
  refine wpQuiet_nil ?_;intro _ hw';obtain ⟨⟨dq,osq⟩,hw''⟩:=hw';subst hw''
  go_wp2
  go_ret
  exact ⟨jy (by rw [HF.out]),jv hBw (below_regrown w1 dq osq)⟩
 ·obtain ⟨b2,o2,vk2,T2,rfl,-,hr2,-,-,hbl2,hx2⟩:=hdb j t htx
  clear hdb;obtain ⟨rfl,rfl⟩:=qE hr2;have p0:w.cell? ⟨b2,o2+j*4,none⟩=some (.int .i64 t.state):=hx2 0 _ rfl;have hjl:j<r.tasks.length:=(List.getElem?_eq_some_iff.1 htx).1;clear hx2 hr2 htx;obtain ⟨e1,e2,e3,e4⟩:=e;simp only at hj HR ht;subst hj;have HW:Hid (inb (j:Int) 0 ((r.tasks.length:Int)-1)=true):=jaA (by omega)
  by_cases hst:t.state=2
  all_goals
   first|(have hs:(t.state==2)=true:=by simpa using hst)|(have hs:(t.state==2)=false:=by simpa using hst)
   have HF:=Lib.hid (show kr y ⟨e1,e2,e3,j⟩=(t.state==2) by unfold kr;rw [ht])
   clear ht hst
   go_enter Tryz.func141,Tryz.ntmps141
   go_wp2_with (go_at_call 152;refine (ci (jay y e3 _ _ _ own ⟨_,rfl,jaq (upA (upA ah0 _) _) (upA (upA ah1 _) _)⟩) HR.out).mono ?_;rintro e1 w1 ⟨rfl,hb1⟩;obtain ⟨hc1,hf1⟩:=kX hb1)
   have hBw:Below w.heap.size w w1:=jv (((Below.refl _ _).alloc (by simp) _).alloc (by simp) _) hb1
   have p7':=jgp hBw p7;have q3:∀(d:Nat) (os:Array Obj),(grow (redrawn w1 d) os).cell? ⟨w.heap.size,3,none⟩=some (.slice (some ⟨b1,o1,none⟩) y.runs.length c):=fun d os=>cell_regrown ((hc1 _ _ (by simp;try omega)).trans (by simp [go_sem])) d os
   have r3:∀(d:Nat) (os:Array Obj),(grow (redrawn w1 d) os).cell? ⟨w.heap.size+1,3,none⟩=some (.int .i64 j):=fun d os=>cell_regrown ((hc1 _ _ (by simp;try omega)).trans (by simp [go_sem])) d os
   have p0':=jgp hBw p0;refine wp_region_quiet_below (by kernel_rfl) (by kernel_rfl) ?_
   repeat (go_big_quiet_step (exact Calls.regrown_of (cb (zo _ _ _ _) HW.out)))
   refine wpQuiet_nil ?_;intro _ hw';obtain ⟨⟨dq,osq⟩,hw''⟩:=hw';subst hw''
   go_wp2
   go_ret
   exact ⟨jy (by rw [HF.out,hs]),jv hBw (below_regrown w1 dq osq)⟩
def ja3:C:=iS [iA 1 (.box 37 4 (.t 0)),iA 2 (.mov (.c (.slice none 0 0)))] (iS [iA 5 (.bsl 111 4 0 [] []),iA 3 (iM 5)] (.seq (iS [iA 4 (iN 0)] (.blk 0 (.loop (.seq (iS [iA 6 (iM 4),iA 7 (iF 2 1),iA 8 (iL 7),iA 9 (iG 8),iA 10 (iP .lss 3 6 9)] (iD 10 .skip (.exit 0))) (.seq (.blk 1 (.reg [iA 13 (iM 3),iA 14 (iF 2 1),iA 15 (iL 14),iA 16 (iM 4),iA 17 (iI 1 15 16),iA 18 (iL 17),iA 19 (.app 111 4 32 (.t 13) (.t 18)),iA 3 (iM 19)])) (.reg [iA 11 (iM 4),iA 12 (iQ .add 3 11 1),iA 4 (iM 12)])))))) (iS [iA 20 (iM 3),iA 2 (iM 20)] .ret)))
theorem jc1:fnC Tryz.prog Tryz.f140=some (ja3,[.t 2],21):=by kernel_rfl
def ja6:C:=iS [iA 1 (.box 37 4 (.t 0)),iA 2 (.mov (.c (.slice none 0 0)))] (iS [iA 3 (.mov (.c (.slice none 0 0)))] (.seq (iS [iA 6 (iF 2 1),iA 7 (iL 6),iA 8 (iG 7),iA 9 (iN 0)] (.blk 0 (.loop (iS [iA 10 (iP .lss 3 9 8)] (.seq (iD 10 .skip (.exit 0)) (.seq (.blk 1 (iS [iA 11 (iI 1 7 9),iA 12 (iL 11),iA 5 (iM 12)] (.reg [iA 13 (iM 3),iA 14 (iM 5),iA 15 (.app 111 4 32 (.t 13) (.t 14)),iA 3 (iM 15)]))) (.reg [iA 16 (iQ .add 3 9 1),iA 9 (iM 16)]))))))) (iS [iA 17 (iM 3),iA 2 (iM 17)] .ret)))
theorem jc4:fnC Tryz.prog Tryz.f133=some (ja6,[.t 2],18):=by kernel_rfl
theorem jmi (y:Yd) (e:En):kf Tryz.prog 57 [.agg (jb y),.agg (jf e)] (.c (.val (.bool (kr y e)))):=jgX ⟨_,Tryz.func57,by kernel_rfl,by kernel_rfl⟩ fun w a b ⟨S,ha⟩ ⟨S2,hb⟩=>jli y e a b S S2 w false false ha hb
theorem jmf (y:Yd) (e:En):kf Tryz.prog 141 [.agg (jb y),.agg (jf e)] (.c (.val (.bool (kr y e)))):=jgX ⟨_,Tryz.func141,by kernel_rfl,by kernel_rfl⟩ fun w a b ⟨S,ha⟩ ⟨S2,hb⟩=>joL y e a b S S2 w false false ha hb
theorem jts (l m:List En):D.sl 4 tEn (l.flatMap jf++m.flatMap jf)=ji (l++m):=by simp [ji]
theorem jaX (y:Yd) (ht:jt y≤2000000):kf Tryz.prog 140 [.agg (jb y)] (.c (ji y.shelf.flatten)):=by
 refine jr Tryz.func140 jc1 (by simp) ?_
 unfold ja3;have hl:=joK ht;have hf:=zh ht;simp only [go_sem,jb];intro b η0;refine vA (fun s=>∃(k g ty:Nat) (η:jp),k≤y.shelf.length∧(g=500∨g=1900)∧s.t 1=.c (.bp 100 0 b)∧s.o 100=.box b ty ((jb y).map fun x=>.a x.toRo)∧s.t 4=.c (.v (.int .i64 k))∧s.t 3=.c (.h g 0 [] (η []))∧s.o g=.loose (ji (y.shelf.take k).flatten) η) (fun s=>y.shelf.length-s.n 4) ?_ ?_
 ·exact ⟨0,500,_,η0,Nat.zero_le _,.inl rfl,by simp only [go_sem]<;>rfl,by simp only [go_sem]<;>rfl,by simp only [go_sem]<;>rfl,by simp only [go_sem]<;>rfl,by simp only [go_sem]<;>rfl⟩
 ·rintro s ⟨k,g,ty,η,hk,hg,h1,ho1,h4,h3,hob⟩
  by_cases hlt:k<y.shelf.length
  ·have hlt':(k:Int)<y.shelf.length:=by omega
   obtain ⟨x,hx⟩:=je hlt;have hw:IntKind.i64.wrap ((k:Int)+1)=((k+1:Nat):Int):=jo (by omega) (by omega)
   have hn:=jiA hx;have hle:=jcc y.shelf (k+1);rw [hn,List.length_append] at hle;generalize (y.shelf.take k).flatten=l at*;have h1':l.length+x.length≤maxLen:=by unfold maxLen;omega
   have h2':(l.length+x.length)*32≤140737488355328:=by omega
   rcases hg with rfl|rfl
   all_goals
    simp only [go_sem,h1,ho1,h4,h3,hob,jb,hlt,hlt',kY hx,h1',h2',hw,jts];intro η2;refine ⟨⟨k+1,1900,ty,η2,?_⟩,?_⟩
    ·and_intros<;>first|rfl|omega|exact .inr rfl|(rw [hn];rfl)
    ·rw [jdP (k:=.i64) (n:=((k+1:Nat):Int)) (by simp only [go_sem]),jdP h4];omega
  ·have hlt':¬(k:Int)<y.shelf.length:=by omega
   rw [List.take_of_length_le (by omega)] at hob
   rcases hg with rfl|rfl
   all_goals
    simp only [go_sem,h1,ho1,h4,h3,hob,jb,hlt']
theorem jfR (y:Yd) (ht:jt y≤2000000):kf Tryz.prog 133 [.agg (jb y)] (.c (ji y.shelf.flatten)):=by
 refine jr Tryz.func133 jc4 (by simp) ?_
 unfold ja6;have hl:=joK ht;have hf:=zh ht;simp only [go_sem,jb];intro b;refine vA (fun s=>∃k:Nat,k≤y.shelf.length∧s.t 7=.c (.ro (kt y.shelf))∧s.t 8=.c (.v (.int .i64 y.shelf.length))∧s.t 9=.c (.v (.int .i64 k))∧(((y.shelf.take k).flatten=[]∧s.t 3=.c (.v (.slice none 0 0)))∨∃η:jp,s.t 3=.c (.h 1500 0 [] (η []))∧s.o 1500=.loose (ji (y.shelf.take k).flatten) η)) (fun s=>y.shelf.length-s.n 9) ?_ ?_
 ·exact ⟨0,Nat.zero_le _,by simp only [go_sem]<;>rfl,by simp only [go_sem]<;>rfl,by simp only [go_sem]<;>rfl,.inl ⟨rfl,by simp only [go_sem]⟩⟩
 ·rintro s ⟨k,hk,h7,h8,h9,hg⟩
  by_cases hlt:k<y.shelf.length
  ·have hlt':(k:Int)<y.shelf.length:=by omega
   obtain ⟨x,hx⟩:=je hlt;have hw:IntKind.i64.wrap ((k:Int)+1)=((k+1:Nat):Int):=jo (by omega) (by omega)
   have hn:=jiA hx;have hle:=jcc y.shelf (k+1);rw [hn,List.length_append] at hle;generalize (y.shelf.take k).flatten=l at*;have h1':l.length+x.length≤maxLen:=by unfold maxLen;omega
   have h2':(l.length+x.length)*32≤140737488355328:=by omega
   rcases hg with ⟨hnil,h3⟩|⟨η,h3,hob⟩
   ·have h3':x.length≤maxLen:=by unfold maxLen;omega
    have h4':x.length*32≤140737488355328:=by omega
    rw [hnil,List.nil_append] at hn;simp only [go_sem,h7,h8,h9,h3,hlt,hlt',kY hx,hw,h3',h4',joe];intro η2;refine ⟨⟨k+1,by omega,rfl,.inr ⟨η2,rfl,by rw [hn]⟩⟩,?_⟩
    rw [jdP (k:=.i64) (n:=((k+1:Nat):Int)) (by simp only [go_sem]),jdP h9];omega
   ·simp only [go_sem,h7,h8,h9,h3,hob,hlt,hlt',kY hx,hw,h1',h2',jts]
    intro η2;refine ⟨⟨k+1,by omega,rfl,.inr ⟨η2,rfl,by rw [hn]⟩⟩,?_⟩
    rw [jdP (k:=.i64) (n:=((k+1:Nat):Int)) (by simp only [go_sem]),jdP h9];omega
  ·have hlt':¬(k:Int)<y.shelf.length:=by omega
   have hk':y.shelf.take k=y.shelf:=List.take_of_length_le (by omega)
   rcases hg with ⟨hnil,h3⟩|⟨η,h3,hob⟩
   ·rw [hk'] at hnil
    simp only [go_sem,h7,h8,h9,h3,hlt',hnil]
   ·rw [hk'] at hob
    simp only [go_sem,h7,h8,h9,h3,hob,hlt']
abbrev tIs:TypeId:=104
def qB (l:List (List Int)):D:=.sl 1 tIs (l.flatMap fun es=>[jg es])
section
variable {P:Program} {β:Nat} {s:St}
theorem jqB (l:List (List Int)):(qB l).len=l.length:=zW (enc:=fun es=>[jg es]) (fun _=>rfl) (by decide) _ _
theorem jok {l:List (List Int)} {k:Nat} {x:List Int} (h:l[k]?=some x):(qB l).elem k=[jg x]:=vW (enc:=fun es=>[jg es]) (fun _=>rfl) h
theorem jrW (l:List (List Int)):(qB l).isSl=true:=(rfl)
theorem jrF (l:List (List Int)):(qB l).size=1:=(rfl)
theorem jqp (l:List (List Int)) (g:Nat) (η:jp):(qB l).obj g η=[(g,.loose (qB l) η)]:=(rfl)
theorem jqi (l:List (List Int)) (g c:Nat) (p:List Nat) (η:jp):(qB l).toOwn g c p η=.h g c p (η p):=(rfl)
theorem jmY (l:List (List Int)):(qB l).cells=l.flatMap (fun es=>[jg es]):=(rfl)
theorem jpT (l:List (List Int)) (e:Nat) (k:List D→Prop):slK (qB l) e 1 k=(tIs=e∧k (l.flatMap (fun es=>[jg es]))):=by rw [show qB l=.sl 1 tIs (l.flatMap (fun es=>[jg es])) from rfl,jw9];simp
theorem jqZ (l:List (List Int)):(l.flatMap (fun es=>[jg es])).length/1=l.length:=by rw [jJ (enc:=fun es=>[jg es]) (size:=1) (fun _=>rfl)];exact Nat.mul_div_cancel _ (by decide)
theorem jt1 {l:List (List Int)} {k:Nat} {x:List Int} (h:l[k]?=some x):((l.flatMap (fun es=>[jg es])).drop (k*1)).take 1=[jg x]:=jok h
theorem jtb {l:List (List Int)} {k:Nat} (h:k<l.length):k*1+1≤(l.flatMap (fun es=>[jg es])).length:=by rw [jJ (enc:=fun es=>[jg es]) (size:=1) (fun _=>rfl)];omega
attribute [go_sem] jqB jrW jrF jqp jqi jmY jpT jqZ
end
def jas (now id:Int) (t:Tk) (k:Nat):Option (List Int):=if (t.state==3&&decide (t.til≤now∨t.til-1=now))=true then some [id,k,t.tri] else none
def zV (now:Int) (r:Rn):Nat→List Tk→List (List Int)
 |_,[]=>[]
 |k,t::ts=>(jas now r.id t k).toList++zV now r (k+1) ts
def kN (y:Yd):List (List Int):=y.runs.flatMap fun r=>zV y.now r 0 r.tasks
open Go.RowKit Go.Sort Go.BigFrame
theorem jj8 (now:Int) (r:Rn) (x:Tk):∀(ts:List Tk) (k:Nat),zV now r k (ts++[x])=zV now r k ts++(jas now r.id x (k+ts.length)).toList
 |[],k=>by simp [zV]
 |t::ts,k=>by
  rw [List.cons_append,zV,zV,jj8 now r x ts (k+1),List.append_assoc]
  congr 3
  simp only [List.length_cons];congr 1;omega
theorem jj7 {now:Int} {r:Rn} {ts:List Tk} {k:Nat} {x:Tk} (h:ts[k]?=some x):zV now r 0 (ts.take (k+1))=zV now r 0 (ts.take k)++(jas now r.id x k).toList:=by
 have hk:k<ts.length:=(List.getElem?_eq_some_iff.1 h).1;rw [List.take_add_one,h];have:=jj8 now r x (ts.take k) 0;rw [List.length_take,Nat.min_eq_left (by omega),Nat.zero_add] at this
 exact this
theorem jeA (now:Int) (r:Rn):∀(ts:List Tk) (k:Nat),(zV now r k ts).length≤ts.length
 |[],k=>by simp [zV]
 |t::ts,k=>by
  have:=jeA now r ts (k+1)
  have h2:(jas now r.id t k).toList.length≤1:=by
   unfold jas;split<;>simp
  rw [zV,List.length_append,List.length_cons];omega
def jis (now:Int) (r:Rn):List (List Int):=zV now r 0 r.tasks
theorem jo9 (y:Yd):kN y=y.runs.flatMap (jis y.now):=rfl
theorem jmx {now:Int} {l:List Rn} {k:Nat} {r:Rn} (h:l[k]?=some r):(l.take (k+1)).flatMap (jis now)=(l.take k).flatMap (jis now)++jis now r:=by
 rw [List.take_add_one,h];simp
theorem jsY (now:Int) (l:List Rn):(l.flatMap (jis now)).length≤kj km l:=by
 induction l with
 |nil=>simp
 |cons r l ih=>
  have:=jeA now r r.tasks 0;simp only [List.flatMap_cons,List.length_append,jis,kj,List.map_cons,List.sum_cons,km] at ih⊢;omega
end Go.Proofs.YtmnpailnelmpiaaGreat
