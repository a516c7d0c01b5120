/- Parts. -/
import Derived.Test.YtcehjhiglmifjaaGreatQRunD
set_option linter.unusedSimpArgs false
set_option linter.unusedVariables false
set_option maxHeartbeats 4000000
set_option maxRecDepth 100000
namespace Go.Proofs.YtcehjhiglmifjaaGreat
open Go.RowKit Go.Sort Go.BigFrame
theorem jhj {w w1:World} {b o:Nat} {v:Value} (hB:Below w.heap.size w w1) (h:w.cell? ⟨b,o,none⟩=some v) (d:Nat) (os:Array Obj):(grow (redrawn w1 d) os).cell? ⟨b,o,none⟩=some v:=
 cell_regrown ((hB.cell (p:=⟨b,o,none⟩) (World.block_lt_of_cell? w _ h)).trans h) d os
theorem jv {w w1:World} {b o:Nat} {v:Value} (hB:Below w.heap.size w w1) (h:w.cell? ⟨b,o,none⟩=some v):w1.cell? ⟨b,o,none⟩=some v:=
 (hB.cell (p:=⟨b,o,none⟩) (World.block_lt_of_cell? w _ h)).trans h
def inb (n low high:Int):Bool:=decide (low≤n∧n≤high)
theorem jaL {n low high:Int} (h:low≤n∧n≤high):inb n low high=true:=decide_eq_true h
theorem vv {n low high:Int} (h:¬(low≤n∧n≤high)):inb n low high=false:=decide_eq_false h
theorem vu (a b c:Int) (w:World):Calls Tryz.prog 62 #[.int .i64 a,.int .i64 b,.int .i64 c] w fun e w'=>e=.returned (.bool (inb a b c))∧Below w.heap.size w w':=by
 by_cases h1:b≤a
 ·by_cases h2:a≤c
  ·have H:Hid (inb a b c=true):=jaL ⟨h1,h2⟩
   go_enter Tryz.func62,Tryz.ntmps62
   go_wp2
   go_ret
   exact ⟨ka H.out.symm,Below.refl _ _⟩
  ·have H:Hid (inb a b c=false):=vv fun h=>h2 h.2
   go_enter Tryz.func62,Tryz.ntmps62
   go_wp2
   go_ret
   exact ⟨ka H.out.symm,Below.refl _ _⟩
 ·have H:Hid (inb a b c=false):=vv fun h=>h1 h.1
  go_enter Tryz.func62,Tryz.ntmps62
  go_wp2
  go_ret
  exact ⟨ka H.out.symm,Below.refl _ _⟩
theorem zx (a b c:Int) (w:World):Calls Tryz.prog 68 #[.int .i64 a,.int .i64 b,.int .i64 c] w fun e w'=>e=.returned (.bool (inb a b c))∧Below w.heap.size w w':=by
 by_cases h1:b≤a
 ·by_cases h2:a≤c
  ·have H:Hid (inb a b c=true):=jaL ⟨h1,h2⟩
   go_enter Tryz.func68,Tryz.ntmps68
   go_wp2
   go_ret
   exact ⟨ka H.out.symm,Below.refl _ _⟩
  ·have H:Hid (inb a b c=false):=vv fun h=>h2 h.2
   go_enter Tryz.func68,Tryz.ntmps68
   go_wp2
   go_ret
   exact ⟨ka H.out.symm,Below.refl _ _⟩
 ·have H:Hid (inb a b c=false):=vv fun h=>h1 h.1
  go_enter Tryz.func68,Tryz.ntmps68
  go_wp2
  go_ret
  exact ⟨ka H.out.symm,Below.refl _ _⟩
theorem jmm (y:Yd) (e:En) (a b:Value) (S S':List Nat) (w:World) (own own':Bool) (ha:AggRep w own (jb y) a S) (hb:AggRep w own' (jk e) b S'):
 Calls Tryz.prog 84 #[a,b] w fun e1 w'=>e1=.returned (.bool (jU y e))∧Below w.heap.size w w':=by
 obtain ⟨_,rfl,ha⟩:=ha;obtain ⟨_,rfl,hb⟩:=hb;obtain ⟨rfl,rfl⟩:=jfx hb;obtain ⟨sv,rv,S1,S2,rfl,ah0,ah1,rfl⟩:=vR ha;clear ha hb;rcases vJ y e.run e.task with ⟨hr,ht⟩|⟨k,r,hr,hx,⟨hno,ht⟩|⟨j,t,hj,htx,ht⟩⟩
 ·have HR:=Lib.hid hr
  have HF:Hid (jU y e=false):=by unfold jU;rw [ht];rfl
  clear hr ht
  go_enter Tryz.func84,Tryz.ntmps84
  go_wp2_with (go_at_call 25;refine (ci (jaN y e.run _ _ _ own ⟨_,rfl,jaA (upA (upA ah0 _) _) (upA (upA ah1 _) _)⟩) HR.out).mono ?_;rintro e1 w1 ⟨rfl,hb1⟩;obtain ⟨hc1,hf1⟩:=zU hb1)
  refine wp_region_quiet_below (by kernel_rfl) (by kernel_rfl) ?_
  repeat (go_big_quiet_step (fail))
  refine wpQuiet_nil ?_;intro _ hw';obtain ⟨⟨dq,osq⟩,hw''⟩:=hw';subst hw''
  go_wp2
  go_ret
  exact ⟨ka (by rw [HF.out]),kr (kr (((Below.refl _ _).alloc (by simp) _).alloc (by simp) _) hb1) (below_regrown w1 dq osq)⟩
 all_goals
  have HR:=Lib.hid hr;obtain ⟨A,c,rfl,hc1,hc2,hca⟩:=Rep.open_ (size:=8) (enc:=jd) (fun _=>rfl) (by decide) ah1
  have hk:k<y.runs.length:=(List.getElem?_eq_some_iff.1 hx).1;unfold maxLen at hc2;have hl1:y.runs.length≤9223372036854775807:=by omega
  obtain ⟨b1,o1,vk1,T1,rfl,-,hr1,-,-,hbl,hx1⟩:=hca k r hx;clear hca;obtain ⟨v0,v1,U0,U1,rfl,-,hts,-⟩:=jaf hr1;have p7:=hx1 7 _ rfl;clear hx1 hr1;obtain ⟨B,d,rfl,hd1,hd2,hdb⟩:=Rep.open_ (size:=4) (enc:=jo) (fun _=>rfl) (by decide) hts
  unfold maxLen at hd2;have hl2:r.tasks.length≤9223372036854775807:=by omega
  have hk0:decide ((k:Int)≥0)=true:=by simp
  have hk1:decide ((k:Int)<0)=false:=by simp
  clear hr hx
 ·clear hdb
  have HF:Hid (jU y e=false):=by unfold jU;rw [ht];rfl
  have HW:Hid (inb e.task 0 ((r.tasks.length:Int)-1)=false):=vv hno;clear ht hno
  go_enter Tryz.func84,Tryz.ntmps84
  go_wp2_with (go_at_call 25;refine (ci (jaN y e.run _ _ _ own ⟨_,rfl,jaA (upA (upA ah0 _) _) (upA (upA ah1 _) _)⟩) HR.out).mono ?_;rintro e1 w1 ⟨rfl,hb1⟩;obtain ⟨hc1,hf1⟩:=zU hb1)
  have hBw:Below w.heap.size w w1:=kr (((Below.refl _ _).alloc (by simp) _).alloc (by simp) _) hb1
  have p7':=jhj hBw p7;have q3:∀(d:Nat) (os:Array Obj),(grow (redrawn w1 d) os).cell? ⟨w.heap.size,3,none⟩=some (.slice (some ⟨b1,o1,none⟩) y.runs.length c):=fun d os=>cell_regrown ((hc1 _ _ (by simp;try omega)).trans (by simp [go_sem])) d os
  have r3:∀(d:Nat) (os:Array Obj),(grow (redrawn w1 d) os).cell? ⟨w.heap.size+1,3,none⟩=some (.int .i64 e.task):=fun d os=>cell_regrown ((hc1 _ _ (by simp;try omega)).trans (by simp [go_sem])) d os
  refine wp_region_quiet_below (by kernel_rfl) (by kernel_rfl) ?_
  repeat (go_big_quiet_step (exact Calls.regrown_of (cb (vu _ _ _ _) HW.out)))
  refine wpQuiet_nil ?_;intro _ hw';obtain ⟨⟨dq,osq⟩,hw''⟩:=hw';subst hw''
  go_wp2
  go_ret
  exact ⟨ka (by rw [HF.out]),kr hBw (below_regrown w1 dq osq)⟩
 ·obtain ⟨b2,o2,vk2,T2,rfl,-,hr2,-,-,hbl2,hx2⟩:=hdb j t htx
  clear hdb;obtain ⟨rfl,rfl⟩:=jiu hr2;have p0:w.cell? ⟨b2,o2+j*4,none⟩=some (.int .i64 t.state):=hx2 0 _ rfl;have hjl:j<r.tasks.length:=(List.getElem?_eq_some_iff.1 htx).1;clear hx2 hr2 htx;obtain ⟨e1,e2,e3,e4⟩:=e;simp only at hj HR ht;subst hj;have HW:Hid (inb (j:Int) 0 ((r.tasks.length:Int)-1)=true):=jaL (by omega)
  by_cases hst:t.state=2
  all_goals
   first|(have hs:(t.state==2)=true:=by simpa using hst)|(have hs:(t.state==2)=false:=by simpa using hst)
   have HF:=Lib.hid (show jU y ⟨e1,e2,e3,j⟩=(t.state==2) by unfold jU;rw [ht])
   clear ht hst
   go_enter Tryz.func84,Tryz.ntmps84
   go_wp2_with (go_at_call 25;refine (ci (jaN y e3 _ _ _ own ⟨_,rfl,jaA (upA (upA ah0 _) _) (upA (upA ah1 _) _)⟩) HR.out).mono ?_;rintro e1 w1 ⟨rfl,hb1⟩;obtain ⟨hc1,hf1⟩:=zU hb1)
   have hBw:Below w.heap.size w w1:=kr (((Below.refl _ _).alloc (by simp) _).alloc (by simp) _) hb1
   have p7':=jhj hBw p7;have q3:∀(d:Nat) (os:Array Obj),(grow (redrawn w1 d) os).cell? ⟨w.heap.size,3,none⟩=some (.slice (some ⟨b1,o1,none⟩) y.runs.length c):=fun d os=>cell_regrown ((hc1 _ _ (by simp;try omega)).trans (by simp [go_sem])) d os
   have r3:∀(d:Nat) (os:Array Obj),(grow (redrawn w1 d) os).cell? ⟨w.heap.size+1,3,none⟩=some (.int .i64 j):=fun d os=>cell_regrown ((hc1 _ _ (by simp;try omega)).trans (by simp [go_sem])) d os
   have p0':=jhj hBw p0;refine wp_region_quiet_below (by kernel_rfl) (by kernel_rfl) ?_
   repeat (go_big_quiet_step (exact Calls.regrown_of (cb (vu _ _ _ _) HW.out)))
   refine wpQuiet_nil ?_;intro _ hw';obtain ⟨⟨dq,osq⟩,hw''⟩:=hw';subst hw''
   go_wp2
   go_ret
   exact ⟨ka (by rw [HF.out,hs]),kr hBw (below_regrown w1 dq osq)⟩
theorem jqb (y:Yd) (e:En) (a b:Value) (S S':List Nat) (w:World) (own own':Bool) (ha:AggRep w own (jb y) a S) (hb:AggRep w own' (jk e) b S'):
 Calls Tryz.prog 75 #[a,b] w fun e1 w'=>e1=.returned (.bool (jU y e))∧Below w.heap.size w w':=by
 obtain ⟨_,rfl,ha⟩:=ha;obtain ⟨_,rfl,hb⟩:=hb;obtain ⟨rfl,rfl⟩:=jfx hb;obtain ⟨sv,rv,S1,S2,rfl,ah0,ah1,rfl⟩:=vR ha;clear ha hb;rcases vJ y e.run e.task with ⟨hr,ht⟩|⟨k,r,hr,hx,⟨hno,ht⟩|⟨j,t,hj,htx,ht⟩⟩
 ·have HR:=Lib.hid hr
  have HF:Hid (jU y e=false):=by unfold jU;rw [ht];rfl
  clear hr ht
  go_enter Tryz.func75,Tryz.ntmps75
  go_wp2_with (go_at_call 26;refine (ci (jaI y e.run _ _ _ own ⟨_,rfl,jaA (upA (upA ah0 _) _) (upA (upA ah1 _) _)⟩) HR.out).mono ?_;rintro e1 w1 ⟨rfl,hb1⟩;obtain ⟨hc1,hf1⟩:=zU hb1)
  refine wp_region_quiet_below (by kernel_rfl) (by kernel_rfl) ?_
  repeat (go_big_quiet_step (fail))
  refine wpQuiet_nil ?_;intro _ hw';obtain ⟨⟨dq,osq⟩,hw''⟩:=hw';subst hw''
  go_wp2
  go_ret
  exact ⟨ka (by rw [HF.out]),kr (kr (((Below.refl _ _).alloc (by simp) _).alloc (by simp) _) hb1) (below_regrown w1 dq osq)⟩
 all_goals
  have HR:=Lib.hid hr;obtain ⟨A,c,rfl,hc1,hc2,hca⟩:=Rep.open_ (size:=8) (enc:=jd) (fun _=>rfl) (by decide) ah1
  have hk:k<y.runs.length:=(List.getElem?_eq_some_iff.1 hx).1;unfold maxLen at hc2;have hl1:y.runs.length≤9223372036854775807:=by omega
  obtain ⟨b1,o1,vk1,T1,rfl,-,hr1,-,-,hbl,hx1⟩:=hca k r hx;clear hca;obtain ⟨v0,v1,U0,U1,rfl,-,hts,-⟩:=jaf hr1;have p7:=hx1 7 _ rfl;clear hx1 hr1;obtain ⟨B,d,rfl,hd1,hd2,hdb⟩:=Rep.open_ (size:=4) (enc:=jo) (fun _=>rfl) (by decide) hts
  unfold maxLen at hd2;have hl2:r.tasks.length≤9223372036854775807:=by omega
  have hk0:decide ((k:Int)≥0)=true:=by simp
  have hk1:decide ((k:Int)<0)=false:=by simp
  clear hr hx
 ·clear hdb
  have HF:Hid (jU y e=false):=by unfold jU;rw [ht];rfl
  have HW:Hid (inb e.task 0 ((r.tasks.length:Int)-1)=false):=vv hno;clear ht hno
  go_enter Tryz.func75,Tryz.ntmps75
  go_wp2_with (go_at_call 26;refine (ci (jaI y e.run _ _ _ own ⟨_,rfl,jaA (upA (upA ah0 _) _) (upA (upA ah1 _) _)⟩) HR.out).mono ?_;rintro e1 w1 ⟨rfl,hb1⟩;obtain ⟨hc1,hf1⟩:=zU hb1)
  have hBw:Below w.heap.size w w1:=kr (((Below.refl _ _).alloc (by simp) _).alloc (by simp) _) hb1
  have p7':=jhj hBw p7;have q3:∀(d:Nat) (os:Array Obj),(grow (redrawn w1 d) os).cell? ⟨w.heap.size,3,none⟩=some (.slice (some ⟨b1,o1,none⟩) y.runs.length c):=fun d os=>cell_regrown ((hc1 _ _ (by simp;try omega)).trans (by simp [go_sem])) d os
  have r3:∀(d:Nat) (os:Array Obj),(grow (redrawn w1 d) os).cell? ⟨w.heap.size+1,3,none⟩=some (.int .i64 e.task):=fun d os=>cell_regrown ((hc1 _ _ (by simp;try omega)).trans (by simp [go_sem])) d os
  refine wp_region_quiet_below (by kernel_rfl) (by kernel_rfl) ?_
  repeat (go_big_quiet_step (exact Calls.regrown_of (cb (zx _ _ _ _) HW.out)))
  refine wpQuiet_nil ?_;intro _ hw';obtain ⟨⟨dq,osq⟩,hw''⟩:=hw';subst hw''
  go_wp2
  go_ret
  exact ⟨ka (by rw [HF.out]),kr hBw (below_regrown w1 dq osq)⟩
 ·obtain ⟨b2,o2,vk2,T2,rfl,-,hr2,-,-,hbl2,hx2⟩:=hdb j t htx
  clear hdb;obtain ⟨rfl,rfl⟩:=jiu hr2;have p0:w.cell? ⟨b2,o2+j*4,none⟩=some (.int .i64 t.state):=hx2 0 _ rfl;have hjl:j<r.tasks.length:=(List.getElem?_eq_some_iff.1 htx).1;clear hx2 hr2 htx;obtain ⟨e1,e2,e3,e4⟩:=e;simp only at hj HR ht;subst hj;have HW:Hid (inb (j:Int) 0 ((r.tasks.length:Int)-1)=true):=jaL (by omega)
  by_cases hst:t.state=2
  all_goals
   first|(have hs:(t.state==2)=true:=by simpa using hst)|(have hs:(t.state==2)=false:=by simpa using hst)
   have HF:=Lib.hid (show jU y ⟨e1,e2,e3,j⟩=(t.state==2) by unfold jU;rw [ht])
   clear ht hst
   go_enter Tryz.func75,Tryz.ntmps75
   go_wp2_with (go_at_call 26;refine (ci (jaI y e3 _ _ _ own ⟨_,rfl,jaA (upA (upA ah0 _) _) (upA (upA ah1 _) _)⟩) HR.out).mono ?_;rintro e1 w1 ⟨rfl,hb1⟩;obtain ⟨hc1,hf1⟩:=zU hb1)
   have hBw:Below w.heap.size w w1:=kr (((Below.refl _ _).alloc (by simp) _).alloc (by simp) _) hb1
   have p7':=jhj hBw p7;have q3:∀(d:Nat) (os:Array Obj),(grow (redrawn w1 d) os).cell? ⟨w.heap.size,3,none⟩=some (.slice (some ⟨b1,o1,none⟩) y.runs.length c):=fun d os=>cell_regrown ((hc1 _ _ (by simp;try omega)).trans (by simp [go_sem])) d os
   have r3:∀(d:Nat) (os:Array Obj),(grow (redrawn w1 d) os).cell? ⟨w.heap.size+1,3,none⟩=some (.int .i64 j):=fun d os=>cell_regrown ((hc1 _ _ (by simp;try omega)).trans (by simp [go_sem])) d os
   have p0':=jhj hBw p0;refine wp_region_quiet_below (by kernel_rfl) (by kernel_rfl) ?_
   repeat (go_big_quiet_step (exact Calls.regrown_of (cb (zx _ _ _ _) HW.out)))
   refine wpQuiet_nil ?_;intro _ hw';obtain ⟨⟨dq,osq⟩,hw''⟩:=hw';subst hw''
   go_wp2
   go_ret
   exact ⟨ka (by rw [HF.out,hs]),kr hBw (below_regrown w1 dq osq)⟩
def jbn:C:=iS [iA 1 (.box 27 4 (.t 0)),iA 2 (.mov (.c (.slice none 0 0)))] (iS [iA 5 (.bsl 44 4 0 [] []),iA 3 (iM 5)] (.seq (iS [iA 4 (iN 0)] (.blk 0 (.loop (.seq (iS [iA 6 (iM 4),iA 7 (iF 2 1),iA 8 (iL 7),iA 9 (iG 8),iA 10 (iP .lss 3 6 9)] (iD 10 .skip (.exit 0))) (.seq (.blk 1 (.reg [iA 13 (iM 3),iA 14 (iF 2 1),iA 15 (iL 14),iA 16 (iM 4),iA 17 (iI 1 15 16),iA 18 (iL 17),iA 19 (.app 44 4 32 (.t 13) (.t 18)),iA 3 (iM 19)])) (.reg [iA 11 (iM 4),iA 12 (iQ .add 3 11 1),iA 4 (iM 12)])))))) (iS [iA 20 (iM 3),iA 2 (iM 20)] .ret)))
theorem jdu:fnC Tryz.prog Tryz.f74=some (jbn,[.t 2],21):=by kernel_rfl
def jbr:C:=iS [iA 1 (.box 27 4 (.t 0)),iA 2 (.mov (.c (.slice none 0 0)))] (iS [iA 3 (.mov (.c (.slice none 0 0)))] (.seq (iS [iA 6 (iF 2 1),iA 7 (iL 6),iA 8 (iG 7),iA 9 (iN 0)] (.blk 0 (.loop (iS [iA 10 (iP .lss 3 9 8)] (.seq (iD 10 .skip (.exit 0)) (.seq (.blk 1 (iS [iA 11 (iI 1 7 9),iA 12 (iL 11),iA 5 (iM 12)] (.reg [iA 13 (iM 3),iA 14 (iM 5),iA 15 (.app 44 4 32 (.t 13) (.t 14)),iA 3 (iM 15)]))) (.reg [iA 16 (iQ .add 3 9 1),iA 9 (iM 16)]))))))) (iS [iA 17 (iM 3),iA 2 (iM 17)] .ret)))
theorem jdy:fnC Tryz.prog Tryz.f79=some (jbr,[.t 2],18):=by kernel_rfl
theorem jnC (y:Yd) (e:En):kj Tryz.prog 84 [.agg (jb y),.agg (jk e)] (.c (.val (.bool (jU y e)))):=jo8 ⟨_,Tryz.func84,by kernel_rfl,by kernel_rfl⟩ fun w a b ⟨S,ha⟩ ⟨S2,hb⟩=>jmm y e a b S S2 w false false ha hb
theorem jnw (y:Yd) (e:En):kj Tryz.prog 75 [.agg (jb y),.agg (jk e)] (.c (.val (.bool (jU y e)))):=jo8 ⟨_,Tryz.func75,by kernel_rfl,by kernel_rfl⟩ fun w a b ⟨S,ha⟩ ⟨S2,hb⟩=>jqb y e a b S S2 w false false ha hb
theorem juP (l m:List En):D.sl 4 tEn (l.flatMap jk++m.flatMap jk)=jm (l++m):=by simp [jm]
theorem jbe (y:Yd) (ht:jJ y≤2000000):kj Tryz.prog 74 [.agg (jb y)] (.c (jm y.shelf.flatten)):=by
 refine jq Tryz.func74 jdu (by simp) ?_
 unfold jbn;have hl:=jqa ht;have hf:=zl ht;simp only [go_sem,jb];intro b η0;refine vB (fun s=>∃(k g ty:Nat) (η:js),k≤y.shelf.length∧(g=500∨g=1900)∧s.t 1=.c (.bp 100 0 b)∧s.o 100=.box b ty ((jb y).map fun x=>.a x.toRo)∧s.t 4=.c (.v (.int .i64 k))∧s.t 3=.c (.h g 0 [] (η []))∧s.o g=.loose (jm (y.shelf.take k).flatten) η) (fun s=>y.shelf.length-s.n 4) ?_ ?_
 ·exact ⟨0,500,_,η0,Nat.zero_le _,.inl rfl,by simp only [go_sem]<;>rfl,by simp only [go_sem]<;>rfl,by simp only [go_sem]<;>rfl,by simp only [go_sem]<;>rfl,by simp only [go_sem]<;>rfl⟩
 ·rintro s ⟨k,g,ty,η,hk,hg,h1,ho1,h4,h3,hob⟩
  by_cases hlt:k<y.shelf.length
  ·have hlt':(k:Int)<y.shelf.length:=by omega
   obtain ⟨x,hx⟩:=je hlt;have hw:IntKind.i64.wrap ((k:Int)+1)=((k+1:Nat):Int):=jf (by omega) (by omega)
   have hn:=jjy hx;have hle:=jcB y.shelf (k+1);rw [hn,List.length_append] at hle;generalize (y.shelf.take k).flatten=l at*;have h1':l.length+x.length≤maxLen:=by unfold maxLen;omega
   have h2':(l.length+x.length)*32≤140737488355328:=by omega
   rcases hg with rfl|rfl
   all_goals
    simp only [go_sem,h1,ho1,h4,h3,hob,jb,hlt,hlt',kO hx,h1',h2',hw,juP];intro η2;refine ⟨⟨k+1,1900,ty,η2,?_⟩,?_⟩
    ·and_intros<;>first|rfl|omega|exact .inr rfl|(rw [hn];rfl)
    ·rw [jev (k:=.i64) (n:=((k+1:Nat):Int)) (by simp only [go_sem]),jev h4];omega
  ·have hlt':¬(k:Int)<y.shelf.length:=by omega
   rw [List.take_of_length_le (by omega)] at hob
   rcases hg with rfl|rfl
   all_goals
    simp only [go_sem,h1,ho1,h4,h3,hob,jb,hlt']
theorem jgG (y:Yd) (ht:jJ y≤2000000):kj Tryz.prog 79 [.agg (jb y)] (.c (jm y.shelf.flatten)):=by
 refine jq Tryz.func79 jdy (by simp) ?_
 unfold jbr;have hl:=jqa ht;have hf:=zl ht;simp only [go_sem,jb];intro b;refine vB (fun s=>∃k:Nat,k≤y.shelf.length∧s.t 7=.c (.ro (ku y.shelf))∧s.t 8=.c (.v (.int .i64 y.shelf.length))∧s.t 9=.c (.v (.int .i64 k))∧(((y.shelf.take k).flatten=[]∧s.t 3=.c (.v (.slice none 0 0)))∨∃η:js,s.t 3=.c (.h 1500 0 [] (η []))∧s.o 1500=.loose (jm (y.shelf.take k).flatten) η)) (fun s=>y.shelf.length-s.n 9) ?_ ?_
 ·exact ⟨0,Nat.zero_le _,by simp only [go_sem]<;>rfl,by simp only [go_sem]<;>rfl,by simp only [go_sem]<;>rfl,.inl ⟨rfl,by simp only [go_sem]⟩⟩
 ·rintro s ⟨k,hk,h7,h8,h9,hg⟩
  by_cases hlt:k<y.shelf.length
  ·have hlt':(k:Int)<y.shelf.length:=by omega
   obtain ⟨x,hx⟩:=je hlt;have hw:IntKind.i64.wrap ((k:Int)+1)=((k+1:Nat):Int):=jf (by omega) (by omega)
   have hn:=jjy hx;have hle:=jcB y.shelf (k+1);rw [hn,List.length_append] at hle;generalize (y.shelf.take k).flatten=l at*;have h1':l.length+x.length≤maxLen:=by unfold maxLen;omega
   have h2':(l.length+x.length)*32≤140737488355328:=by omega
   rcases hg with ⟨hnil,h3⟩|⟨η,h3,hob⟩
   ·have h3':x.length≤maxLen:=by unfold maxLen;omega
    have h4':x.length*32≤140737488355328:=by omega
    rw [hnil,List.nil_append] at hn;simp only [go_sem,h7,h8,h9,h3,hlt,hlt',kO hx,hw,h3',h4',jpD];intro η2;refine ⟨⟨k+1,by omega,rfl,.inr ⟨η2,rfl,by rw [hn]⟩⟩,?_⟩
    rw [jev (k:=.i64) (n:=((k+1:Nat):Int)) (by simp only [go_sem]),jev h9];omega
   ·simp only [go_sem,h7,h8,h9,h3,hob,hlt,hlt',kO hx,hw,h1',h2',juP]
    intro η2;refine ⟨⟨k+1,by omega,rfl,.inr ⟨η2,rfl,by rw [hn]⟩⟩,?_⟩
    rw [jev (k:=.i64) (n:=((k+1:Nat):Int)) (by simp only [go_sem]),jev h9];omega
  ·have hlt':¬(k:Int)<y.shelf.length:=by omega
   have hk':y.shelf.take k=y.shelf:=List.take_of_length_le (by omega)
   rcases hg with ⟨hnil,h3⟩|⟨η,h3,hob⟩
   ·rw [hk'] at hnil
    simp only [go_sem,h7,h8,h9,h3,hlt',hnil]
   ·rw [hk'] at hob
    simp only [go_sem,h7,h8,h9,h3,hob,hlt']
open Go.RowKit Go.Sort Go.BigFrame
theorem jmF {w w1:World} {b o:Nat} {v:Value} (hB:Below w.heap.size w w1) (h:w.cell? ⟨b,o+0,none⟩=some v):w1.cell? ⟨b,o,none⟩=some v:=jv hB h
theorem jBu:∀(x:En),∀d∈jk x,∃u,d=.val u:=by intro y d hd;simp [jk] at hd;rcases hd with rfl|rfl|rfl|rfl<;>exact ⟨_,rfl⟩
theorem jml (y:Yd) (a:Value) (S:List Nat) (w:World) (own:Bool) (ha:AggRep w own (jb y) a S) (hsz:jJ y≤2000000):
 Calls Tryz.prog 79 #[a] w (jB5 w (jm (jaj y))):=by
 obtain ⟨_,rfl,ha⟩:=ha;obtain ⟨sv,rv,S1,S2,rfl,ah0,ah1,rfl⟩:=vR ha;clear ha ah1;obtain ⟨A,c,rfl,hc1,hc2,hca⟩:=Rep.open_ (size:=1) (enc:=fun es=>[jm es]) (fun _=>rfl) (by decide) ah0
 unfold maxLen at hc2;have hl1:y.shelf.length≤9223372036854775807:=by omega
 have hsm:y.shelf.flatten.length≤2000000:=by rw [qW];simp only [jJ,jbv] at hsz;omega
 go_enter Tryz.func79,Tryz.ntmps79
 go_wp2
 go_loopw [3,5,9] (fun v _ i wr=>∃k:Nat,k≤y.shelf.length∧i=.int .i64 k∧Fill jk 4 tEn w (y.shelf.take k).flatten v wr) (fun _ _ i _=>y.shelf.length-(intOf i).toNat)
 case atStart=>exact ⟨0,by omega,rfl,[],Rep.nil_ _ _ _,Fresh.nil _,(Below.refl _ _).alloc (by simp) _⟩
 case round=>
  obtain ⟨k,hk,rfl,S3,hrep,hF,hbel⟩:=hrel;by_cases hlt:k<y.shelf.length
  ·obtain ⟨es,hx⟩:=je hlt
   obtain ⟨b1,o1,vk1,T1,rfl,-,hr1,-,-,hb1,hx1⟩:=hca k es hx;clear hca;obtain ⟨u,_,U0,U1,rfl,rfl,hu,rfl,rfl⟩:=hr1;have p0:=(hbel.cell (p:=⟨b1,o1+k,none⟩) hb1).trans (by simpa using hx1 0 _ rfl:w.cell? ⟨b1,o1+k,none⟩=_)
   obtain ⟨A2,c2,news,rfl,hn1,hn2,hn3⟩:=Rep.src (enc:=jk) (size:=4) (fun _=>rfl) (by decide) jBu (hu.below hbel (Nat.le_refl _))
   have htk:=jbi hx
   have hle:(y.shelf.take (k+1)).flatten.length≤2000000:=by
    have:(y.shelf.take (k+1)).flatten.length≤y.shelf.flatten.length:=by rw [qW,qW];exact jal _ _ _
    omega
   rw [htk,List.length_append] at hle;have HK:=Lib.hid htk;clear hx hx1 htk
   go_wp2_with ((with_reducible refine joF (.tmp 13) (.tmp 14) ?_);refine ja1 (enc:=jk) (xs:=(y.shelf.take k).flatten) (ys:=es) rfl _ _ rfl slEn (fun _=>rfl) rfl hrep A2 es.length c2 news rfl hn1 rfl hn2 hn3 juR w.heap.size hbel.size (by simpa using hF) (by unfold maxLen;omega) (by omega) ?_;intro v' w' S' hrep' hF' ho' _)
   go_roundw
   case rel=>
    refine ⟨k+1,by omega,by go_num,S',?_,hF',hbel.trans (ho'.below (fun s hs=>hF.2 s hs) hbel.size)⟩
    rw [HK.out];exact hrep'
   case measure=>simp [intOf];omega
  ·obtain rfl:k=y.shelf.length:=by omega
   clear hca
   go_wp2
   go_ret
   exact ⟨_,S3,rfl,by rw [List.take_length] at hrep;exact hrep,hF,hbel⟩
theorem jlb (y:Yd) (a:Value) (S:List Nat) (w:World) (own:Bool) (ha:AggRep w own (jb y) a S) (hsz:jJ y≤2000000):
 Calls Tryz.prog 21 #[a] w fun e w'=>e=.returned (.int .i64 (kZ y))∧Below w.heap.size w w':=by
 obtain ⟨_,rfl,ha⟩:=ha;obtain ⟨sv,rv,S1,S2,rfl,ah0,ah1,rfl⟩:=vR ha;clear ha;obtain ⟨A,c,rfl,hc1,hc2,hca⟩:=Rep.open_ (size:=8) (enc:=jd) (fun _=>rfl) (by decide) ah1
 unfold maxLen at hc2;have hl1:y.runs.length≤9223372036854775807:=by omega
 have hlive:vT kK y.runs≤2000000:=by have:=jiS y.runs;simp only [jJ,ja5] at hsz;omega
 have hall:(jaj y).length≤2000000:=by unfold jaj;rw [qW];simp only [jJ,jbv] at hsz;omega
 obtain ⟨svA,svn,svc,rfl⟩:=Rep.form ah0;have hB0:=upB (Below.refl w.heap.size w) (.cells #[.int .i64 y.now,.int .i64 y.seq,.slice svA svn svc,.slice A y.runs.length c] tYd)
 go_enter Tryz.func21,Tryz.ntmps21
 go_wp2
 go_loopw [3,5,11] (fun n _ i wr=>∃k:Nat,k≤y.runs.length∧i=.int .i64 k∧n=.int .i64 (vT kK (y.runs.take k):Nat)∧Below (w.alloc (.cells #[.int .i64 y.now,.int .i64 y.seq,.slice svA svn svc,.slice A y.runs.length c] tYd)).heap.size (w.alloc (.cells #[.int .i64 y.now,.int .i64 y.seq,.slice svA svn svc,.slice A y.runs.length c] tYd)) wr) (fun _ _ i _=>y.runs.length-(intOf i).toNat)
 case atStart=>exact ⟨0,by omega,rfl,rfl,Below.refl _ _⟩
 case round=>
  obtain ⟨k,hk,rfl,rfl,hbel⟩:=hrel;have hB:=kr hB0 hbel;by_cases hlt:k<y.runs.length
  ·obtain ⟨x,hx⟩:=je hlt
   obtain ⟨b1,o1,vk1,T1,rfl,-,hr1,-,-,hb1,hx1⟩:=hca k x hx;clear hca;obtain ⟨v0,v1,U0,U1,rfl,hev,htv,-⟩:=jaf hr1;obtain ⟨_,_,_,rfl⟩:=Rep.form hev;obtain ⟨B,d,rfl,hd1,hd2,hdb⟩:=Rep.open_ (size:=4) (enc:=jo) (fun _=>rfl) (by decide) htv
   unfold maxLen at hd2;have hl2:x.tasks.length≤9223372036854775807:=by omega
   have p0:=jmF hB (hx1 0 _ rfl);have p1:=jv hB (hx1 1 _ rfl);have p2:=jv hB (hx1 2 _ rfl);have p3:=jv hB (hx1 3 _ rfl);have p4:=jv hB (hx1 4 _ rfl);have p5:=jv hB (hx1 5 _ rfl);have p6:=jv hB (hx1 6 _ rfl);have p7:=jv hB (hx1 7 _ rfl);have htk:=vS (tot:=kK) hx;have htl:=jal kK y.runs (k+1);have hlv:kK x=if x.state=1 then x.tasks.length else 0:=rfl
   have HK:=Lib.hid htk;have HL:=Lib.hid hlv;have hn0:(vT kK (y.runs.take k):Int)≤2000000:=by omega
   have hn1:x.tasks.length≤2000000∨x.state≠1:=by by_cases h:x.state=1;left;rw [if_pos h] at hlv;omega;exact .inr h
   clear hx hx1 hr1 htk hlv hdb htl;by_cases hst:x.state=1
   ·have hs:(x.state==1)=true:=by simpa using hst
    have hn2:x.tasks.length≤2000000:=by rcases hn1 with h|h;exact h;exact absurd hst h
    have HS:=Lib.hid hst;clear hst hn1
    go_wp2
    go_roundw
    case rel=>
     refine ⟨k+1,by omega,by go_num,?_,?_⟩
     ·rw [HK.out,HL.out,if_pos HS.out];go_num
     ·exact hbel.trans (((Below.refl _ _).alloc (Nat.le_refl _) _).mono hbel.size)
    case measure=>simp [intOf];omega
   ·have hs:(x.state==1)=false:=by simpa using hst
    have HS:=Lib.hid hst;clear hst hn1
    go_wp2
    go_roundw
    case rel=>
     refine ⟨k+1,by omega,by go_num,?_,?_⟩
     ·rw [HK.out,HL.out,if_neg HS.out];rfl
     ·exact hbel.trans (((Below.refl _ _).alloc (Nat.le_refl _) _).mono hbel.size)
    case measure=>simp [intOf];omega
  ·obtain rfl:k=y.runs.length:=by omega
   clear hca;rw [List.take_length];obtain ⟨hcr,hfr⟩:=zU hbel;have q0:wr.cell? ⟨w.heap.size,0,none⟩=some (.int .i64 y.now):=(hcr _ _ (by simp)).trans (by simp [go_sem])
   have q1:wr.cell? ⟨w.heap.size,1,none⟩=some (.int .i64 y.seq):=(hcr _ _ (by simp)).trans (by simp [go_sem])
   have q2:wr.cell? ⟨w.heap.size,2,none⟩=some (.slice svA svn svc):=(hcr _ _ (by simp)).trans (by simp [go_sem])
   have q3:wr.cell? ⟨w.heap.size,3,none⟩=some (.slice A y.runs.length c):=(hcr _ _ (by simp)).trans (by simp [go_sem])
   clear hcr hfr hbel
   go_wp2_with fail
   refine (jml y _ _ _ own ⟨_,rfl,jaA (up ah0 hB) (up ah1 hB)⟩ hsz).mono ?_;rintro e w1 ⟨ev,T1,rfl,hrv,-,hb1⟩;obtain ⟨B,d,rfl,hd1,hd2,hdb⟩:=Rep.open_ (size:=4) (enc:=jk) (fun _=>rfl) (by decide) hrv
   unfold maxLen at hd2;have hB1:=kr hB hb1
   replace q0:=jv hb1 q0
   replace q1:=jv hb1 q1
   replace q2:=jv hb1 q2
   replace q3:=jv hb1 q3
   clear hb1 hrv
   go_wp2_with fail
   go_loopw [3,7,27] (fun n _ i wr=>∃k:Nat,k≤(jaj y).length∧i=.int .i64 k∧n=.int .i64 ((vT kK y.runs:Int)+qs y ((jaj y).take k))∧Below w1.heap.size w1 wr) (fun _ _ i _=>(jaj y).length-(intOf i).toNat)
   case atStart=>exact ⟨0,by omega,rfl,by simp [qs],Below.refl _ _⟩
   case round=>
    obtain ⟨k,hk,rfl,rfl,hbel⟩:=hrel;have hB2:=kr hB1 hbel;by_cases hlt:k<(jaj y).length
    ·obtain ⟨x,hx⟩:=je hlt
     obtain ⟨b1,o1,vk1,T2,rfl,-,hr1,-,-,hb1,hx1⟩:=hdb k x hx;clear hdb;obtain ⟨rfl,rfl⟩:=jfx hr1;have p0:=jmF hbel (hx1 0 _ rfl);have p1:=jv hbel (hx1 1 _ rfl);have p2:=jv hbel (hx1 2 _ rfl);have p3:=jv hbel (hx1 3 _ rfl);have r0:=jv hbel q0;have r1:=jv hbel q1;have r2:=jv hbel q2;have r3:=jv hbel q3;have hltw:=World.block_lt_of_cell? wr _ r0;simp only at hltw;have hss:=jkK (y:=y) hx;have hst:=jkJ y (jaj y) (k+1);have hsa:=jlD y (jaj y);have hn0:(vT kK y.runs:Int)+qs y ((jaj y).take k)≤4000000:=by split at hss<;>omega
     have HS:=Lib.hid hss;clear hx hx1 hss hst hsa;by_cases hfr:jU y x=true
     ·have HF:=Lib.hid hfr
      clear hfr
      go_wp2_with (go_at_call 84;refine (cb (jmm y x _ _ _ _ _ own own ⟨_,rfl,jaA (upA (up ah0 hB2) _) (upA (up ah1 hB2) _)⟩ ⟨_,rfl,jwT _ _ x⟩) HF.out).mono ?_;rintro e w2 ⟨rfl,hb2⟩)
      go_roundw
      case rel=>
       refine ⟨k+1,by omega,by go_num,?_,kr (upB hbel _) hb2⟩
       rw [HS.out,if_pos HF.out];rfl
      case measure=>simp [intOf];omega
     ·have hfr':jU y x=false:=by simpa using hfr
      have HF:=Lib.hid hfr';clear hfr hfr'
      go_wp2_with (go_at_call 84;refine (cb (jmm y x _ _ _ _ _ own own ⟨_,rfl,jaA (upA (up ah0 hB2) _) (upA (up ah1 hB2) _)⟩ ⟨_,rfl,jwT _ _ x⟩) HF.out).mono ?_;rintro e w2 ⟨rfl,hb2⟩)
      go_roundw
      case rel=>
       refine ⟨k+1,by omega,by go_num,?_,kr (upB hbel _) hb2⟩
       rw [HS.out,HF.out];simp;omega
      case measure=>simp [intOf];omega
    ·obtain rfl:k=(jaj y).length:=by omega
     clear hdb;rw [List.take_length];have hsl:kZ y=(vT kK y.runs:Int)+qs y (jaj y):=rfl;have HSL:=Lib.hid hsl;clear hsl
     go_wp2
     go_ret
     exact ⟨jgx HSL.out.symm,hB2⟩
open Go.RowKit Go.Sort Go.BigFrame
theorem jho (y:Yd) (a b:List En):qs y (a++b)=qs y a+qs y b:=by simp [qs]
theorem jkQ (y:Yd) (a:Value) (S:List Nat) (w:World) (own:Bool) (ha:AggRep w own (jb y) a S) (hsz:jJ y≤2000000):
 Calls Tryz.prog 132 #[a] w fun e w'=>e=.returned (.int .i64 (kZ y))∧Below w.heap.size w w':=by
 obtain ⟨_,rfl,ha⟩:=ha;obtain ⟨sv,rv,S1,S2,rfl,ah0,ah1,rfl⟩:=vR ha;clear ha;obtain ⟨A,c,rfl,hc1,hc2,hca⟩:=Rep.open_ (size:=8) (enc:=jd) (fun _=>rfl) (by decide) ah1
 obtain ⟨C,f,rfl,hf1,hf2,hfa⟩:=Rep.open_ (size:=1) (enc:=fun es=>[jm es]) (fun _=>rfl) (by decide) ah0
 unfold maxLen at hc2 hf2;have hl1:y.runs.length≤9223372036854775807:=by omega
 have hl2:y.shelf.length≤9223372036854775807:=by omega
 have hlive:vT kK y.runs≤2000000:=by have:=jiS y.runs;simp only [jJ,ja5] at hsz;omega
 have hall:(jaj y).length≤2000000:=by unfold jaj;rw [qW];simp only [jJ,jbv] at hsz;omega
 have hB0:=upB (Below.refl w.heap.size w) (.cells #[.int .i64 y.now,.int .i64 y.seq,.slice C y.shelf.length f,.slice A y.runs.length c] tYd)
 go_enter Tryz.func132,Tryz.ntmps132
 go_wp2
 go_loop [3,4] (fun n i=>∃k:Nat,k≤y.runs.length∧i=.int .i64 k∧n=.int .i64 (vT kK (y.runs.take k):Nat)) (fun _ i=>y.runs.length-(intOf i).toNat)
 case atStart=>exact ⟨0,by omega,rfl,rfl⟩
 case round=>
  obtain ⟨k,hk,rfl,rfl⟩:=hrel;by_cases hlt:k<y.runs.length
  ·obtain ⟨x,hx⟩:=je hlt
   obtain ⟨b1,o1,vk1,T1,rfl,-,hr1,-,-,hb1,hx1⟩:=hca k x hx;clear hca hfa;obtain ⟨v0,v1,U0,U1,rfl,hev,htv,-⟩:=jaf hr1;obtain ⟨B,d,rfl,hd1,hd2,hdb⟩:=Rep.open_ (size:=4) (enc:=jo) (fun _=>rfl) (by decide) htv
   unfold maxLen at hd2;have hl3:x.tasks.length≤9223372036854775807:=by omega
   have p6:=hx1 6 _ rfl;have p7:=hx1 7 _ rfl;have htk:=vS (tot:=kK) hx;have htl:=jal kK y.runs (k+1);have hlv:kK x=if x.state=1 then x.tasks.length else 0:=rfl
   have HK:=Lib.hid htk;have HL:=Lib.hid hlv;have hn0:(vT kK (y.runs.take k):Int)≤2000000:=by omega
   have hn1:x.tasks.length≤2000000∨x.state≠1:=by by_cases h:x.state=1;left;rw [if_pos h] at hlv;omega;exact .inr h
   clear hx hx1 hr1 htk hlv hdb htl;by_cases hst:x.state=1
   ·have hs:(x.state==1)=true:=by simpa using hst
    have hn2:x.tasks.length≤2000000:=by rcases hn1 with h|h;exact h;exact absurd hst h
    have HS:=Lib.hid hst;clear hst hn1
    go_wp2
    go_round
    case rel=>
     refine ⟨k+1,by omega,by go_num,?_⟩
     rw [HK.out,HL.out,if_pos HS.out];go_num
    case measure=>simp [intOf];omega
   ·have hs:(x.state==1)=false:=by simpa using hst
    have HS:=Lib.hid hst;clear hst hn1
    go_wp2
    go_round
    case rel=>
     refine ⟨k+1,by omega,by go_num,?_⟩
     rw [HK.out,HL.out,if_neg HS.out];rfl
    case measure=>simp [intOf];omega
  ·obtain rfl:k=y.runs.length:=by omega
   clear hca;rw [List.take_length]
   go_wp2
   go_loopw [3,5,6] (fun n i _ wr=>∃k:Nat,k≤y.shelf.length∧i=.int .i64 k∧n=.int .i64 ((vT kK y.runs:Int)+qs y (y.shelf.take k).flatten)∧Below (w.alloc (.cells #[.int .i64 y.now,.int .i64 y.seq,.slice C y.shelf.length f,.slice A y.runs.length c] tYd)).heap.size (w.alloc (.cells #[.int .i64 y.now,.int .i64 y.seq,.slice C y.shelf.length f,.slice A y.runs.length c] tYd)) wr) (fun _ i _ _=>y.shelf.length-(intOf i).toNat)
   case atStart=>exact ⟨0,by omega,rfl,by simp [qs],Below.refl _ _⟩
   case round=>
    obtain ⟨k,hk,rfl,rfl,hbel⟩:=hrel;obtain ⟨wo,rfl⟩:∃wo:World,wo=wr:=⟨_,rfl⟩;have hB2:=kr hB0 hbel;obtain ⟨hcr,hfr⟩:=zU hbel;have q0:wo.cell? ⟨w.heap.size,0,none⟩=some (.int .i64 y.now):=(hcr _ _ (by simp)).trans (by simp [go_sem])
    have q1:wo.cell? ⟨w.heap.size,1,none⟩=some (.int .i64 y.seq):=(hcr _ _ (by simp)).trans (by simp [go_sem])
    have q2:wo.cell? ⟨w.heap.size,2,none⟩=some (.slice C y.shelf.length f):=(hcr _ _ (by simp)).trans (by simp [go_sem])
    have q3:wo.cell? ⟨w.heap.size,3,none⟩=some (.slice A y.runs.length c):=(hcr _ _ (by simp)).trans (by simp [go_sem])
    clear hcr hfr;by_cases hlt:k<y.shelf.length
    ·obtain ⟨es,hx⟩:=je hlt
     obtain ⟨b1,o1,vk1,T2,rfl,-,hr1,-,-,hb1,hx1⟩:=hfa k es hx;clear hfa;obtain ⟨u,_,U0,U1,rfl,rfl,hu,rfl,rfl⟩:=hr1;have p0:w.cell? ⟨b1,o1+k,none⟩=some u:=by simpa using hx1 0 _ rfl
     have hfs:=jbi hx
     have hse:∀j,qs y (y.shelf.take k).flatten+qs y (es.take j)≤2000000:=fun j=>by
      have h1:=jkJ y es j;have h2:=jho y (y.shelf.take k).flatten es;rw [←hfs] at h2;have h3:=jlD y (y.shelf.take (k+1)).flatten;have h4:(y.shelf.take (k+1)).flatten.length≤(jaj y).length:=by unfold jaj;rw [qW,qW];exact jal _ _ _
      omega
     obtain ⟨B,d,rfl,hd1,hd2,hdb⟩:=Rep.open_ (size:=4) (enc:=jk) (fun _=>rfl) (by decide) hu
     unfold maxLen at hd2;have hl3:es.length≤9223372036854775807:=by omega
     have p0':=jv hB2 p0;have HFS:=Lib.hid hfs;clear hx hx1 hfs
     go_wp2
     go_loopw [3,6] (fun n i wr=>∃j:Nat,j≤es.length∧i=.int .i64 j∧n=.int .i64 ((vT kK y.runs:Int)+qs y (y.shelf.take k).flatten+qs y (es.take j))∧Below wo.heap.size wo wr) (fun _ i _=>es.length-(intOf i).toNat)
     case atStart=>exact ⟨0,by omega,rfl,by simp [qs],Below.refl _ _⟩
     case round=>
      obtain ⟨j,hj,rfl,rfl,hbe⟩:=hrel;have hB3:=kr hB2 hbe;have r2:=jv hbe q2;have p0'':=jv hbe p0';by_cases hjl:j<es.length
      ·obtain ⟨x,hx⟩:=je hjl
       obtain ⟨b2,o2,vk2,T3,rfl,-,hr2,-,-,hb2,hx2⟩:=hdb j x hx;clear hdb;obtain ⟨rfl,rfl⟩:=jfx hr2;have hsj:=hse j;have hss:=jkK (y:=y) hx;have HS:=Lib.hid hss;have c0:=cell_regrown (jmF hB3 (hx2 0 _ rfl));have c1:=cell_regrown (jv hB3 (hx2 1 _ rfl));have c2:=cell_regrown (jv hB3 (hx2 2 _ rfl));have c3:=cell_regrown (jv hB3 (hx2 3 _ rfl));have g0:=cell_regrown (jv hbe q0);have g1:=cell_regrown (jv hbe q1);have g2:=cell_regrown r2;have g3:=cell_regrown (jv hbe q3);have gp:=cell_regrown p0'';have hcall:=fun (W:World) (hW:Below wr.heap.size wr W)=>jqb y x _ _ _ _ W own own ⟨_,rfl,jaA (up (up ah0 hB3) hW) (up (up ah1 hB3) hW)⟩ ⟨_,rfl,jwT _ _ x⟩
       clear hx hx2 hss hse;by_cases hfr:jU y x=true
       ·have HF:=Lib.hid hfr
        clear hfr
        go_wp2
        refine wp_region_quiet_below (by kernel_rfl) (by kernel_rfl) ?_
        repeat (go_big_quiet_step (exact Calls.regrown_of (cb (hcall _ (below_regrown wr _ _)) HF.out)))
        refine wpQuiet_nil ?_;intro _ hw';obtain ⟨⟨dq,osq⟩,hw''⟩:=hw';subst hw''
        go_wp2
        go_roundw
        case rel=>
         refine ⟨j+1,by omega,by go_num,?_,kr hbe (below_regrown wr dq osq)⟩
         rw [HS.out,if_pos HF.out];rfl
        case measure=>simp [intOf];omega
       ·have hfr':jU y x=false:=by simpa using hfr
        have HF:=Lib.hid hfr';clear hfr hfr'
        go_wp2
        refine wp_region_quiet_below (by kernel_rfl) (by kernel_rfl) ?_
        repeat (go_big_quiet_step (exact Calls.regrown_of (cb (hcall _ (below_regrown wr _ _)) HF.out)))
        refine wpQuiet_nil ?_;intro _ hw';obtain ⟨⟨dq,osq⟩,hw''⟩:=hw';subst hw''
        go_wp2
        go_roundw
        case rel=>
         refine ⟨j+1,by omega,by go_num,?_,kr hbe (below_regrown wr dq osq)⟩
         rw [HS.out,HF.out];simp;omega
        case measure=>simp [intOf];omega
      ·obtain rfl:j=es.length:=by omega
       clear hdb hse;rw [List.take_length]
       go_wp2
       go_roundw
       case rel=>
        refine ⟨k+1,by omega,by go_num,?_,kr hbel hbe⟩
        rw [HFS.out,jho];simp;omega
       case measure=>simp [intOf];omega
    ·obtain rfl:k=y.shelf.length:=by omega
     clear hfa;rw [List.take_length];have hsl:kZ y=(vT kK y.runs:Int)+qs y y.shelf.flatten:=rfl;have HSL:=Lib.hid hsl;clear hsl
     go_wp2
     go_ret
     exact ⟨jgx HSL.out.symm,hB2⟩
open Go.RowKit Go.Sort Go.BigFrame
theorem jp9 {y:Yd} (h:jJ y≤2000000):0≤kZ y∧kZ y≤4000000:=by
 have hlive:vT kK y.runs≤2000000:=by have:=jiS y.runs;simp only [jJ,ja5] at h;omega
 have hall:(jaj y).length≤2000000:=by unfold jaj;rw [qW];simp only [jJ,jbv] at h;omega
 have hst:=jlD y (jaj y);unfold kZ;omega
theorem jsp (y:Yd) (p:Pl) (a b:Value) (S S':List Nat) (w:World) (own own':Bool) (ha:AggRep w own (jb y) a S) (hb:AggRep w own' (ja p) b S') (hsz:jJ y≤2000000):
 Calls Tryz.prog 46 #[a,b] w fun e1 w'=>e1=.returned (.bool (zm y p))∧Below w.heap.size w w':=by
 obtain ⟨_,rfl,ha⟩:=ha;obtain ⟨_,rfl,hb⟩:=hb;obtain ⟨ev,rfl,hev⟩:=jdd hb;obtain ⟨sv,rv,S1,S2,rfl,ah0,ah1,rfl⟩:=vR ha;clear ha hb;obtain ⟨A,c,rfl,hc1,hc2,-⟩:=Rep.open_ (size:=8) (enc:=jd) (fun _=>rfl) (by decide) ah1
 unfold maxLen at hc2;have hl1:y.runs.length≤9223372036854775807:=by omega
 have hsl:=jp9 hsz
 have hcall:∀w',Below w.heap.size w w'→Calls Tryz.prog 21 #[.agg #[.int .i64 y.now,.int .i64 y.seq,sv,.slice A y.runs.length c]] w' fun e w''=>e=.returned (.int .i64 (kZ y))∧Below w'.heap.size w' w'':=
  fun w' hw=>jlb y _ _ w' own ⟨_,rfl,jaA (up ah0 hw) (up ah1 hw)⟩ hsz
 have hRF:zm y p=(decide (y.runs.length<8)&&(decide (0≤p.tasks∧p.tasks≤12)&&(decide (kZ y+p.tasks≤40)&&decide (y.seq≤1000000000-1000-p.tasks)))):=rfl;have HB:=Lib.hid hRF;clear hRF;generalize kZ y=s at*;obtain ⟨bo,hbo⟩:∃bo,bo=zm y p:=⟨_,rfl⟩;rw [←hbo];have HRF:Hid (bo=(decide (y.runs.length<8)&&(decide (0≤p.tasks∧p.tasks≤12)&&(decide (s+p.tasks≤40)&&decide (y.seq≤1000000000-1000-p.tasks))))):=Lib.hid (hbo.trans HB.out);clear hbo HB;obtain ⟨w2,hw2⟩:∃w2,w2=((w.alloc (.cells #[.int .i64 y.now,.int .i64 y.seq,sv,.slice A y.runs.length c] tYd)).alloc (.cells #[.int .i64 p.prio,.int .i64 p.most,.int .i64 p.wait,.int .i64 p.tasks,ev] tPl)):=⟨_,rfl⟩;have hB2:Below w.heap.size w w2:=by subst hw2;exact upB (upB (Below.refl w.heap.size w) _) _
 have q3:∀(d:Nat) (os:Array Obj),(grow (redrawn w2 d) os).cell? ⟨w.heap.size,3,none⟩=some (.slice A y.runs.length c):=fun d os=>cell_regrown (by subst hw2;simp [go_sem]) d os
 have r3:∀(d:Nat) (os:Array Obj),(grow (redrawn w2 d) os).cell? ⟨w.heap.size+1,3,none⟩=some (.int .i64 p.tasks):=fun d os=>cell_regrown (by subst hw2;simp [go_sem]) d os
 have q0:∀(d:Nat) (os:Array Obj),(grow (redrawn w2 d) os).cell? ⟨w.heap.size,0,none⟩=some (.int .i64 y.now):=fun d os=>cell_regrown (by subst hw2;simp [go_sem]) d os
 have q1:∀(d:Nat) (os:Array Obj),(grow (redrawn w2 d) os).cell? ⟨w.heap.size,1,none⟩=some (.int .i64 y.seq):=fun d os=>cell_regrown (by subst hw2;simp [go_sem]) d os
 have q2:∀(d:Nat) (os:Array Obj),(grow (redrawn w2 d) os).cell? ⟨w.heap.size,2,none⟩=some sv:=fun d os=>cell_regrown (by subst hw2;simp [go_sem]) d os
 by_cases h1:y.runs.length<8;rotate_left
 ·have g1:decide ((y.runs.length:Int)<8)=false:=by simp;omega
  have HD:=Lib.hid (show bo=false by rw [HRF.out];simp only [Bool.and_eq_false_iff,decide_eq_false_iff_not];omega)
  clear h1 HRF
  go_enter Tryz.func46,Tryz.ntmps46
  go_wp2
  rw [←hw2];clear hw2;refine wp_region_quiet_below (by kernel_rfl) (by kernel_rfl) ?_
  repeat (go_big_quiet_step (first|exact Calls.regrown_of (cb (vu _ _ _ _) HW.out)|exact Calls.regrown_of (hcall _ (kr hB2 (below_regrown w2 _ _)))))
  refine wpQuiet_nil ?_;intro _ hw';obtain ⟨⟨dq,osq⟩,hw''⟩:=hw';subst hw''
  go_wp2
  go_ret
  exact ⟨ka (by rw [HD.out]),kr hB2 (below_regrown w2 dq osq)⟩
 have g1:decide ((y.runs.length:Int)<8)=true:=by simp;omega
 by_cases h2:0≤p.tasks∧p.tasks≤12;rotate_left
 ·have HD:=Lib.hid (show bo=false by rw [HRF.out];simp only [Bool.and_eq_false_iff,decide_eq_false_iff_not];omega)
  have HW:Hid (inb p.tasks 0 12=false):=vv h2;clear h1 h2 HRF
  go_enter Tryz.func46,Tryz.ntmps46
  go_wp2
  rw [←hw2];clear hw2;refine wp_region_quiet_below (by kernel_rfl) (by kernel_rfl) ?_
  repeat (go_big_quiet_step (first|exact Calls.regrown_of (cb (vu _ _ _ _) HW.out)|exact Calls.regrown_of (hcall _ (kr hB2 (below_regrown w2 _ _)))))
  refine wpQuiet_nil ?_;intro _ hw';obtain ⟨⟨dq,osq⟩,hw''⟩:=hw';subst hw''
  go_wp2
  go_ret
  exact ⟨ka (by rw [HD.out]),kr hB2 (below_regrown w2 dq osq)⟩
 have HW:Hid (inb p.tasks 0 12=true):=jaL h2;obtain ⟨h2a,h2b⟩:=h2;by_cases h3:s+p.tasks≤40;rotate_left
 ·have g3:decide (s+p.tasks≤40)=false:=by simp;omega
  have HD:=Lib.hid (show bo=false by rw [HRF.out];simp only [Bool.and_eq_false_iff,decide_eq_false_iff_not];omega)
  clear h1 h3 HRF
  go_enter Tryz.func46,Tryz.ntmps46
  go_wp2
  rw [←hw2];clear hw2;refine wp_region_quiet_below (by kernel_rfl) (by kernel_rfl) ?_
  repeat (go_big_quiet_step (first|exact Calls.regrown_of (cb (vu _ _ _ _) HW.out)|exact Calls.regrown_of (hcall _ (kr hB2 (below_regrown w2 _ _)))))
  refine wpQuiet_nil ?_;intro _ hw';obtain ⟨⟨dq,osq⟩,hw''⟩:=hw';subst hw''
  go_wp2
  go_ret
  exact ⟨ka (by rw [HD.out]),kr hB2 (below_regrown w2 dq osq)⟩
 have g3:decide (s+p.tasks≤40)=true:=by simp;omega
 by_cases h4:y.seq≤999999000-p.tasks
 ·have g4:decide (y.seq≤999999000-p.tasks)=true:=by simp;omega
  have HD:=Lib.hid (show bo=true by rw [HRF.out];simp only [Bool.and_eq_true,decide_eq_true_eq];omega)
  clear h1 h3 h4 HRF
  go_enter Tryz.func46,Tryz.ntmps46
  go_wp2
  rw [←hw2];clear hw2;refine wp_region_quiet_below (by kernel_rfl) (by kernel_rfl) ?_
  repeat (go_big_quiet_step (first|exact Calls.regrown_of (cb (vu _ _ _ _) HW.out)|exact Calls.regrown_of (hcall _ (kr hB2 (below_regrown w2 _ _)))))
  refine wpQuiet_nil ?_;intro _ hw';obtain ⟨⟨dq,osq⟩,hw''⟩:=hw';subst hw''
  go_wp2
  go_ret
  exact ⟨ka (by rw [HD.out]),kr hB2 (below_regrown w2 dq osq)⟩
 ·have g4:decide (y.seq≤999999000-p.tasks)=false:=by simp;omega
  have HD:=Lib.hid (show bo=false by rw [HRF.out];simp only [Bool.and_eq_false_iff,decide_eq_false_iff_not];omega)
  clear h1 h3 h4 HRF
  go_enter Tryz.func46,Tryz.ntmps46
  go_wp2
  rw [←hw2];clear hw2;refine wp_region_quiet_below (by kernel_rfl) (by kernel_rfl) ?_
  repeat (go_big_quiet_step (first|exact Calls.regrown_of (cb (vu _ _ _ _) HW.out)|exact Calls.regrown_of (hcall _ (kr hB2 (below_regrown w2 _ _)))))
  refine wpQuiet_nil ?_;intro _ hw';obtain ⟨⟨dq,osq⟩,hw''⟩:=hw';subst hw''
  go_wp2
  go_ret
  exact ⟨ka (by rw [HD.out]),kr hB2 (below_regrown w2 dq osq)⟩
theorem jrL (y:Yd) (p:Pl) (a b:Value) (S S':List Nat) (w:World) (own own':Bool) (ha:AggRep w own (jb y) a S) (hb:AggRep w own' (ja p) b S') (hsz:jJ y≤2000000):
 Calls Tryz.prog 113 #[a,b] w fun e1 w'=>e1=.returned (.bool (zm y p))∧Below w.heap.size w w':=by
 obtain ⟨_,rfl,ha⟩:=ha;obtain ⟨_,rfl,hb⟩:=hb;obtain ⟨ev,rfl,hev⟩:=jdd hb;obtain ⟨sv,rv,S1,S2,rfl,ah0,ah1,rfl⟩:=vR ha;clear ha hb;obtain ⟨A,c,rfl,hc1,hc2,-⟩:=Rep.open_ (size:=8) (enc:=jd) (fun _=>rfl) (by decide) ah1
 unfold maxLen at hc2;have hl1:y.runs.length≤9223372036854775807:=by omega
 have hsl:=jp9 hsz
 have hcall:∀w',Below w.heap.size w w'→Calls Tryz.prog 132 #[.agg #[.int .i64 y.now,.int .i64 y.seq,sv,.slice A y.runs.length c]] w' fun e w''=>e=.returned (.int .i64 (kZ y))∧Below w'.heap.size w' w'':=
  fun w' hw=>jkQ y _ _ w' own ⟨_,rfl,jaA (up ah0 hw) (up ah1 hw)⟩ hsz
 have hRF:zm y p=(decide (y.runs.length<8)&&(decide (0≤p.tasks∧p.tasks≤12)&&(decide (kZ y+p.tasks≤40)&&decide (y.seq≤1000000000-1000-p.tasks)))):=rfl;have HB:=Lib.hid hRF;clear hRF;generalize kZ y=s at*;obtain ⟨bo,hbo⟩:∃bo,bo=zm y p:=⟨_,rfl⟩;rw [←hbo];have HRF:Hid (bo=(decide (y.runs.length<8)&&(decide (0≤p.tasks∧p.tasks≤12)&&(decide (s+p.tasks≤40)&&decide (y.seq≤1000000000-1000-p.tasks))))):=Lib.hid (hbo.trans HB.out);clear hbo HB;obtain ⟨w2,hw2⟩:∃w2,w2=((w.alloc (.cells #[.int .i64 y.now,.int .i64 y.seq,sv,.slice A y.runs.length c] tYd)).alloc (.cells #[.int .i64 p.prio,.int .i64 p.most,.int .i64 p.wait,.int .i64 p.tasks,ev] tPl)):=⟨_,rfl⟩;have hB2:Below w.heap.size w w2:=by subst hw2;exact upB (upB (Below.refl w.heap.size w) _) _
 have q3:∀(d:Nat) (os:Array Obj),(grow (redrawn w2 d) os).cell? ⟨w.heap.size,3,none⟩=some (.slice A y.runs.length c):=fun d os=>cell_regrown (by subst hw2;simp [go_sem]) d os
 have r3:∀(d:Nat) (os:Array Obj),(grow (redrawn w2 d) os).cell? ⟨w.heap.size+1,3,none⟩=some (.int .i64 p.tasks):=fun d os=>cell_regrown (by subst hw2;simp [go_sem]) d os
 have q0:∀(d:Nat) (os:Array Obj),(grow (redrawn w2 d) os).cell? ⟨w.heap.size,0,none⟩=some (.int .i64 y.now):=fun d os=>cell_regrown (by subst hw2;simp [go_sem]) d os
 have q1:∀(d:Nat) (os:Array Obj),(grow (redrawn w2 d) os).cell? ⟨w.heap.size,1,none⟩=some (.int .i64 y.seq):=fun d os=>cell_regrown (by subst hw2;simp [go_sem]) d os
 have q2:∀(d:Nat) (os:Array Obj),(grow (redrawn w2 d) os).cell? ⟨w.heap.size,2,none⟩=some sv:=fun d os=>cell_regrown (by subst hw2;simp [go_sem]) d os
 by_cases h1:y.runs.length<8;rotate_left
 ·have g1:decide ((y.runs.length:Int)<8)=false:=by simp;omega
  have HD:=Lib.hid (show bo=false by rw [HRF.out];simp only [Bool.and_eq_false_iff,decide_eq_false_iff_not];omega)
  clear h1 HRF
  go_enter Tryz.func113,Tryz.ntmps113
  go_wp2
  rw [←hw2];clear hw2;refine wp_region_quiet_below (by kernel_rfl) (by kernel_rfl) ?_
  repeat (go_big_quiet_step (first|exact Calls.regrown_of (cb (zx _ _ _ _) HW.out)|exact Calls.regrown_of (hcall _ (kr hB2 (below_regrown w2 _ _)))))
  refine wpQuiet_nil ?_;intro _ hw';obtain ⟨⟨dq,osq⟩,hw''⟩:=hw';subst hw''
  go_wp2
  go_ret
  exact ⟨ka (by rw [HD.out]),kr hB2 (below_regrown w2 dq osq)⟩
 have g1:decide ((y.runs.length:Int)<8)=true:=by simp;omega
 by_cases h2:0≤p.tasks∧p.tasks≤12;rotate_left
 ·have HD:=Lib.hid (show bo=false by rw [HRF.out];simp only [Bool.and_eq_false_iff,decide_eq_false_iff_not];omega)
  have HW:Hid (inb p.tasks 0 12=false):=vv h2;clear h1 h2 HRF
  go_enter Tryz.func113,Tryz.ntmps113
  go_wp2
  rw [←hw2];clear hw2;refine wp_region_quiet_below (by kernel_rfl) (by kernel_rfl) ?_
  repeat (go_big_quiet_step (first|exact Calls.regrown_of (cb (zx _ _ _ _) HW.out)|exact Calls.regrown_of (hcall _ (kr hB2 (below_regrown w2 _ _)))))
  refine wpQuiet_nil ?_;intro _ hw';obtain ⟨⟨dq,osq⟩,hw''⟩:=hw';subst hw''
  go_wp2
  go_ret
  exact ⟨ka (by rw [HD.out]),kr hB2 (below_regrown w2 dq osq)⟩
 have HW:Hid (inb p.tasks 0 12=true):=jaL h2;obtain ⟨h2a,h2b⟩:=h2;by_cases h3:s+p.tasks≤40;rotate_left
 ·have g3:decide (s+p.tasks≤40)=false:=by simp;omega
  have HD:=Lib.hid (show bo=false by rw [HRF.out];simp only [Bool.and_eq_false_iff,decide_eq_false_iff_not];omega)
  clear h1 h3 HRF
  go_enter Tryz.func113,Tryz.ntmps113
  go_wp2
  rw [←hw2];clear hw2;refine wp_region_quiet_below (by kernel_rfl) (by kernel_rfl) ?_
  repeat (go_big_quiet_step (first|exact Calls.regrown_of (cb (zx _ _ _ _) HW.out)|exact Calls.regrown_of (hcall _ (kr hB2 (below_regrown w2 _ _)))))
  refine wpQuiet_nil ?_;intro _ hw';obtain ⟨⟨dq,osq⟩,hw''⟩:=hw';subst hw''
  go_wp2
  go_ret
  exact ⟨ka (by rw [HD.out]),kr hB2 (below_regrown w2 dq osq)⟩
 have g3:decide (s+p.tasks≤40)=true:=by simp;omega
 by_cases h4:y.seq≤999999000-p.tasks
 ·have g4:decide (y.seq≤999999000-p.tasks)=true:=by simp;omega
  have HD:=Lib.hid (show bo=true by rw [HRF.out];simp only [Bool.and_eq_true,decide_eq_true_eq];omega)
  clear h1 h3 h4 HRF
  go_enter Tryz.func113,Tryz.ntmps113
  go_wp2
  rw [←hw2];clear hw2;refine wp_region_quiet_below (by kernel_rfl) (by kernel_rfl) ?_
  repeat (go_big_quiet_step (first|exact Calls.regrown_of (cb (zx _ _ _ _) HW.out)|exact Calls.regrown_of (hcall _ (kr hB2 (below_regrown w2 _ _)))))
  refine wpQuiet_nil ?_;intro _ hw';obtain ⟨⟨dq,osq⟩,hw''⟩:=hw';subst hw''
  go_wp2
  go_ret
  exact ⟨ka (by rw [HD.out]),kr hB2 (below_regrown w2 dq osq)⟩
 ·have g4:decide (y.seq≤999999000-p.tasks)=false:=by simp;omega
  have HD:=Lib.hid (show bo=false by rw [HRF.out];simp only [Bool.and_eq_false_iff,decide_eq_false_iff_not];omega)
  clear h1 h3 h4 HRF
  go_enter Tryz.func113,Tryz.ntmps113
  go_wp2
  rw [←hw2];clear hw2;refine wp_region_quiet_below (by kernel_rfl) (by kernel_rfl) ?_
  repeat (go_big_quiet_step (first|exact Calls.regrown_of (cb (zx _ _ _ _) HW.out)|exact Calls.regrown_of (hcall _ (kr hB2 (below_regrown w2 _ _)))))
  refine wpQuiet_nil ?_;intro _ hw';obtain ⟨⟨dq,osq⟩,hw''⟩:=hw';subst hw''
  go_wp2
  go_ret
  exact ⟨ka (by rw [HD.out]),kr hB2 (below_regrown w2 dq osq)⟩
open Go.RowKit Go.Sort Go.BigFrame
theorem jwD (y:Yd) (id task tri:Int) (a:Value) (S:List Nat) (w:World) (own:Bool) (ha:AggRep w own (jb y) a S):
 Calls Tryz.prog 53 #[a,.int .i64 id,.int .i64 task,.int .i64 tri] w fun e1 w'=>e1=.returned (.bool (qK y id task tri))∧Below w.heap.size w w':=by
 obtain ⟨_,rfl,ha⟩:=ha;obtain ⟨sv,rv,S1,S2,rfl,ah0,ah1,rfl⟩:=vR ha;clear ha;rcases vJ y id task with ⟨hr,ht⟩|⟨k,r,hr,hx,⟨hno,ht⟩|⟨j,t,hj,htx,ht⟩⟩
 ·have HR:=Lib.hid hr
  have HF:Hid (qK y id task tri=false):=by unfold qK;rw [ht];rfl
  clear hr ht
  go_enter Tryz.func53,Tryz.ntmps53
  go_wp2_with (go_at_call 25;refine (ci (jaN y id _ _ _ own ⟨_,rfl,jaA (upA ah0 _) (upA ah1 _)⟩) HR.out).mono ?_;rintro e1 w1 ⟨rfl,hb1⟩;obtain ⟨hc1,hf1⟩:=zU hb1)
  go_ret
  exact ⟨ka (by rw [HF.out]),kr ((Below.refl _ _).alloc (by simp) _) hb1⟩
 all_goals
  have HR:=Lib.hid hr;obtain ⟨A,c,rfl,hc1,hc2,hca⟩:=Rep.open_ (size:=8) (enc:=jd) (fun _=>rfl) (by decide) ah1
  have hk:k<y.runs.length:=(List.getElem?_eq_some_iff.1 hx).1;unfold maxLen at hc2;have hl1:y.runs.length≤9223372036854775807:=by omega
  obtain ⟨b1,o1,vk1,T1,rfl,-,hr1,-,-,hbl,hx1⟩:=hca k r hx;clear hca;obtain ⟨v0,v1,U0,U1,rfl,-,hts,-⟩:=jaf hr1;have p7:=hx1 7 _ rfl;clear hx1 hr1;obtain ⟨B,d,rfl,hd1,hd2,hdb⟩:=Rep.open_ (size:=4) (enc:=jo) (fun _=>rfl) (by decide) hts
  unfold maxLen at hd2;have hl2:r.tasks.length≤9223372036854775807:=by omega
  have hk0:decide ((k:Int)≥0)=true:=by simp
  have hk1:decide ((k:Int)<0)=false:=by simp
  clear hr hx
 ·clear hdb
  have HF:Hid (qK y id task tri=false):=by unfold qK;rw [ht];rfl
  have HW:Hid (inb task 0 ((r.tasks.length:Int)-1)=false):=vv hno;clear ht hno
  go_enter Tryz.func53,Tryz.ntmps53
  go_wp2_with fail
  refine (ci (jaN y id _ _ _ own ⟨_,rfl,jaA (upA ah0 _) (upA ah1 _)⟩) HR.out).mono ?_;rintro e1 w1 ⟨rfl,hb1⟩;obtain ⟨hc1,hf1⟩:=zU hb1;have hBw:Below w.heap.size w w1:=kr ((Below.refl _ _).alloc (by simp) _) hb1
  have p7':=jv hBw p7;have q3:w1.cell? ⟨w.heap.size,3,none⟩=some (.slice (some ⟨b1,o1,none⟩) y.runs.length c):=(hc1 _ _ (by simp)).trans (by simp [go_sem])
  go_wp2_with (go_at_call 62;refine (cb (vu _ _ _ _) HW.out).mono ?_;rintro e2 w2 ⟨rfl,hb2⟩;obtain ⟨hc2,hf2⟩:=zU hb2)
  go_ret
  exact ⟨ka (by rw [HF.out]),kr hBw hb2⟩
 ·obtain ⟨b2,o2,vk2,T2,rfl,-,hr2,-,-,hbl2,hx2⟩:=hdb j t htx
  clear hdb;obtain ⟨rfl,rfl⟩:=jiu hr2;have p0:w.cell? ⟨b2,o2+j*4,none⟩=some (.int .i64 t.state):=hx2 0 _ rfl;have p1:=hx2 1 _ rfl;have p2:=hx2 2 _ rfl;have p3:=hx2 3 _ rfl;have hjl:j<r.tasks.length:=(List.getElem?_eq_some_iff.1 htx).1;clear hx2 hr2 htx;subst hj;have HW:Hid (inb (j:Int) 0 ((r.tasks.length:Int)-1)=true):=jaL (by omega)
  by_cases hst:t.state=3
  ·have hs:(t.state==3)=true:=by simpa using hst
   by_cases htr:t.tri=tri
   all_goals
    first|(have hs2:(t.tri==tri)=true:=by simpa using htr)|(have hs2:(t.tri==tri)=false:=by simpa using htr)
    have HF:=Lib.hid (show qK y id j tri=(t.tri==tri) by unfold qK;rw [ht];simp [hs])
    clear ht hst htr
    go_enter Tryz.func53,Tryz.ntmps53
    go_wp2_with fail
    refine (ci (jaN y id _ _ _ own ⟨_,rfl,jaA (upA ah0 _) (upA ah1 _)⟩) HR.out).mono ?_;rintro e1 w1 ⟨rfl,hb1⟩;obtain ⟨hc1,hf1⟩:=zU hb1;have hBw:Below w.heap.size w w1:=kr ((Below.refl _ _).alloc (by simp) _) hb1
    have p7':=jv hBw p7;have q3:w1.cell? ⟨w.heap.size,3,none⟩=some (.slice (some ⟨b1,o1,none⟩) y.runs.length c):=(hc1 _ _ (by simp)).trans (by simp [go_sem])
    go_wp2_with fail
    refine (cb (vu _ _ _ _) HW.out).mono ?_;rintro e2 w2 ⟨rfl,hb2⟩;obtain ⟨hc2,hf2⟩:=zU hb2
    replace p7':=jv hb2 p7'
    replace q3:=jv hb2 q3
    have p0':=jv hb2 (jv hBw p0);have p1':=jv hb2 (jv hBw p1);have p2':=jv hb2 (jv hBw p2);have p3':=jv hb2 (jv hBw p3)
    go_wp2
    go_ret
    exact ⟨ka (by rw [HF.out,hs2]),by repeat (first|(with_reducible exact kr hBw hb2)|((with_reducible refine Below.alloc ?_ ?_ _);rotate_left;focus (exact (kr hBw hb2).size)))⟩
  ·have hs:(t.state==3)=false:=by simpa using hst
   have HF:=Lib.hid (show qK y id j tri=false by unfold qK;rw [ht];simp [hs])
   clear ht hst
   go_enter Tryz.func53,Tryz.ntmps53
   go_wp2_with fail
   refine (ci (jaN y id _ _ _ own ⟨_,rfl,jaA (upA ah0 _) (upA ah1 _)⟩) HR.out).mono ?_;rintro e1 w1 ⟨rfl,hb1⟩;obtain ⟨hc1,hf1⟩:=zU hb1;have hBw:Below w.heap.size w w1:=kr ((Below.refl _ _).alloc (by simp) _) hb1
   have p7':=jv hBw p7;have q3:w1.cell? ⟨w.heap.size,3,none⟩=some (.slice (some ⟨b1,o1,none⟩) y.runs.length c):=(hc1 _ _ (by simp)).trans (by simp [go_sem])
   go_wp2_with fail
   refine (cb (vu _ _ _ _) HW.out).mono ?_;rintro e2 w2 ⟨rfl,hb2⟩;obtain ⟨hc2,hf2⟩:=zU hb2
   replace p7':=jv hb2 p7'
   replace q3:=jv hb2 q3
   have p0':=jv hb2 (jv hBw p0);have p1':=jv hb2 (jv hBw p1);have p2':=jv hb2 (jv hBw p2);have p3':=jv hb2 (jv hBw p3)
   go_wp2
   go_ret
   exact ⟨ka (by rw [HF.out]),by repeat (first|(with_reducible exact kr hBw hb2)|((with_reducible refine Below.alloc ?_ ?_ _);rotate_left;focus (exact (kr hBw hb2).size)))⟩
theorem jv0 (y:Yd) (id task tri:Int) (a:Value) (S:List Nat) (w:World) (own:Bool) (ha:AggRep w own (jb y) a S):
 Calls Tryz.prog 200 #[a,.int .i64 id,.int .i64 task,.int .i64 tri] w fun e1 w'=>e1=.returned (.bool (qK y id task tri))∧Below w.heap.size w w':=by
 obtain ⟨_,rfl,ha⟩:=ha;obtain ⟨sv,rv,S1,S2,rfl,ah0,ah1,rfl⟩:=vR ha;clear ha;rcases vJ y id task with ⟨hr,ht⟩|⟨k,r,hr,hx,⟨hno,ht⟩|⟨j,t,hj,htx,ht⟩⟩
 ·have HR:=Lib.hid hr
  have HF:Hid (qK y id task tri=false):=by unfold qK;rw [ht];rfl
  clear hr ht
  go_enter Tryz.func200,Tryz.ntmps200
  go_wp2_with (go_at_call 26;refine (ci (jaI y id _ _ _ own ⟨_,rfl,jaA (upA ah0 _) (upA ah1 _)⟩) HR.out).mono ?_;rintro e1 w1 ⟨rfl,hb1⟩;obtain ⟨hc1,hf1⟩:=zU hb1)
  go_ret
  exact ⟨ka (by rw [HF.out]),kr ((Below.refl _ _).alloc (by simp) _) hb1⟩
 all_goals
  have HR:=Lib.hid hr;obtain ⟨A,c,rfl,hc1,hc2,hca⟩:=Rep.open_ (size:=8) (enc:=jd) (fun _=>rfl) (by decide) ah1
  have hk:k<y.runs.length:=(List.getElem?_eq_some_iff.1 hx).1;unfold maxLen at hc2;have hl1:y.runs.length≤9223372036854775807:=by omega
  obtain ⟨b1,o1,vk1,T1,rfl,-,hr1,-,-,hbl,hx1⟩:=hca k r hx;clear hca;obtain ⟨v0,v1,U0,U1,rfl,-,hts,-⟩:=jaf hr1;have p7:=hx1 7 _ rfl;clear hx1 hr1;obtain ⟨B,d,rfl,hd1,hd2,hdb⟩:=Rep.open_ (size:=4) (enc:=jo) (fun _=>rfl) (by decide) hts
  unfold maxLen at hd2;have hl2:r.tasks.length≤9223372036854775807:=by omega
  have hk0:decide ((k:Int)≥0)=true:=by simp
  have hk1:decide ((k:Int)<0)=false:=by simp
  clear hr hx
 ·clear hdb
  have HF:Hid (qK y id task tri=false):=by unfold qK;rw [ht];rfl
  have HW:Hid (inb task 0 ((r.tasks.length:Int)-1)=false):=vv hno;clear ht hno
  go_enter Tryz.func200,Tryz.ntmps200
  go_wp2_with fail
  refine (ci (jaI y id _ _ _ own ⟨_,rfl,jaA (upA ah0 _) (upA ah1 _)⟩) HR.out).mono ?_;rintro e1 w1 ⟨rfl,hb1⟩;obtain ⟨hc1,hf1⟩:=zU hb1;have hBw:Below w.heap.size w w1:=kr ((Below.refl _ _).alloc (by simp) _) hb1
  have p7':=jv hBw p7;have q3:w1.cell? ⟨w.heap.size,3,none⟩=some (.slice (some ⟨b1,o1,none⟩) y.runs.length c):=(hc1 _ _ (by simp)).trans (by simp [go_sem])
  go_wp2_with (go_at_call 68;refine (cb (zx _ _ _ _) HW.out).mono ?_;rintro e2 w2 ⟨rfl,hb2⟩;obtain ⟨hc2,hf2⟩:=zU hb2)
  go_ret
  exact ⟨ka (by rw [HF.out]),kr hBw hb2⟩
 ·obtain ⟨b2,o2,vk2,T2,rfl,-,hr2,-,-,hbl2,hx2⟩:=hdb j t htx
  clear hdb;obtain ⟨rfl,rfl⟩:=jiu hr2;have p0:w.cell? ⟨b2,o2+j*4,none⟩=some (.int .i64 t.state):=hx2 0 _ rfl;have p1:=hx2 1 _ rfl;have p2:=hx2 2 _ rfl;have p3:=hx2 3 _ rfl;have hjl:j<r.tasks.length:=(List.getElem?_eq_some_iff.1 htx).1;clear hx2 hr2 htx;subst hj;have HW:Hid (inb (j:Int) 0 ((r.tasks.length:Int)-1)=true):=jaL (by omega)
  by_cases hst:t.state=3
  ·have hs:(t.state==3)=true:=by simpa using hst
   by_cases htr:t.tri=tri
   all_goals
    first|(have hs2:(t.tri==tri)=true:=by simpa using htr)|(have hs2:(t.tri==tri)=false:=by simpa using htr)
    have HF:=Lib.hid (show qK y id j tri=(t.tri==tri) by unfold qK;rw [ht];simp [hs])
    clear ht hst htr
    go_enter Tryz.func200,Tryz.ntmps200
    go_wp2_with fail
    refine (ci (jaI y id _ _ _ own ⟨_,rfl,jaA (upA ah0 _) (upA ah1 _)⟩) HR.out).mono ?_;rintro e1 w1 ⟨rfl,hb1⟩;obtain ⟨hc1,hf1⟩:=zU hb1;have hBw:Below w.heap.size w w1:=kr ((Below.refl _ _).alloc (by simp) _) hb1
    have p7':=jv hBw p7;have q3:w1.cell? ⟨w.heap.size,3,none⟩=some (.slice (some ⟨b1,o1,none⟩) y.runs.length c):=(hc1 _ _ (by simp)).trans (by simp [go_sem])
    go_wp2_with fail
    refine (cb (zx _ _ _ _) HW.out).mono ?_;rintro e2 w2 ⟨rfl,hb2⟩;obtain ⟨hc2,hf2⟩:=zU hb2
    replace p7':=jv hb2 p7'
    replace q3:=jv hb2 q3
    have p0':=jv hb2 (jv hBw p0);have p1':=jv hb2 (jv hBw p1);have p2':=jv hb2 (jv hBw p2);have p3':=jv hb2 (jv hBw p3)
    go_wp2
    go_ret
    exact ⟨ka (by rw [HF.out,hs2]),by repeat (first|(with_reducible exact kr hBw hb2)|((with_reducible refine Below.alloc ?_ ?_ _);rotate_left;focus (exact (kr hBw hb2).size)))⟩
  ·have hs:(t.state==3)=false:=by simpa using hst
   have HF:=Lib.hid (show qK y id j tri=false by unfold qK;rw [ht];simp [hs])
   clear ht hst
   go_enter Tryz.func200,Tryz.ntmps200
   go_wp2_with fail
   refine (ci (jaI y id _ _ _ own ⟨_,rfl,jaA (upA ah0 _) (upA ah1 _)⟩) HR.out).mono ?_;rintro e1 w1 ⟨rfl,hb1⟩;obtain ⟨hc1,hf1⟩:=zU hb1;have hBw:Below w.heap.size w w1:=kr ((Below.refl _ _).alloc (by simp) _) hb1
   have p7':=jv hBw p7;have q3:w1.cell? ⟨w.heap.size,3,none⟩=some (.slice (some ⟨b1,o1,none⟩) y.runs.length c):=(hc1 _ _ (by simp)).trans (by simp [go_sem])
   go_wp2_with fail
   refine (cb (zx _ _ _ _) HW.out).mono ?_;rintro e2 w2 ⟨rfl,hb2⟩;obtain ⟨hc2,hf2⟩:=zU hb2
   replace p7':=jv hb2 p7'
   replace q3:=jv hb2 q3
   have p0':=jv hb2 (jv hBw p0);have p1':=jv hb2 (jv hBw p1);have p2':=jv hb2 (jv hBw p2);have p3':=jv hb2 (jv hBw p3)
   go_wp2
   go_ret
   exact ⟨ka (by rw [HF.out]),by repeat (first|(with_reducible exact kr hBw hb2)|((with_reducible refine Below.alloc ?_ ?_ _);rotate_left;focus (exact (kr hBw hb2).size)))⟩
end Go.Proofs.YtcehjhiglmifjaaGreat
