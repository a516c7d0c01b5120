/- Parts. -/
import Derived.Test.YtmnpailnelmpiaaQNotesT
import Derived.Lib.ConvBytes
import Derived.Lib.AtoiErrMem
set_option linter.unusedSimpArgs false
set_option linter.unusedVariables false
set_option maxHeartbeats 8000000
set_option maxRecDepth 100000
namespace Go.Proofs.Ytmnpailnelmpiaa
open Go.RowKit Go.Sort
def jcD:C:=iS [iA 1 (.box 42 4 (.t 0)),iA 2 (.alloc 42 [.int .i64 0,.int .i64 0,.slice none 0 0,.slice none 0 0])] (iS [iA 6 (iF 0 1),iA 7 (iL 6),iA 8 (iF 1 1),iA 9 (iL 8),iA 10 (.bld [.int .i64 0,.int .i64 0,.slice none 0 0,.slice none 0 0] [(0,1,.t 7),(1,1,.t 9)]),iA 3 (.alloc 42 [.int .i64 0,.int .i64 0,.slice none 0 0,.slice none 0 0]),iC (.st 4 [none,none,some (1,74),some (8,78)] (.t 3) (.t 10))] (.seq (iS [iA 4 (iN 0)] (.blk 0 (.loop (.seq (iS [iA 11 (iM 4),iA 12 (iF 2 1),iA 13 (iL 12),iA 14 (iG 13),iA 15 (iP .lss 3 11 14)] (iD 15 .skip (.exit 0))) (.seq (.blk 1 (.dreg (T.pure 0 (iA 18 (iF 2 3)) (T.pure 1 (iA 19 (iL 18)) (T.pure 3 (iA 21 (iF 2 1)) (T.pure 4 (iA 22 (iL 21)) (T.pure 5 (iA 23 (iM 4)) (T.pure 6 (iA 24 (iI 1 22 23)) (T.pure 7 (iA 25 (iL 24)) (T.alt (iA 20 (.bsl 82 4 0 [] [])) [7,6,5,4,3,1,0] (T.alt (iA 26 (.app 82 4 32 (.t 20) (.t 25))) [1,0] (T.alt (iA 27 (.bsl 74 1 1 [some (4,82)] [(0,1,.t 26)])) [1,0] (T.alt (iA 28 (.app 74 1 24 (.t 19) (.t 27))) [] (T.pure 11 (iA 29 (iF 2 3)) (T.alt (iC (.st 1 [some (1,74)] (.t 29) (.t 28))) [] T.done T.stop)) T.stop) T.stop) T.stop) T.stop)))))))))) (.reg [iA 16 (iM 4),iA 17 (iQ .add 3 16 1),iA 4 (iM 17)])))))) (.seq (iS [iA 5 (iN 0)] (.blk 2 (.loop (.seq (iS [iA 30 (iM 5),iA 31 (iF 3 1),iA 32 (iL 31),iA 33 (iG 32),iA 34 (iP .lss 3 30 33)] (iD 34 .skip (.exit 2))) (.seq (.blk 3 (.dreg (T.pure 0 (iA 37 (iF 3 3)) (T.pure 1 (iA 38 (iL 37)) (T.pure 2 (iA 39 (iF 3 1)) (T.pure 3 (iA 40 (iL 39)) (T.pure 4 (iA 41 (iM 5)) (T.pure 5 (iA 42 (iI 8 40 41)) (T.pure 6 (iA 43 (iT 8 42)) (T.alt (iA 44 (.call 157 [.t 43])) [1,0] (T.alt (iA 45 (.bsl 78 8 1 [none,none,none,none,none,some (2,103),none,some (4,84)] [(0,8,.t 44)])) [1,0] (T.alt (iA 46 (.app 78 8 96 (.t 38) (.t 45))) [] (T.pure 10 (iA 47 (iF 3 3)) (T.alt (iC (.st 1 [some (8,78)] (.t 47) (.t 46))) [] T.done T.stop)) T.stop) T.stop) T.stop)))))))))) (.reg [iA 35 (iM 5),iA 36 (iQ .add 3 35 1),iA 5 (iM 36)])))))) (iS [iA 48 (iT 4 3),iC (.st 4 [none,none,some (1,74),some (8,78)] (.t 2) (.t 48))] .ret))))
theorem jfb:fnC Try.prog Try.f143=some (jcD,[.cell 2 true 4],49):=by kernel_rfl
abbrev ve (b ty:Nat) (now seq:Int) (sh:List (List En)) (e1:jm) (rn:List Rn) (e2:jm):Ob:=.box b ty [.a (.v (.int .i64 now)),.a (.v (.int .i64 seq)),.own (kL sh) e1,.own (jN rn) e2]
abbrev ZYd (b ty:Nat):Ob:=.box b ty [.a (.v (.int .i64 0)),.a (.v (.int .i64 0)),.a (.v (.slice none 0 0)),.a (.v (.slice none 0 0))]
theorem ky (l:List En):D.sl 4 tEn (l.flatMap jy)=jv l:=rfl
theorem jwx (l:List (List En)) (x:List En):D.sl 1 jyd (l.flatMap (fun es=>[jv es])++[jv x])=kL (l++[x]):=by simp [kL]
theorem juf (l:List Rn) (r:Rn):D.sl 8 tRn (l.flatMap jd++[.val (.int .i64 r.id),.val (.int .i64 r.plan.prio),.val (.int .i64 r.plan.most),.val (.int .i64 r.plan.wait),.val (.int .i64 r.plan.tasks),jt r.plan.edges,.val (.int .i64 r.state),jI r.tasks])=jN (l++[r]):=by simp [jN,jd,ja]
theorem jiS {y:Yd} (ht:jS y≤2000000) {l:List En} (h:l∈y.shelf):l.length≤4000000:=by
 obtain ⟨k,hk,rfl⟩:=List.getElem_of_mem h;have h1:=List.getElem?_eq_getElem hk;have h2:=vZ (tot:=jaG) h1;have h3:=jaj jaG y.shelf (k+1);simp only [jS,jeJ,jaG] at*;omega
theorem jhc {y:Yd} (ht:jS y≤2000000) {r:Rn} (h:r∈y.runs):r.plan.edges.length≤4000000∧r.tasks.length≤4000000:=by
 obtain ⟨k,hk,rfl⟩:=List.getElem_of_mem h;have h1:=List.getElem?_eq_getElem hk;have h2:=vZ (tot:=za) h1;have h3:=jaj za y.runs (k+1);simp only [jS,jfJ,za,jeK] at*;omega
theorem jT (y:Yd) (ht:jS y≤2000000):kl Try.prog 143 [.agg (jc y)] (.agg (jc y)):=by
 refine jr Try.func143 jfb (by simp) ?_
 unfold jcD;have hsl:y.shelf.length≤2000000:=by simp only [jS,jeJ] at ht;omega
 have hrl:=jmE ht;simp only [go_sem,jc];intro b1 b2 b3;refine jq (fun i:Nat×jm=>St.of [(1,Bx 100 b1),(2,Bx 200 b2),(3,Bx 300 b3),(4,Ni i.1)] [(100,Bi b1 _ (jc y)),(200,ZYd b2 _),(300,.box b3 _ [.a (.v (.int .i64 y.now)),.a (.v (.int .i64 y.seq)),.own (kL (y.shelf.take i.1)) i.2,.a (.v (.slice none 0 0))])]) (fun i=>i.1≤y.shelf.length) (fun i=>y.shelf.length-i.1) (0,vT) (by (try dsimp only);first|omega|(simp;done)|(and_intros<;>first|omega|simp)) (jl [some 100,some 200,some 300] (by simp only [go_sem,jc,List.take_zero]<;>and_intros<;>first|rfl|assumption|trivial)) ?_
 rintro ⟨k,η⟩ hk;dsimp only at hk;by_cases hlt:k<y.shelf.length
 ·have hlt':(k:Int)<y.shelf.length:=by omega
  have h0k:(k:Int)≥0:=by omega
  obtain ⟨l,hl⟩:=je hlt;have hll:=jiS ht (List.mem_of_getElem? hl);have hw:IntKind.i64.wrap ((k:Int)+1)=((k+1:Nat):Int):=jg (by omega) (by omega)
  have hm1:k+1≤maxLen:=by unfold maxLen;omega
  have hm2:(k+1)*24≤140737488355328:=by omega
  have hm3:l.length≤maxLen:=by unfold maxLen;omega
  have hm4:l.length*32≤140737488355328:=by omega
  have htk:(y.shelf.take k).length=k:=by rw [List.length_take];omega
  have hts:y.shelf.take (k+1)=y.shelf.take k++[l]:=by rw [List.take_add_one,hl];rfl
  generalize y.shelf.take k=M at*;simp only [go_sem,jc,hlt,hlt',h0k,vm hl,hm3,hm4,ky];intro η5 η6;simp only [go_sem,htk,hm1,hm2,hm3,hm4,ky,jwx];intro η7 η8;simp only [go_sem,hw];exact ⟨(k+1,η8),by (try dsimp only);first|omega|assumption|(and_intros<;>first|omega|assumption),(jl [some 100,some 200,some 300] (by simp only [go_sem,jc,hts]<;>and_intros<;>first|rfl|assumption|trivial)),by (try dsimp only);omega⟩
 have hlt':¬(k:Int)<y.shelf.length:=by omega
 rw [List.take_of_length_le (by omega)]
 simp only [go_sem,jc,hlt'];refine jq (fun i:Nat×jm=>St.of [(1,Bx 100 b1),(2,Bx 200 b2),(3,Bx 300 b3),(5,Ni i.1)] [(100,Bi b1 _ (jc y)),(200,ZYd b2 _),(300,ve b3 _ y.now y.seq y.shelf η (y.runs.take i.1) i.2)]) (fun i=>i.1≤y.runs.length) (fun i=>y.runs.length-i.1) (0,vT) (by (try dsimp only);first|omega|(simp;done)|(and_intros<;>first|omega|simp)) (jl [some 100,some 200,some 300] (by simp only [go_sem,jc,List.take_zero]<;>and_intros<;>first|rfl|assumption|trivial)) ?_
 rintro ⟨j,η2⟩ hj;dsimp only at hj;by_cases hjl:j<y.runs.length
 ·have hjl':(j:Int)<y.runs.length:=by omega
  have h0j:(j:Int)≥0:=by omega
  obtain ⟨r,hr⟩:=je hjl;have hw:IntKind.i64.wrap ((j:Int)+1)=((j+1:Nat):Int):=jg (by omega) (by omega)
  have hm1:j+1≤maxLen:=by unfold maxLen;omega
  have hm2:(j+1)*96≤140737488355328:=by omega
  have hjk:(y.runs.take j).length=j:=by rw [List.length_take];omega
  have hjs:y.runs.take (j+1)=y.runs.take j++[r]:=by rw [List.take_add_one,hr];rfl
  have hrb:=jhc ht (List.mem_of_getElem? hr);generalize y.runs.take j=M at*;simp only [go_sem,jc,hjl,hjl',h0j,kr hr,jd,ja];refine jb (qw r hrb.1 hrb.2) (by simp only [go_sem,jc,jd,ja]) fun η=>?_
  simp only [go_sem,jc,jd,ja];simp only [go_sem,hjk,hm1,hm2,juf];intro η7 η8;simp only [go_sem,hw];exact ⟨(j+1,η8),by (try dsimp only);first|omega|assumption|(and_intros<;>first|omega|assumption),(jl [some 100,some 200,some 300] (by simp only [go_sem,jc,hjs]<;>and_intros<;>first|rfl|assumption|trivial)),by (try dsimp only);omega⟩
 have hjl':¬(j:Int)<y.runs.length:=by omega
 rw [List.take_of_length_le (by omega)]
 simp only [go_sem,jc,hjl']
open Go.RowKit Go.Sort Go.BigFrame
theorem jfD {w w1:World} {b o:Nat} {v:Value} (hB:Below w.heap.size w w1) (h:w.cell? ⟨b,o,none⟩=some v) (d:Nat) (os:Array Obj):(grow (redrawn w1 d) os).cell? ⟨b,o,none⟩=some v:=
 cell_regrown ((hB.cell (p:=⟨b,o,none⟩) (World.block_lt_of_cell? w _ h)).trans h) d os
theorem jQ {w w1:World} {b o:Nat} {v:Value} (hB:Below w.heap.size w w1) (h:w.cell? ⟨b,o,none⟩=some v):w1.cell? ⟨b,o,none⟩=some v:=
 (hB.cell (p:=⟨b,o,none⟩) (World.block_lt_of_cell? w _ h)).trans h
def inb (n low high:Int):Bool:=decide (low≤n∧n≤high)
theorem jb6 {n low high:Int} (h:low≤n∧n≤high):inb n low high=true:=decide_eq_true h
theorem vF {n low high:Int} (h:¬(low≤n∧n≤high)):inb n low high=false:=decide_eq_false h
theorem jdT (a b c:Int) (w:World):Calls Try.prog 61 #[.int .i64 a,.int .i64 b,.int .i64 c] w fun e w'=>e=.returned (.bool (inb a b c))∧Below w.heap.size w w':=by
 by_cases h1:b≤a
 ·by_cases h2:a≤c
  ·have H:Hid (inb a b c=true):=jb6 ⟨h1,h2⟩
   go_enter Try.func61,Try.ntmps61
   go_wp2
   go_ret
   exact ⟨jY H.out.symm,Below.refl _ _⟩
  ·have H:Hid (inb a b c=false):=vF fun h=>h2 h.2
   go_enter Try.func61,Try.ntmps61
   go_wp2
   go_ret
   exact ⟨jY H.out.symm,Below.refl _ _⟩
 ·have H:Hid (inb a b c=false):=vF fun h=>h1 h.1
  go_enter Try.func61,Try.ntmps61
  go_wp2
  go_ret
  exact ⟨jY H.out.symm,Below.refl _ _⟩
theorem vp (a b c:Int) (w:World):Calls Try.prog 66 #[.int .i64 a,.int .i64 b,.int .i64 c] w fun e w'=>e=.returned (.bool (inb a b c))∧Below w.heap.size w w':=by
 by_cases h1:b≤a
 ·by_cases h2:a≤c
  ·have H:Hid (inb a b c=true):=jb6 ⟨h1,h2⟩
   go_enter Try.func66,Try.ntmps66
   go_wp2
   go_ret
   exact ⟨jY H.out.symm,Below.refl _ _⟩
  ·have H:Hid (inb a b c=false):=vF fun h=>h2 h.2
   go_enter Try.func66,Try.ntmps66
   go_wp2
   go_ret
   exact ⟨jY H.out.symm,Below.refl _ _⟩
 ·have H:Hid (inb a b c=false):=vF fun h=>h1 h.1
  go_enter Try.func66,Try.ntmps66
  go_wp2
  go_ret
  exact ⟨jY H.out.symm,Below.refl _ _⟩
theorem juM (y:Yd) (e:En) (a b:Value) (S S':List Nat) (w:World) (own own':Bool) (ha:AggRep w own (jc y) a S) (hb:AggRep w own' (jy e) b S'):
 Calls Try.prog 122 #[a,b] w fun e1 w'=>e1=.returned (.bool (jM y e))∧Below w.heap.size w w':=by
 obtain ⟨_,rfl,ha⟩:=ha;obtain ⟨_,rfl,hb⟩:=hb;obtain ⟨rfl,rfl⟩:=jku hb;obtain ⟨sv,rv,S1,S2,rfl,ah0,ah1,rfl⟩:=jag ha;clear ha hb;rcases zq y e.run e.task with ⟨hr,ht⟩|⟨k,r,hr,hx,⟨hno,ht⟩|⟨j,t,hj,htx,ht⟩⟩
 ·have HR:=Lib.hid hr
  have HF:Hid (jM y e=false):=by unfold jM;rw [ht];rfl
  clear hr ht
  go_enter Try.func122,Try.ntmps122
  go_wp2_with (go_at_call 90;refine (ci (jkj y e.run _ _ _ own ⟨_,rfl,jeH (upA (upA ah0 _) _) (upA (upA ah1 _) _)⟩) HR.out).mono ?_;rintro e1 w1 ⟨rfl,hb1⟩;obtain ⟨hc1,hf1⟩:=jcm hb1)
  refine wp_region_quiet_below (by kernel_rfl) (by kernel_rfl) ?_
  repeat (go_big_quiet_step (fail))
  refine wpQuiet_nil ?_;intro _ hw';obtain ⟨⟨dq,osq⟩,hw''⟩:=hw';subst hw''
  go_wp2
  go_ret
  exact ⟨jY (by rw [HF.out]),kA (kA (((Below.refl _ _).alloc (by simp) _).alloc (by simp) _) hb1) (below_regrown w1 dq osq)⟩
 all_goals
  have HR:=Lib.hid hr;obtain ⟨A,c,rfl,hc1,hc2,hca⟩:=Rep.open_ (size:=8) (enc:=jd) (fun _=>rfl) (by decide) ah1
  have hk:k<y.runs.length:=(List.getElem?_eq_some_iff.1 hx).1;unfold maxLen at hc2;have hl1:y.runs.length≤9223372036854775807:=by omega
  obtain ⟨b1,o1,vk1,T1,rfl,-,hr1,-,-,hbl,hx1⟩:=hca k r hx;clear hca;obtain ⟨v0,v1,U0,U1,rfl,-,hts,-⟩:=jao hr1;have p7:=hx1 7 _ rfl;clear hx1 hr1;obtain ⟨B,d,rfl,hd1,hd2,hdb⟩:=Rep.open_ (size:=4) (enc:=ju) (fun _=>rfl) (by decide) hts
  unfold maxLen at hd2;have hl2:r.tasks.length≤9223372036854775807:=by omega
  have hk0:decide ((k:Int)≥0)=true:=by simp
  have hk1:decide ((k:Int)<0)=false:=by simp
  clear hr hx
 ·clear hdb
  have HF:Hid (jM y e=false):=by unfold jM;rw [ht];rfl
  have HW:Hid (inb e.task 0 ((r.tasks.length:Int)-1)=false):=vF hno;clear ht hno
  go_enter Try.func122,Try.ntmps122
  go_wp2_with (go_at_call 90;refine (ci (jkj y e.run _ _ _ own ⟨_,rfl,jeH (upA (upA ah0 _) _) (upA (upA ah1 _) _)⟩) HR.out).mono ?_;rintro e1 w1 ⟨rfl,hb1⟩;obtain ⟨hc1,hf1⟩:=jcm hb1)
  have hBw:Below w.heap.size w w1:=kA (((Below.refl _ _).alloc (by simp) _).alloc (by simp) _) hb1
  have p7':=jfD hBw p7;have q3:∀(d:Nat) (os:Array Obj),(grow (redrawn w1 d) os).cell? ⟨w.heap.size,3,none⟩=some (.slice (some ⟨b1,o1,none⟩) y.runs.length c):=fun d os=>cell_regrown ((hc1 _ _ (by simp;try omega)).trans (by simp [go_sem])) d os
  have r3:∀(d:Nat) (os:Array Obj),(grow (redrawn w1 d) os).cell? ⟨w.heap.size+1,3,none⟩=some (.int .i64 e.task):=fun d os=>cell_regrown ((hc1 _ _ (by simp;try omega)).trans (by simp [go_sem])) d os
  refine wp_region_quiet_below (by kernel_rfl) (by kernel_rfl) ?_
  repeat (go_big_quiet_step (exact Calls.regrown_of (cb (jdT _ _ _ _) HW.out)))
  refine wpQuiet_nil ?_;intro _ hw';obtain ⟨⟨dq,osq⟩,hw''⟩:=hw';subst hw''
  go_wp2
  go_ret
  exact ⟨jY (by rw [HF.out]),kA hBw (below_regrown w1 dq osq)⟩
 ·obtain ⟨b2,o2,vk2,T2,rfl,-,hr2,-,-,hbl2,hx2⟩:=hdb j t htx
  clear hdb;obtain ⟨rfl,rfl⟩:=jjA hr2;have p0:w.cell? ⟨b2,o2+j*4,none⟩=some (.int .i64 t.state):=hx2 0 _ rfl;have hjl:j<r.tasks.length:=(List.getElem?_eq_some_iff.1 htx).1;clear hx2 hr2 htx;obtain ⟨e1,e2,e3,e4⟩:=e;simp only at hj HR ht;subst hj;have HW:Hid (inb (j:Int) 0 ((r.tasks.length:Int)-1)=true):=jb6 (by omega)
  by_cases hst:t.state=2
  all_goals
   first|(have hs:(t.state==2)=true:=by simpa using hst)|(have hs:(t.state==2)=false:=by simpa using hst)
   have HF:=Lib.hid (show jM y ⟨e1,e2,e3,j⟩=(t.state==2) by unfold jM;rw [ht])
   clear ht hst
   go_enter Try.func122,Try.ntmps122
   go_wp2_with (go_at_call 90;refine (ci (jkj y e3 _ _ _ own ⟨_,rfl,jeH (upA (upA ah0 _) _) (upA (upA ah1 _) _)⟩) HR.out).mono ?_;rintro e1 w1 ⟨rfl,hb1⟩;obtain ⟨hc1,hf1⟩:=jcm hb1)
   have hBw:Below w.heap.size w w1:=kA (((Below.refl _ _).alloc (by simp) _).alloc (by simp) _) hb1
   have p7':=jfD hBw p7;have q3:∀(d:Nat) (os:Array Obj),(grow (redrawn w1 d) os).cell? ⟨w.heap.size,3,none⟩=some (.slice (some ⟨b1,o1,none⟩) y.runs.length c):=fun d os=>cell_regrown ((hc1 _ _ (by simp;try omega)).trans (by simp [go_sem])) d os
   have r3:∀(d:Nat) (os:Array Obj),(grow (redrawn w1 d) os).cell? ⟨w.heap.size+1,3,none⟩=some (.int .i64 j):=fun d os=>cell_regrown ((hc1 _ _ (by simp;try omega)).trans (by simp [go_sem])) d os
   have p0':=jfD hBw p0;refine wp_region_quiet_below (by kernel_rfl) (by kernel_rfl) ?_
   repeat (go_big_quiet_step (exact Calls.regrown_of (cb (jdT _ _ _ _) HW.out)))
   refine wpQuiet_nil ?_;intro _ hw';obtain ⟨⟨dq,osq⟩,hw''⟩:=hw';subst hw''
   go_wp2
   go_ret
   exact ⟨jY (by rw [HF.out,hs]),kA hBw (below_regrown w1 dq osq)⟩
theorem jnI (y:Yd) (e:En) (a b:Value) (S S':List Nat) (w:World) (own own':Bool) (ha:AggRep w own (jc y) a S) (hb:AggRep w own' (jy e) b S'):
 Calls Try.prog 114 #[a,b] w fun e1 w'=>e1=.returned (.bool (jM y e))∧Below w.heap.size w w':=by
 obtain ⟨_,rfl,ha⟩:=ha;obtain ⟨_,rfl,hb⟩:=hb;obtain ⟨rfl,rfl⟩:=jku hb;obtain ⟨sv,rv,S1,S2,rfl,ah0,ah1,rfl⟩:=jag ha;clear ha hb;rcases zq y e.run e.task with ⟨hr,ht⟩|⟨k,r,hr,hx,⟨hno,ht⟩|⟨j,t,hj,htx,ht⟩⟩
 ·have HR:=Lib.hid hr
  have HF:Hid (jM y e=false):=by unfold jM;rw [ht];rfl
  clear hr ht
  go_enter Try.func114,Try.ntmps114
  go_wp2_with (go_at_call 82;refine (ci (zr y e.run _ _ _ own ⟨_,rfl,jeH (upA (upA ah0 _) _) (upA (upA ah1 _) _)⟩) HR.out).mono ?_;rintro e1 w1 ⟨rfl,hb1⟩;obtain ⟨hc1,hf1⟩:=jcm hb1)
  refine wp_region_quiet_below (by kernel_rfl) (by kernel_rfl) ?_
  repeat (go_big_quiet_step (fail))
  refine wpQuiet_nil ?_;intro _ hw';obtain ⟨⟨dq,osq⟩,hw''⟩:=hw';subst hw''
  go_wp2
  go_ret
  exact ⟨jY (by rw [HF.out]),kA (kA (((Below.refl _ _).alloc (by simp) _).alloc (by simp) _) hb1) (below_regrown w1 dq osq)⟩
 all_goals
  have HR:=Lib.hid hr;obtain ⟨A,c,rfl,hc1,hc2,hca⟩:=Rep.open_ (size:=8) (enc:=jd) (fun _=>rfl) (by decide) ah1
  have hk:k<y.runs.length:=(List.getElem?_eq_some_iff.1 hx).1;unfold maxLen at hc2;have hl1:y.runs.length≤9223372036854775807:=by omega
  obtain ⟨b1,o1,vk1,T1,rfl,-,hr1,-,-,hbl,hx1⟩:=hca k r hx;clear hca;obtain ⟨v0,v1,U0,U1,rfl,-,hts,-⟩:=jao hr1;have p7:=hx1 7 _ rfl;clear hx1 hr1;obtain ⟨B,d,rfl,hd1,hd2,hdb⟩:=Rep.open_ (size:=4) (enc:=ju) (fun _=>rfl) (by decide) hts
  unfold maxLen at hd2;have hl2:r.tasks.length≤9223372036854775807:=by omega
  have hk0:decide ((k:Int)≥0)=true:=by simp
  have hk1:decide ((k:Int)<0)=false:=by simp
  clear hr hx
 ·clear hdb
  have HF:Hid (jM y e=false):=by unfold jM;rw [ht];rfl
  have HW:Hid (inb e.task 0 ((r.tasks.length:Int)-1)=false):=vF hno;clear ht hno
  go_enter Try.func114,Try.ntmps114
  go_wp2_with (go_at_call 82;refine (ci (zr y e.run _ _ _ own ⟨_,rfl,jeH (upA (upA ah0 _) _) (upA (upA ah1 _) _)⟩) HR.out).mono ?_;rintro e1 w1 ⟨rfl,hb1⟩;obtain ⟨hc1,hf1⟩:=jcm hb1)
  have hBw:Below w.heap.size w w1:=kA (((Below.refl _ _).alloc (by simp) _).alloc (by simp) _) hb1
  have p7':=jfD hBw p7;have q3:∀(d:Nat) (os:Array Obj),(grow (redrawn w1 d) os).cell? ⟨w.heap.size,3,none⟩=some (.slice (some ⟨b1,o1,none⟩) y.runs.length c):=fun d os=>cell_regrown ((hc1 _ _ (by simp;try omega)).trans (by simp [go_sem])) d os
  have r3:∀(d:Nat) (os:Array Obj),(grow (redrawn w1 d) os).cell? ⟨w.heap.size+1,3,none⟩=some (.int .i64 e.task):=fun d os=>cell_regrown ((hc1 _ _ (by simp;try omega)).trans (by simp [go_sem])) d os
  refine wp_region_quiet_below (by kernel_rfl) (by kernel_rfl) ?_
  repeat (go_big_quiet_step (exact Calls.regrown_of (cb (vp _ _ _ _) HW.out)))
  refine wpQuiet_nil ?_;intro _ hw';obtain ⟨⟨dq,osq⟩,hw''⟩:=hw';subst hw''
  go_wp2
  go_ret
  exact ⟨jY (by rw [HF.out]),kA hBw (below_regrown w1 dq osq)⟩
 ·obtain ⟨b2,o2,vk2,T2,rfl,-,hr2,-,-,hbl2,hx2⟩:=hdb j t htx
  clear hdb;obtain ⟨rfl,rfl⟩:=jjA hr2;have p0:w.cell? ⟨b2,o2+j*4,none⟩=some (.int .i64 t.state):=hx2 0 _ rfl;have hjl:j<r.tasks.length:=(List.getElem?_eq_some_iff.1 htx).1;clear hx2 hr2 htx;obtain ⟨e1,e2,e3,e4⟩:=e;simp only at hj HR ht;subst hj;have HW:Hid (inb (j:Int) 0 ((r.tasks.length:Int)-1)=true):=jb6 (by omega)
  by_cases hst:t.state=2
  all_goals
   first|(have hs:(t.state==2)=true:=by simpa using hst)|(have hs:(t.state==2)=false:=by simpa using hst)
   have HF:=Lib.hid (show jM y ⟨e1,e2,e3,j⟩=(t.state==2) by unfold jM;rw [ht])
   clear ht hst
   go_enter Try.func114,Try.ntmps114
   go_wp2_with (go_at_call 82;refine (ci (zr y e3 _ _ _ own ⟨_,rfl,jeH (upA (upA ah0 _) _) (upA (upA ah1 _) _)⟩) HR.out).mono ?_;rintro e1 w1 ⟨rfl,hb1⟩;obtain ⟨hc1,hf1⟩:=jcm hb1)
   have hBw:Below w.heap.size w w1:=kA (((Below.refl _ _).alloc (by simp) _).alloc (by simp) _) hb1
   have p7':=jfD hBw p7;have q3:∀(d:Nat) (os:Array Obj),(grow (redrawn w1 d) os).cell? ⟨w.heap.size,3,none⟩=some (.slice (some ⟨b1,o1,none⟩) y.runs.length c):=fun d os=>cell_regrown ((hc1 _ _ (by simp;try omega)).trans (by simp [go_sem])) d os
   have r3:∀(d:Nat) (os:Array Obj),(grow (redrawn w1 d) os).cell? ⟨w.heap.size+1,3,none⟩=some (.int .i64 j):=fun d os=>cell_regrown ((hc1 _ _ (by simp;try omega)).trans (by simp [go_sem])) d os
   have p0':=jfD hBw p0;refine wp_region_quiet_below (by kernel_rfl) (by kernel_rfl) ?_
   repeat (go_big_quiet_step (exact Calls.regrown_of (cb (vp _ _ _ _) HW.out)))
   refine wpQuiet_nil ?_;intro _ hw';obtain ⟨⟨dq,osq⟩,hw''⟩:=hw';subst hw''
   go_wp2
   go_ret
   exact ⟨jY (by rw [HF.out,hs]),kA hBw (below_regrown w1 dq osq)⟩
def jab:C:=iS [iA 1 (.box 42 4 (.t 0)),iA 2 (.mov (.c (.slice none 0 0)))] (iS [iA 5 (.bsl 82 4 0 [] []),iA 3 (iM 5)] (.seq (iS [iA 4 (iN 0)] (.blk 0 (.loop (.seq (iS [iA 6 (iM 4),iA 7 (iF 2 1),iA 8 (iL 7),iA 9 (iG 8),iA 10 (iP .lss 3 6 9)] (iD 10 .skip (.exit 0))) (.seq (.blk 1 (.reg [iA 13 (iM 3),iA 14 (iF 2 1),iA 15 (iL 14),iA 16 (iM 4),iA 17 (iI 1 15 16),iA 18 (iL 17),iA 19 (.app 82 4 32 (.t 13) (.t 18)),iA 3 (iM 19)])) (.reg [iA 11 (iM 4),iA 12 (iQ .add 3 11 1),iA 4 (iM 12)])))))) (iS [iA 20 (iM 3),iA 2 (iM 20)] .ret)))
theorem jci:fnC Try.prog Try.f83=some (jab,[.t 2],21):=by kernel_rfl
theorem jvN (y:Yd) (e:En):kl Try.prog 122 [.agg (jc y),.agg (jy e)] (.c (.val (.bool (jM y e)))):=jrF ⟨_,Try.func122,by kernel_rfl,by kernel_rfl⟩ fun w a b ⟨S,ha⟩ ⟨S2,hb⟩=>juM y e a b S S2 w false false ha hb
theorem jlk (y:Yd) (e:En):kl Try.prog 114 [.agg (jc y),.agg (jy e)] (.c (.val (.bool (jM y e)))):=jrF ⟨_,Try.func114,by kernel_rfl,by kernel_rfl⟩ fun w a b ⟨S,ha⟩ ⟨S2,hb⟩=>jnI y e a b S S2 w false false ha hb
theorem jxN (l m:List En):D.sl 4 tEn (l.flatMap jy++m.flatMap jy)=jv (l++m):=by simp [jv]
theorem zS (y:Yd) (ht:jS y≤2000000):kl Try.prog 83 [.agg (jc y)] (.c (jv y.shelf.flatten)):=by
 refine jr Try.func83 jci (by simp) ?_
 unfold jab;have hl:=jt7 ht;have hf:=zO ht;simp only [go_sem,jc];intro b η0;refine qB (fun s=>∃(k g ty:Nat) (η:jm),k≤y.shelf.length∧(g=500∨g=1900)∧s.t 1=.c (.bp 100 0 b)∧s.o 100=.box b ty ((jc y).map fun x=>.a x.toRo)∧s.t 4=.c (.v (.int .i64 k))∧s.t 3=.c (.h g 0 [] (η []))∧s.o g=.loose (jv (y.shelf.take k).flatten) η) (fun s=>y.shelf.length-s.n 4) ?_ ?_
 ·exact ⟨0,500,_,η0,Nat.zero_le _,.inl rfl,by simp only [go_sem]<;>rfl,by simp only [go_sem]<;>rfl,by simp only [go_sem]<;>rfl,by simp only [go_sem]<;>rfl,by simp only [go_sem]<;>rfl⟩
 ·rintro s ⟨k,g,ty,η,hk,hg,h1,ho1,h4,h3,hob⟩
  by_cases hlt:k<y.shelf.length
  ·have hlt':(k:Int)<y.shelf.length:=by omega
   obtain ⟨x,hx⟩:=je hlt;have hw:IntKind.i64.wrap ((k:Int)+1)=((k+1:Nat):Int):=jg (by omega) (by omega)
   have hn:=jlQ hx;have hle:=jfX y.shelf (k+1);rw [hn,List.length_append] at hle;generalize (y.shelf.take k).flatten=l at*;have h1':l.length+x.length≤maxLen:=by unfold maxLen;omega
   have h2':(l.length+x.length)*32≤140737488355328:=by omega
   rcases hg with rfl|rfl
   all_goals
    simp only [go_sem,h1,ho1,h4,h3,hob,jc,hlt,hlt',vm hx,h1',h2',hw,jxN];intro η2;refine ⟨⟨k+1,1900,ty,η2,?_⟩,?_⟩
    ·and_intros<;>first|rfl|omega|exact .inr rfl|(rw [hn];rfl)
    ·rw [jdv (k:=.i64) (n:=((k+1:Nat):Int)) (by simp only [go_sem]),jdv h4];omega
  ·have hlt':¬(k:Int)<y.shelf.length:=by omega
   rw [List.take_of_length_le (by omega)] at hob
   rcases hg with rfl|rfl
   all_goals
    simp only [go_sem,h1,ho1,h4,h3,hob,jc,hlt']
open Go.RowKit Go.Sort Go.BigFrame
theorem jvg {w w1:World} {b o:Nat} {v:Value} (hB:Below w.heap.size w w1) (h:w.cell? ⟨b,o+0,none⟩=some v):w1.cell? ⟨b,o,none⟩=some v:=jQ hB h
open Go.RowKit Go.Sort Go.BigFrame
theorem jfK (y:Yd) (a b:List En):qe y (a++b)=qe y a+qe y b:=by simp [qe]
theorem jiW (y:Yd) (a:Value) (S:List Nat) (w:World) (own:Bool) (ha:AggRep w own (jc y) a S) (hsz:jS y≤2000000):
 Calls Try.prog 85 #[a] w fun e w'=>e=.returned (.int .i64 (qF y))∧Below w.heap.size w w':=by
 obtain ⟨_,rfl,ha⟩:=ha;obtain ⟨sv,rv,S1,S2,rfl,ah0,ah1,rfl⟩:=jag ha;clear ha;obtain ⟨A,c,rfl,hc1,hc2,hca⟩:=Rep.open_ (size:=8) (enc:=jd) (fun _=>rfl) (by decide) ah1
 obtain ⟨C,f,rfl,hf1,hf2,hfa⟩:=Rep.open_ (size:=1) (enc:=fun es=>[jv es]) (fun _=>rfl) (by decide) ah0
 unfold maxLen at hc2 hf2;have hl1:y.runs.length≤9223372036854775807:=by omega
 have hl2:y.shelf.length≤9223372036854775807:=by omega
 have hlive:qE kH y.runs≤2000000:=by have:=jkR y.runs;simp only [jS,jfJ] at hsz;omega
 have hall:(jgF y).length≤2000000:=by unfold jgF;rw [jaw];simp only [jS,jeJ] at hsz;omega
 have hB0:=upB (Below.refl w.heap.size w) (.cells #[.int .i64 y.now,.int .i64 y.seq,.slice C y.shelf.length f,.slice A y.runs.length c] tYd)
 go_enter Try.func85,Try.ntmps85
 go_wp2
 go_loop [3,4] (fun n i=>∃k:Nat,k≤y.runs.length∧i=.int .i64 k∧n=.int .i64 (qE kH (y.runs.take k):Nat)) (fun _ i=>y.runs.length-(intOf i).toNat)
 case atStart=>exact ⟨0,by omega,rfl,rfl⟩
 case round=>
  obtain ⟨k,hk,rfl,rfl⟩:=hrel;by_cases hlt:k<y.runs.length
  ·obtain ⟨x,hx⟩:=je hlt
   obtain ⟨b1,o1,vk1,T1,rfl,-,hr1,-,-,hb1,hx1⟩:=hca k x hx;clear hca hfa;obtain ⟨v0,v1,U0,U1,rfl,hev,htv,-⟩:=jao hr1;obtain ⟨B,d,rfl,hd1,hd2,hdb⟩:=Rep.open_ (size:=4) (enc:=ju) (fun _=>rfl) (by decide) htv
   unfold maxLen at hd2;have hl3:x.tasks.length≤9223372036854775807:=by omega
   have p6:=hx1 6 _ rfl;have p7:=hx1 7 _ rfl;have htk:=vZ (tot:=kH) hx;have htl:=jaj kH y.runs (k+1);have hlv:kH x=if x.state=1 then x.tasks.length else 0:=rfl
   have HK:=Lib.hid htk;have HL:=Lib.hid hlv;have hn0:(qE kH (y.runs.take k):Int)≤2000000:=by omega
   have hn1:x.tasks.length≤2000000∨x.state≠1:=by by_cases h:x.state=1;left;rw [if_pos h] at hlv;omega;exact .inr h
   clear hx hx1 hr1 htk hlv hdb htl;by_cases hst:x.state=1
   ·have hs:(x.state==1)=true:=by simpa using hst
    have hn2:x.tasks.length≤2000000:=by rcases hn1 with h|h;exact h;exact absurd hst h
    have HS:=Lib.hid hst;clear hst hn1
    go_wp2
    go_round
    case rel=>
     refine ⟨k+1,by omega,by go_num,?_⟩
     rw [HK.out,HL.out,if_pos HS.out];go_num
    case measure=>simp [intOf];omega
   ·have hs:(x.state==1)=false:=by simpa using hst
    have HS:=Lib.hid hst;clear hst hn1
    go_wp2
    go_round
    case rel=>
     refine ⟨k+1,by omega,by go_num,?_⟩
     rw [HK.out,HL.out,if_neg HS.out];rfl
    case measure=>simp [intOf];omega
  ·obtain rfl:k=y.runs.length:=by omega
   clear hca;rw [List.take_length]
   go_wp2
   go_loopw [3,5,6] (fun n i _ wr=>∃k:Nat,k≤y.shelf.length∧i=.int .i64 k∧n=.int .i64 ((qE kH y.runs:Int)+qe y (y.shelf.take k).flatten)∧Below (w.alloc (.cells #[.int .i64 y.now,.int .i64 y.seq,.slice C y.shelf.length f,.slice A y.runs.length c] tYd)).heap.size (w.alloc (.cells #[.int .i64 y.now,.int .i64 y.seq,.slice C y.shelf.length f,.slice A y.runs.length c] tYd)) wr) (fun _ i _ _=>y.shelf.length-(intOf i).toNat)
   case atStart=>exact ⟨0,by omega,rfl,by simp [qe],Below.refl _ _⟩
   case round=>
    obtain ⟨k,hk,rfl,rfl,hbel⟩:=hrel;obtain ⟨wo,rfl⟩:∃wo:World,wo=wr:=⟨_,rfl⟩;have hB2:=kA hB0 hbel;obtain ⟨hcr,hfr⟩:=jcm hbel;have q0:wo.cell? ⟨w.heap.size,0,none⟩=some (.int .i64 y.now):=(hcr _ _ (by simp)).trans (by simp [go_sem])
    have q1:wo.cell? ⟨w.heap.size,1,none⟩=some (.int .i64 y.seq):=(hcr _ _ (by simp)).trans (by simp [go_sem])
    have q2:wo.cell? ⟨w.heap.size,2,none⟩=some (.slice C y.shelf.length f):=(hcr _ _ (by simp)).trans (by simp [go_sem])
    have q3:wo.cell? ⟨w.heap.size,3,none⟩=some (.slice A y.runs.length c):=(hcr _ _ (by simp)).trans (by simp [go_sem])
    clear hcr hfr;by_cases hlt:k<y.shelf.length
    ·obtain ⟨es,hx⟩:=je hlt
     obtain ⟨b1,o1,vk1,T2,rfl,-,hr1,-,-,hb1,hx1⟩:=hfa k es hx;clear hfa;obtain ⟨u,_,U0,U1,rfl,rfl,hu,rfl,rfl⟩:=hr1;have p0:w.cell? ⟨b1,o1+k,none⟩=some u:=by simpa using hx1 0 _ rfl
     have hfs:=je4 hx
     have hse:∀j,qe y (y.shelf.take k).flatten+qe y (es.take j)≤2000000:=fun j=>by
      have h1:=jo1 y es j;have h2:=jfK y (y.shelf.take k).flatten es;rw [←hfs] at h2;have h3:=jnD y (y.shelf.take (k+1)).flatten;have h4:(y.shelf.take (k+1)).flatten.length≤(jgF y).length:=by unfold jgF;rw [jaw,jaw];exact jaj _ _ _
      omega
     obtain ⟨B,d,rfl,hd1,hd2,hdb⟩:=Rep.open_ (size:=4) (enc:=jy) (fun _=>rfl) (by decide) hu
     unfold maxLen at hd2;have hl3:es.length≤9223372036854775807:=by omega
     have p0':=jQ hB2 p0;have HFS:=Lib.hid hfs;clear hx hx1 hfs
     go_wp2
     go_loopw [3,6] (fun n i wr=>∃j:Nat,j≤es.length∧i=.int .i64 j∧n=.int .i64 ((qE kH y.runs:Int)+qe y (y.shelf.take k).flatten+qe y (es.take j))∧Below wo.heap.size wo wr) (fun _ i _=>es.length-(intOf i).toNat)
     case atStart=>exact ⟨0,by omega,rfl,by simp [qe],Below.refl _ _⟩
     case round=>
      obtain ⟨j,hj,rfl,rfl,hbe⟩:=hrel;have hB3:=kA hB2 hbe;have r2:=jQ hbe q2;have p0'':=jQ hbe p0';by_cases hjl:j<es.length
      ·obtain ⟨x,hx⟩:=je hjl
       obtain ⟨b2,o2,vk2,T3,rfl,-,hr2,-,-,hb2,hx2⟩:=hdb j x hx;clear hdb;obtain ⟨rfl,rfl⟩:=jku hr2;have hsj:=hse j;have hss:=jo2 (y:=y) hx;have HS:=Lib.hid hss;have c0:=cell_regrown (jvg hB3 (hx2 0 _ rfl));have c1:=cell_regrown (jQ hB3 (hx2 1 _ rfl));have c2:=cell_regrown (jQ hB3 (hx2 2 _ rfl));have c3:=cell_regrown (jQ hB3 (hx2 3 _ rfl));have g0:=cell_regrown (jQ hbe q0);have g1:=cell_regrown (jQ hbe q1);have g2:=cell_regrown r2;have g3:=cell_regrown (jQ hbe q3);have gp:=cell_regrown p0'';have hcall:=fun (W:World) (hW:Below wr.heap.size wr W)=>jnI y x _ _ _ _ W own own ⟨_,rfl,jeH (up (up ah0 hB3) hW) (up (up ah1 hB3) hW)⟩ ⟨_,rfl,en_mk _ _ x⟩
       clear hx hx2 hss hse;by_cases hfr:jM y x=true
       ·have HF:=Lib.hid hfr
        clear hfr
        go_wp2
        refine wp_region_quiet_below (by kernel_rfl) (by kernel_rfl) ?_
        repeat (go_big_quiet_step (exact Calls.regrown_of (cb (hcall _ (below_regrown wr _ _)) HF.out)))
        refine wpQuiet_nil ?_;intro _ hw';obtain ⟨⟨dq,osq⟩,hw''⟩:=hw';subst hw''
        go_wp2
        go_roundw
        case rel=>
         refine ⟨j+1,by omega,by go_num,?_,kA hbe (below_regrown wr dq osq)⟩
         rw [HS.out,if_pos HF.out];rfl
        case measure=>simp [intOf];omega
       ·have hfr':jM y x=false:=by simpa using hfr
        have HF:=Lib.hid hfr';clear hfr hfr'
        go_wp2
        refine wp_region_quiet_below (by kernel_rfl) (by kernel_rfl) ?_
        repeat (go_big_quiet_step (exact Calls.regrown_of (cb (hcall _ (below_regrown wr _ _)) HF.out)))
        refine wpQuiet_nil ?_;intro _ hw';obtain ⟨⟨dq,osq⟩,hw''⟩:=hw';subst hw''
        go_wp2
        go_roundw
        case rel=>
         refine ⟨j+1,by omega,by go_num,?_,kA hbe (below_regrown wr dq osq)⟩
         rw [HS.out,HF.out];simp;omega
        case measure=>simp [intOf];omega
      ·obtain rfl:j=es.length:=by omega
       clear hdb hse;rw [List.take_length]
       go_wp2
       go_roundw
       case rel=>
        refine ⟨k+1,by omega,by go_num,?_,kA hbel hbe⟩
        rw [HFS.out,jfK];simp;omega
       case measure=>simp [intOf];omega
    ·obtain rfl:k=y.shelf.length:=by omega
     clear hfa;rw [List.take_length];have hsl:qF y=(qE kH y.runs:Int)+qe y y.shelf.flatten:=rfl;have HSL:=Lib.hid hsl;clear hsl
     go_wp2
     go_ret
     exact ⟨jhd HSL.out.symm,hB2⟩
def zM (y:Yd) (k:Int):Yd:=if 0≤k∧k≤(y.shelf.length:Int)-1 then ⟨y.now,y.seq,y.shelf.set k.toNat (((y.shelf[k.toNat]?).getD []).filter (jM y)),y.runs⟩ else y
theorem jtT {y:Yd} {k:Int} (h:¬(0≤k∧k≤(y.shelf.length:Int)-1)):zM y k=y:=by rw [zM,if_neg h]
theorem jg2 {y:Yd} {k:Nat} {l:List En} (h:y.shelf[k]?=some l):zM y k=⟨y.now,y.seq,y.shelf.set k (l.filter (jM y)),y.runs⟩:=by
 have:=(List.getElem?_eq_some_iff.1 h).1;rw [zM,if_pos (by omega)]
 simp [h]
theorem jpo {l:List (List En)} {k:Nat} (v:List En) (hk:k<l.length):D.put [] k [jv v] (kL l)=kL (l.set k v):=by
 have:=jlf v hk
 rwa [Nat.mul_one] at this
theorem jsN (l:List En) (a:En):D.sl 4 tEn (l.flatMap jy++[.val (.int .i64 a.prio),.val (.int .i64 a.seq),.val (.int .i64 a.run),.val (.int .i64 a.task)])=jv (l++[a]):=by simp [jv,jy]
theorem jyE (sh:List (List En)):(sh.flatMap fun es=>[jv es])=sh.map jv:=by induction sh<;>simp_all
theorem jjF {α:Type} {l:List α} {k:Nat} {x:α} (h:l[k]?=some x):l.set k x=l:=by
 apply List.ext_getElem?
 intro j;by_cases e:k=j
 ·subst e;rw [List.getElem?_set_self (List.getElem?_eq_some_iff.1 h).1,h]
 ·rw [List.getElem?_set_ne e]
def jf1:C:=iS [iA 2 (.box 42 4 (.t 0)),iA 4 (.alloc 42 [.int .i64 0,.int .i64 0,.slice none 0 0,.slice none 0 0])] (iS [iA 8 (iT 4 2),iA 9 (.call 143 [.t 8]),iA 5 (.alloc 42 [.int .i64 0,.int .i64 0,.slice none 0 0,.slice none 0 0]),iC (.st 4 [none,none,some (1,74),some (8,78)] (.t 5) (.t 9))] (.seq (iS [iA 10 (iM 1),iA 11 (iF 2 2),iA 12 (iL 11),iA 13 (iG 12),iA 14 (iQ .sub 3 13 1),iA 15 (.call 66 [.t 10,.c (.int .i64 0),.t 14]),iA 16 (iU 15)] (iD 16 (iS [iA 17 (iT 4 5),iC (.st 4 [none,none,some (1,74),some (8,78)] (.t 4) (.t 17))] .ret) .skip)) (iS [iA 18 (.bsl 82 4 0 [] []),iA 6 (iM 18)] (.seq (iS [iA 7 (iN 0)] (.blk 0 (.loop (.seq (iS [iA 19 (iM 7),iA 20 (iF 2 2),iA 21 (iL 20),iA 22 (iM 1),iA 23 (iI 1 21 22),iA 24 (iL 23),iA 25 (iG 24),iA 26 (iP .lss 3 19 25)] (iD 26 .skip (.exit 0))) (.seq (.blk 1 (.seq (.dreg (T.pure 0 (iA 29 (iT 4 2)) (T.pure 1 (iA 30 (iF 2 2)) (T.pure 2 (iA 31 (iL 30)) (T.pure 3 (iA 32 (iM 1)) (T.pure 4 (iA 33 (iI 1 31 32)) (T.pure 5 (iA 34 (iL 33)) (T.pure 6 (iA 35 (iM 7)) (T.pure 7 (iA 36 (iI 4 34 35)) (T.pure 8 (iA 37 (iT 4 36)) (T.alt (iA 38 (.call 114 [.t 29,.t 37])) [] T.done T.stop))))))))))) (iD 38 (.reg [iA 39 (iM 6),iA 40 (iF 2 2),iA 41 (iL 40),iA 42 (iM 1),iA 43 (iI 1 41 42),iA 44 (iL 43),iA 45 (iM 7),iA 46 (iI 4 44 45),iA 47 (iT 4 46),iA 48 (.bsl 82 4 1 [none,none,none,none] [(0,4,.t 47)]),iA 49 (.app 82 4 32 (.t 39) (.t 48)),iA 6 (iM 49)]) .skip))) (.reg [iA 27 (iM 7),iA 28 (iQ .add 3 27 1),iA 7 (iM 28)])))))) (iS [iA 50 (iF 2 5),iA 51 (iL 50),iA 52 (iM 1),iA 53 (iM 6),iA 54 (iI 1 51 52),iC (.st 1 [some (4,82)] (.t 54) (.t 53))] (iS [iA 55 (iT 4 5),iC (.st 4 [none,none,some (1,74),some (8,78)] (.t 4) (.t 55))] .ret))))))
theorem jhU:fnC Try.prog Try.f161=some (jf1,[.cell 4 true 4],56):=by kernel_rfl
theorem jfP (y:Yd) (k:Int) (ht:jS y≤2000000):kl Try.prog 161 [.agg (jc y),.c (.val (.int .i64 k))] (.agg (jc (zM y k))):=by
 refine jr Try.func161 jhU (by simp) ?_
 unfold jf1;have hsl:y.shelf.length≤2000000:=by simp only [jS,jeJ] at ht;omega
 have hws:IntKind.i64.wrap ((y.shelf.length:Int)-1)=(y.shelf.length:Int)-1:=jg (by omega) (by omega)
 simp only [go_sem,jc];intro b2 b4;refine jb (jT y ht) (by simp only [go_sem,jc]) fun ηc=>?_
 simp only [go_sem,jc];intro b5;simp only [go_sem,jc,hws];refine jb (jw k 0 (y.shelf.length-1)) (by simp only [go_sem,jc,hws]) fun η=>?_
 simp only [go_sem,jc,hws];cases h:decide (0≤k∧k≤(y.shelf.length:Int)-1)
 ·simp only [go_sem,jc,h,jtT (of_decide_eq_false h)]
 have h':=of_decide_eq_true h;obtain ⟨n,rfl⟩:=Int.eq_ofNat_of_zero_le h'.1;have hn:n<y.shelf.length:=by omega
 have h0n:(n:Int)≥0:=by omega
 obtain ⟨l,hl⟩:=je hn;have hll:=jiS ht (List.mem_of_getElem? hl);rw [jg2 hl];simp only [go_sem,jc,h,jeV];intro η18;refine jq (fun i:Nat×jm=>St.of [(1,Ni n),(2,Bx 200 b2),(4,Bx 400 b4),(5,Bx 500 b5),(6,Hd 6 i.2),(7,Ni i.1)] [(200,Bi b2 _ (jc y)),(400,ZYd b4 _),(500,ve b5 _ y.now y.seq y.shelf (ηc 2) y.runs (ηc 3)),(6,.loose (jv ((l.take i.1).filter (jM y))) i.2)]) (fun i=>i.1≤l.length) (fun i=>l.length-i.1) (0,η18) (by (try dsimp only);first|omega|(simp;done)|(and_intros<;>first|omega|simp)) (jl [some 200,some 400,some 500,some 1800] (by simp only [go_sem,jc,List.take_zero,List.filter_nil]<;>and_intros<;>first|rfl|assumption|trivial)) ?_
 rintro ⟨j,ηj⟩ hj;dsimp only at hj;by_cases hlt:j<l.length
 ·have hlt':(j:Int)<l.length:=by omega
  have h0j:(j:Int)≥0:=by omega
  obtain ⟨e,he⟩:=je hlt;have hw:IntKind.i64.wrap ((j:Int)+1)=((j+1:Nat):Int):=jg (by omega) (by omega)
  have hft:=jng (f:=jM y) he;have hfl:((l.take j).filter (jM y)).length≤4000000:=Nat.le_trans (List.length_filter_le _ _) (by rw [List.length_take];omega)
  generalize (l.take j).filter (jM y)=M at*;have m1:M.length+1≤maxLen:=by unfold maxLen;omega
  have m2:(M.length+1)*32≤140737488355328:=by omega
  simp only [go_sem,jc,hn,h0n,vm hl,hlt,hlt',h0j,ke he,jy];refine jb (jlk y e) (by simp only [go_sem,jc,jy]) fun η=>?_
  simp only [go_sem,jc,jy];cases hf:jM y e
  ·rw [hf] at hft
   simp only [Bool.false_eq_true,if_false] at hft;simp only [go_sem,jc,hf,hw];exact ⟨(j+1,ηj),by (try dsimp only);first|omega|assumption|(and_intros<;>first|omega|assumption),(jl [some 200,some 400,some 500,some 6] (by simp only [go_sem,jc,hft]<;>and_intros<;>first|rfl|assumption|trivial)),by (try dsimp only);omega⟩
  ·rw [hf] at hft
   simp only [if_true] at hft;simp only [go_sem,jc,hn,h0n,vm hl,hlt,hlt',h0j,ke he,jy,hf,m1,m2,jsN,hw];intro η48 η49;exact ⟨(j+1,η49),by (try dsimp only);first|omega|assumption|(and_intros<;>first|omega|assumption),(jl [some 200,some 400,some 500,some 4900] (by simp only [go_sem,jc,hft]<;>and_intros<;>first|rfl|assumption|trivial)),by (try dsimp only);omega⟩
 have hlt':¬(j:Int)<l.length:=by omega
 rw [List.take_of_length_le (by omega)]
 generalize l.filter (jM y)=M at*;simp only [go_sem,jc,hn,h0n,vm hl,hlt',jdV hn,jlf M hn,jpo M hn];exact fun _ _=>trivial
open Go.RowKit Go.Sort Go.BigFrame
theorem jt0 {y:Yd} (h:jS y≤2000000):0≤qF y∧qF y≤4000000:=by
 have hlive:qE kH y.runs≤2000000:=by have:=jkR y.runs;simp only [jS,jfJ] at h;omega
 have hall:(jgF y).length≤2000000:=by unfold jgF;rw [jaw];simp only [jS,jeJ] at h;omega
 have hst:=jnD y (jgF y);unfold qF;omega
theorem jph (y:Yd) (p:Pl) (a b:Value) (S S':List Nat) (w:World) (own own':Bool) (ha:AggRep w own (jc y) a S) (hb:AggRep w own' (ja p) b S') (hsz:jS y≤2000000):
 Calls Try.prog 158 #[a,b] w fun e1 w'=>e1=.returned (.bool (jbi y p))∧Below w.heap.size w w':=by
 obtain ⟨_,rfl,ha⟩:=ha;obtain ⟨_,rfl,hb⟩:=hb;obtain ⟨ev,rfl,hev⟩:=jdI hb;obtain ⟨sv,rv,S1,S2,rfl,ah0,ah1,rfl⟩:=jag ha;clear ha hb;obtain ⟨A,c,rfl,hc1,hc2,-⟩:=Rep.open_ (size:=8) (enc:=jd) (fun _=>rfl) (by decide) ah1
 unfold maxLen at hc2;have hl1:y.runs.length≤9223372036854775807:=by omega
 have hsl:=jt0 hsz
 have hcall:∀w',Below w.heap.size w w'→Calls Try.prog 85 #[.agg #[.int .i64 y.now,.int .i64 y.seq,sv,.slice A y.runs.length c]] w' fun e w''=>e=.returned (.int .i64 (qF y))∧Below w'.heap.size w' w'':=
  fun w' hw=>jiW y _ _ w' own ⟨_,rfl,jeH (up ah0 hw) (up ah1 hw)⟩ hsz
 have hRF:jbi y p=(decide (y.runs.length<8)&&(decide (0≤p.tasks∧p.tasks≤12)&&(decide (qF y+p.tasks≤40)&&decide (y.seq≤1000000000-1000-p.tasks)))):=rfl;have HB:=Lib.hid hRF;clear hRF;generalize qF y=s at*;obtain ⟨bo,hbo⟩:∃bo,bo=jbi y p:=⟨_,rfl⟩;rw [←hbo];have HRF:Hid (bo=(decide (y.runs.length<8)&&(decide (0≤p.tasks∧p.tasks≤12)&&(decide (s+p.tasks≤40)&&decide (y.seq≤1000000000-1000-p.tasks))))):=Lib.hid (hbo.trans HB.out);clear hbo HB;obtain ⟨w2,hw2⟩:∃w2,w2=((w.alloc (.cells #[.int .i64 y.now,.int .i64 y.seq,sv,.slice A y.runs.length c] tYd)).alloc (.cells #[.int .i64 p.prio,.int .i64 p.most,.int .i64 p.wait,.int .i64 p.tasks,ev] tPl)):=⟨_,rfl⟩;have hB2:Below w.heap.size w w2:=by subst hw2;exact upB (upB (Below.refl w.heap.size w) _) _
 have q3:∀(d:Nat) (os:Array Obj),(grow (redrawn w2 d) os).cell? ⟨w.heap.size,3,none⟩=some (.slice A y.runs.length c):=fun d os=>cell_regrown (by subst hw2;simp [go_sem]) d os
 have r3:∀(d:Nat) (os:Array Obj),(grow (redrawn w2 d) os).cell? ⟨w.heap.size+1,3,none⟩=some (.int .i64 p.tasks):=fun d os=>cell_regrown (by subst hw2;simp [go_sem]) d os
 have q0:∀(d:Nat) (os:Array Obj),(grow (redrawn w2 d) os).cell? ⟨w.heap.size,0,none⟩=some (.int .i64 y.now):=fun d os=>cell_regrown (by subst hw2;simp [go_sem]) d os
 have q1:∀(d:Nat) (os:Array Obj),(grow (redrawn w2 d) os).cell? ⟨w.heap.size,1,none⟩=some (.int .i64 y.seq):=fun d os=>cell_regrown (by subst hw2;simp [go_sem]) d os
 have q2:∀(d:Nat) (os:Array Obj),(grow (redrawn w2 d) os).cell? ⟨w.heap.size,2,none⟩=some sv:=fun d os=>cell_regrown (by subst hw2;simp [go_sem]) d os
 by_cases h1:y.runs.length<8;rotate_left
 ·have g1:decide ((y.runs.length:Int)<8)=false:=by simp;omega
  have HD:=Lib.hid (show bo=false by rw [HRF.out];simp only [Bool.and_eq_false_iff,decide_eq_false_iff_not];omega)
  clear h1 HRF
  go_enter Try.func158,Try.ntmps158
  go_wp2
  rw [←hw2];clear hw2;refine wp_region_quiet_below (by kernel_rfl) (by kernel_rfl) ?_
  repeat (go_big_quiet_step (first|exact Calls.regrown_of (cb (vp _ _ _ _) HW.out)|exact Calls.regrown_of (hcall _ (kA hB2 (below_regrown w2 _ _)))))
  refine wpQuiet_nil ?_;intro _ hw';obtain ⟨⟨dq,osq⟩,hw''⟩:=hw';subst hw''
  go_wp2
  go_ret
  exact ⟨jY (by rw [HD.out]),kA hB2 (below_regrown w2 dq osq)⟩
 have g1:decide ((y.runs.length:Int)<8)=true:=by simp;omega
 by_cases h2:0≤p.tasks∧p.tasks≤12;rotate_left
 ·have HD:=Lib.hid (show bo=false by rw [HRF.out];simp only [Bool.and_eq_false_iff,decide_eq_false_iff_not];omega)
  have HW:Hid (inb p.tasks 0 12=false):=vF h2;clear h1 h2 HRF
  go_enter Try.func158,Try.ntmps158
  go_wp2
  rw [←hw2];clear hw2;refine wp_region_quiet_below (by kernel_rfl) (by kernel_rfl) ?_
  repeat (go_big_quiet_step (first|exact Calls.regrown_of (cb (vp _ _ _ _) HW.out)|exact Calls.regrown_of (hcall _ (kA hB2 (below_regrown w2 _ _)))))
  refine wpQuiet_nil ?_;intro _ hw';obtain ⟨⟨dq,osq⟩,hw''⟩:=hw';subst hw''
  go_wp2
  go_ret
  exact ⟨jY (by rw [HD.out]),kA hB2 (below_regrown w2 dq osq)⟩
 have HW:Hid (inb p.tasks 0 12=true):=jb6 h2;obtain ⟨h2a,h2b⟩:=h2;by_cases h3:s+p.tasks≤40;rotate_left
 ·have g3:decide (s+p.tasks≤40)=false:=by simp;omega
  have HD:=Lib.hid (show bo=false by rw [HRF.out];simp only [Bool.and_eq_false_iff,decide_eq_false_iff_not];omega)
  clear h1 h3 HRF
  go_enter Try.func158,Try.ntmps158
  go_wp2
  rw [←hw2];clear hw2;refine wp_region_quiet_below (by kernel_rfl) (by kernel_rfl) ?_
  repeat (go_big_quiet_step (first|exact Calls.regrown_of (cb (vp _ _ _ _) HW.out)|exact Calls.regrown_of (hcall _ (kA hB2 (below_regrown w2 _ _)))))
  refine wpQuiet_nil ?_;intro _ hw';obtain ⟨⟨dq,osq⟩,hw''⟩:=hw';subst hw''
  go_wp2
  go_ret
  exact ⟨jY (by rw [HD.out]),kA hB2 (below_regrown w2 dq osq)⟩
 have g3:decide (s+p.tasks≤40)=true:=by simp;omega
 by_cases h4:y.seq≤999999000-p.tasks
 ·have g4:decide (y.seq≤999999000-p.tasks)=true:=by simp;omega
  have HD:=Lib.hid (show bo=true by rw [HRF.out];simp only [Bool.and_eq_true,decide_eq_true_eq];omega)
  clear h1 h3 h4 HRF
  go_enter Try.func158,Try.ntmps158
  go_wp2
  rw [←hw2];clear hw2;refine wp_region_quiet_below (by kernel_rfl) (by kernel_rfl) ?_
  repeat (go_big_quiet_step (first|exact Calls.regrown_of (cb (vp _ _ _ _) HW.out)|exact Calls.regrown_of (hcall _ (kA hB2 (below_regrown w2 _ _)))))
  refine wpQuiet_nil ?_;intro _ hw';obtain ⟨⟨dq,osq⟩,hw''⟩:=hw';subst hw''
  go_wp2
  go_ret
  exact ⟨jY (by rw [HD.out]),kA hB2 (below_regrown w2 dq osq)⟩
 ·have g4:decide (y.seq≤999999000-p.tasks)=false:=by simp;omega
  have HD:=Lib.hid (show bo=false by rw [HRF.out];simp only [Bool.and_eq_false_iff,decide_eq_false_iff_not];omega)
  clear h1 h3 h4 HRF
  go_enter Try.func158,Try.ntmps158
  go_wp2
  rw [←hw2];clear hw2;refine wp_region_quiet_below (by kernel_rfl) (by kernel_rfl) ?_
  repeat (go_big_quiet_step (first|exact Calls.regrown_of (cb (vp _ _ _ _) HW.out)|exact Calls.regrown_of (hcall _ (kA hB2 (below_regrown w2 _ _)))))
  refine wpQuiet_nil ?_;intro _ hw';obtain ⟨⟨dq,osq⟩,hw''⟩:=hw';subst hw''
  go_wp2
  go_ret
  exact ⟨jY (by rw [HD.out]),kA hB2 (below_regrown w2 dq osq)⟩
def jbw (l:List UInt8):Int:=l.foldl (fun n c=>256*n+(c.toNat:Int)) 0
def kV (t:ByteArray) (k:Int):Int×Bool:=if 0≤k∧k≤(t.size:Int)-4 then (jbw ((t.data.toList.drop k.toNat).take 4),true) else (0,false)
theorem jp0 {B:List UInt8} {j:Nat} {u:UInt8} (h:B[j]?=some u):jbw (B.take (j+1))=256*jbw (B.take j)+(u.toNat:Int):=by
 rw [List.take_add_one,h,jbw,List.foldl_append];rfl
theorem jsF:∀(l:List UInt8) (a:Int) (n:Nat),0≤a→a<256^n→0≤l.foldl (fun n c=>256*n+(c.toNat:Int)) a∧l.foldl (fun n c=>256*n+(c.toNat:Int)) a<256^(n+l.length)
 |[],a,n,h0,h1=>⟨h0,h1⟩
 |c::l,a,n,h0,h1=>by
  have hc:(c.toNat:Int)<256:=by have:=UInt8.toNat_lt c;omega
  have:=jsF l (256*a+(c.toNat:Int)) (n+1) (by omega) (by rw [Int.pow_succ];omega)
  rw [List.foldl_cons,List.length_cons,show n+(l.length+1)=n+1+l.length by omega]
  exact this
theorem jxK (l:List UInt8) (h:l.length≤4):0≤jbw l∧jbw l<4294967296:=by
 have h1:=jsF l 0 0 (by omega) (by decide)
 refine ⟨h1.1,Int.lt_of_lt_of_le h1.2 ?_⟩;rw [Nat.zero_add];have:l.length=0∨l.length=1∨l.length=2∨l.length=3∨l.length=4:=by omega
 rcases this with e|e|e|e|e<;>rw [e]<;>decide
theorem jsw (s:ByteArray) (k:Int) (w:World) (hs:s.size≤1000000000) (hk0:-1000000000≤k) (hk1:k≤1000000000):
 Calls Try.prog 109 #[.string s,.int .i64 k] w fun e w'=>e=.returned (.tuple #[.int .i64 (kV s k).1,.bool (kV s k).2])∧Below w.heap.size w w':=by
 have hS:=Lib.hid hs;have hw4:IntKind.i64.wrap ((s.size:Int)-4)=(s.size:Int)-4:=jg (by omega) (by omega)
 by_cases hin:0≤k∧k≤(s.size:Int)-4
 ·have hib:inb k 0 ((s.size:Int)-4)=true:=decide_eq_true hin
  obtain ⟨k,rfl⟩:=Int.eq_ofNat_of_zero_le hin.1;have hkz:k+4≤s.size:=by omega
  have hw5:IntKind.i64.wrap ((k:Int)+4)=((k+4:Nat):Int):=jg (by omega) (by omega)
  have hfa:kV s (k:Int)=(jbw ((s.data.toList.drop k).take 4),true):=by rw [kV,if_pos hin,Int.toNat_natCast]
  rw [hfa];generalize hB:(s.data.toList.drop k).take 4=B at*
  go_enter Try.func109,Try.ntmps109
  go_wp2_with (go_at_call 61;refine (jdT _ _ _ _).mono ?_;rintro e2 w2 ⟨rfl,hb2⟩)
  have hcv:=Lib.run_convert_string_bytes (P:=Try.prog) w2 9 47 5 (s.extract k (k+4)) (u:=.string) (by kernel_rfl) (by kernel_rfl) (by kernel_rfl)
  have hbw:=Lib.bytesWorld_below w2 5 (s.extract k (k+4));have hcl:=Lib.bytesWorld_cell w2 5 (s.extract k (k+4));generalize Lib.bytesWorld w2 5 (s.extract k (k+4))=W1 at hcv hbw hcl;have hez:(s.extract k (k+4)).size=4:=by rw [ByteArray.size_extract];omega
  have hed:(s.extract k (k+4)).data.toList=B:=by
   rw [←hB,ByteArray.data_extract,Array.toList_extract,List.extract_eq_take_drop]
   congr 1;omega
  rw [hez,hed] at hcl;rw [hez] at hcv
  have hBl:B.length=4:=by
   rw [←hB,List.length_take,List.length_drop,Array.length_toList];have:s.data.size=s.size:=rfl;omega
  rw [hcv];clear hcv hed hez hB
  go_wp2
  go_loopw [6,8,22] (fun n _ i wr=>∃j:Nat,j≤4∧i=.int .i64 j∧n=.int .i64 (jbw (B.take j))∧wr=W1) (fun _ _ i _=>4-(RowKit.intOf i).toNat)
  case atStart=>exact ⟨0,by omega,rfl,rfl,rfl⟩
  case round=>
   obtain ⟨j,hj,rfl,rfl,rfl⟩:=hrel;by_cases hlt:j<4
   ·obtain ⟨u,hu⟩:=je (show j<B.length by omega)
    have p0:=hcl j hlt;have hug:B.getD j 0=u:=by rw [List.getD,hu];rfl
    rw [hug] at p0;have hst:=jp0 hu;have hB4:(B.take j).length≤4:=by rw [List.length_take];omega
    have hb4:=jxK (B.take j) hB4;have hul:=UInt8.toNat_lt u;have hw1:IntKind.i64.wrap (256*jbw (B.take j))=256*jbw (B.take j):=jg (by omega) (by omega)
    have hw3:IntKind.i64.wrap (u.toNat:Int)=(u.toNat:Int):=jg (by omega) (by omega)
    have hw2:IntKind.i64.wrap (256*jbw (B.take j)+IntKind.i64.wrap (u.toNat:Int))=jbw (B.take (j+1)):=by rw [hw3,hst];exact jg (by omega) (by omega)
    clear hcl
    go_wp2
    go_roundw
    case rel=>exact ⟨j+1,by omega,by go_num,congrArg (Value.int .i64) hst.symm,trivial⟩
    case measure=>simp [RowKit.intOf];omega
   ·obtain rfl:j=4:=by omega
    clear hcl;have hB4:B.take 4=B:=List.take_of_length_le (by omega)
    rw [hB4]
    go_wp2
    go_ret2
    exact ⟨by simp,kA hb2 hbw⟩
 ·have hib:inb k 0 ((s.size:Int)-4)=false:=decide_eq_false hin
  have hfa:kV s k=(0,false):=by rw [kV,if_neg hin]
  rw [hfa]
  go_enter Try.func109,Try.ntmps109
  go_wp2_with (go_at_call 61;refine (jdT _ _ _ _).mono ?_;rintro e2 w2 ⟨rfl,hb2⟩)
  go_ret2
  exact ⟨rfl,hb2⟩
theorem jj4 (t:ByteArray) (k:Int) (hs:t.size≤1000000000) (hk0:-1000000000≤k) (hk1:k≤1000000000):kl Try.prog 109 [.c (.val (.string t)),.c (.val (.int .i64 k))] (.tup [(false,[.val (.int .i64 (kV t k).1)]),(false,[.val (.bool (kV t k).2)])]):=by
 refine ⟨⟨_,Try.func109,by kernel_rfl,by kernel_rfl⟩,fun w xs hv=>?_⟩
 obtain ⟨a,xs,rfl,h1,hv⟩:=hv;obtain ⟨b,xs,rfl,h2,hv⟩:=hv;obtain rfl:xs=[]:=hv;rw [jbU h1,jbU h2];refine (jsw t k w hs hk0 hk1).mono ?_;rintro e w' ⟨rfl,hb⟩;refine ⟨_,[],rfl,?_,Fresh.nil _,hb⟩;refine ⟨[.int .i64 (kV t k).1,.bool (kV t k).2],rfl,?_⟩;refine ⟨_,_,[.int .i64 (kV t k).1],[],[],rfl,rfl,⟨_,_,[],[],rfl,rfl,⟨rfl,rfl⟩,rfl,rfl⟩,rfl,?_⟩;exact ⟨_,_,[.bool (kV t k).2],[],[],rfl,rfl,⟨_,_,[],[],rfl,rfl,⟨rfl,rfl⟩,rfl,rfl⟩,rfl,rfl,rfl⟩
end Go.Proofs.Ytmnpailnelmpiaa
