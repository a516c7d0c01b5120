/- Parts. -/
import Derived.Test.YtmnpailnelmpiaaGreatQTurnS
set_option linter.unusedSimpArgs false
set_option linter.unusedVariables false
set_option maxHeartbeats 8000000
set_option maxRecDepth 100000
namespace Go.Proofs.YtmnpailnelmpiaaGreat
open Go.RowKit Go.Sort
theorem jlA {k t:Nat} {y:Yd} {r:Rn} (hr:y.runs[k]?=some r) (hrun:vW r t=true):EpK Tryz.prog 225 k t y (jE r t):=by
 intro o b10 e2 e3 h10;refine qY (β:=7000000) Tryz.func225 jiW (by simp) ?_
 unfold jgT;obtain ⟨t',x,ht',hx,hs,hP⟩:=jcF hrun;obtain rfl:t=t':=by omega
 obtain ⟨n,hn,hn1,h12,h30,hes,hnd,-⟩:=jjh hP.plan;have hlen:=hP.len;have hkl:=(List.getElem?_eq_some_iff.1 hr).1;have htl':=(List.getElem?_eq_some_iff.1 hx).1;have h0t:(t:Int)≥0:=by omega
 have hx2:(r.tasks.set t ⟨x.state,x.need,x.tri,0⟩)[t]?=some ⟨x.state,x.need,x.tri,0⟩:=List.getElem?_set_self htl';have hS:∀r':Rn,(y.runs.set k r')[k]?=some r':=fun r'=>List.getElem?_set_self hkl
 have q1:=hS ⟨r.id,r.plan,r.state,r.tasks.set t ⟨x.state,x.need,x.tri,0⟩⟩;simp only [go_sem,h10,Nat.add_zero,htl',h0t,vi hr,vz hr,ki hr,jiE hx,jum hx,qH hr (jdV hx 0),vi q1,vz q1,ki q1,jno hx2,jmQ hx2,jBm q1,jAM q1];by_cases hm:x.tri<r.plan.most
 ·have hR:jE r t=⟨r.id,r.plan,r.state,r.tasks.set t ⟨2,x.need,x.tri,0⟩⟩:=by rw [vK hx hrun,jbw,if_pos hm]
  simp only [go_sem,Nat.add_zero,hm,hR,vi q1,vz q1,ki q1,zN hx2,vg hx2,zc hx2,qy hx2,qH q1 (jaK hx2 2),qH q1 (zw hx2 2),List.set_set];exact ⟨rfl,rfl,rfl,rfl,rfl,rfl⟩
 have hR:jE r t=⟨r.id,r.plan,3,zJ jS (r.tasks.set t ⟨5,x.need,x.tri,0⟩) r.tasks.length⟩:=by rw [vK hx hrun,jbw,if_neg hm]
 rw [hR,←jov hP hx hs];simp only [go_sem,Nat.add_zero,hm,vi q1,vz q1,ki q1,zN hx2,vg hx2,zc hx2,qy hx2,qH q1 (jaK hx2 5),qH q1 (zw hx2 5),List.set_set];have htl:(r.tasks.set t ⟨5,x.need,x.tri,0⟩).length=r.tasks.length:=by rw [List.length_set]
 generalize r.tasks.set t ⟨5,x.need,x.tri,0⟩=ts0 at*;refine kS (qY (β:=8000000) Tryz.func236 jcj (by simp) ?_)
 unfold jcu;have q2:=hS ⟨r.id,r.plan,r.state,ts0⟩;simp only [go_sem,Nat.add_zero,vi q2,vz q2,ki q2];refine jq (fun i:Nat=>St.of [(0,.c (.ep 90 3 [] (k*8) (e3 []))),(1,Ni t),(10,Ni ts0.length),(11,Ni i)] [(90,ky b10 tYd y.now y.seq y.shelf e2 (y.runs.set k ⟨r.id,r.plan,r.state,zJ (qn t) ts0 i⟩) e3),(91,o 91),(92,o 92),(93,o 93),(94,o 94),(95,o 95),(96,o 96),(97,o 97)]) (fun i=>i≤ts0.length) (fun i=>ts0.length-i) 0 (by (try dsimp only);first|omega|(simp;done)|(and_intros<;>first|omega|simp)) (jk [some 90,some 91,some 92,some 93,some 94,some 95,some 96,some 97] (by simp only [go_sem,jd,ja,jpj,jQ]<;>and_intros<;>first|rfl|assumption|trivial)) ?_
 rintro j hj;have hml:=zy (f:=qn t) (ts:=ts0) (k:=j);by_cases hlt:j<ts0.length
 ·have hlt':(j:Int)<ts0.length:=by omega
  have h0j:(j:Int)≥0:=by omega
  obtain ⟨z,hz⟩:=je hlt;have hyk:=jeD (f:=qn t) hz;have hset:=jeC (f:=qn t) hz;have hsame:=jmE (f:=qn t) hz;generalize zJ (qn t) ts0 j=M at*;have hw:IntKind.i64.wrap ((j:Int)+1)=((j+1:Nat):Int):=jo (by omega) (by omega)
  have hlm:j<M.length:=by omega
  have p1:=hS ⟨r.id,r.plan,r.state,M⟩;cases hne:(j:Int) !=(t:Int)
  ·have hg:qn t j z=z:=by have:(j:Int)=t:=by simpa using hne
                          simp [qn,this]
   have hq:=hsame hg;simp only [go_sem,jd,ja,Nat.add_zero,hml,hlt',h0j,hlt,vi p1,vz p1,ki p1,hne,hw];exact ⟨j+1,by (try dsimp only);first|omega|assumption|(and_intros<;>first|omega|assumption),(jk [some 90,some 91,some 92,some 93,some 94,some 95,some 96,some 97] (by simp only [go_sem,jd,ja,hq,jQ]<;>and_intros<;>first|rfl|assumption|trivial)),by (try dsimp only);omega⟩
  have hne':¬(j:Int)=t:=by simpa using hne
  cases hc4:z.state !=4
  ·have hg:qn t j z=z:=by have:z.state=4:=by simpa using hc4
                          simp [qn,this]
   have hq:=hsame hg;simp only [go_sem,jd,ja,Nat.add_zero,hml,hlt',h0j,hlt,vi p1,vz p1,ki p1,hne,zN hyk,zc hyk,vg hyk,qy hyk,hc4,hw];exact ⟨j+1,by (try dsimp only);first|omega|assumption|(and_intros<;>first|omega|assumption),(jk [some 90,some 91,some 92,some 93,some 94,some 95,some 96,some 97] (by simp only [go_sem,jd,ja,hq,jQ]<;>and_intros<;>first|rfl|assumption|trivial)),by (try dsimp only);omega⟩
  ·have hg:qn t j z=⟨6,z.need,z.tri,0⟩:=by
    have h1:¬z.state=4:=by simpa using hc4
    simp [qn,h1,hne']
   rw [hg] at hset;have hyk2:(M.set j ⟨6,z.need,z.tri,z.til⟩)[j]?=some ⟨6,z.need,z.tri,z.til⟩:=List.getElem?_set_self hlm;have p2:=hS ⟨r.id,r.plan,r.state,M.set j ⟨6,z.need,z.tri,z.til⟩⟩;simp only [go_sem,jd,ja,Nat.add_zero,hml,hlt',h0j,hlt,vi p1,vz p1,ki p1,hne,zN hyk,zc hyk,vg hyk,qy hyk,hc4,qH p1 (jaK hyk 6),qH p1 (zw hyk 6),vi p2,vz p2,ki p2,qH p2 (jdV hyk2 0),jiE hyk2,jum hyk2,List.set_set,hset,hw];exact ⟨j+1,by (try dsimp only);first|omega|assumption|(and_intros<;>first|omega|assumption),(jk [some 90,some 91,some 92,some 93,some 94,some 95,some 96,some 97] (by simp only [go_sem,jd,ja,jQ]<;>and_intros<;>first|rfl|assumption|trivial)),by (try dsimp only);omega⟩
 have hlt':¬(j:Int)<ts0.length:=by omega
 obtain rfl:j=ts0.length:=by omega
 rw [←htl];generalize zJ (qn t) ts0 ts0.length=M at*;have p3:=hS ⟨r.id,r.plan,r.state,M⟩;simp only [go_sem,jd,ja,Nat.add_zero,hml,hlt',jw8 p3,jwT p3,jsN p3,List.set_set];exact ⟨rfl,rfl,rfl,rfl,rfl,rfl⟩
noncomputable def jcZ (y:Yd) (id task tri:Int):Yd:=if jaJ y id task tri=0 then qd y (runAt y id).toNat (jE ((y.runs[(runAt y id).toNat]?).getD default) task) else y
def ji4:C:=iS [iA 4 (.box 37 4 (.t 0)),iA 8 (.alloc 37 [.int .i64 0,.int .i64 0,.slice none 0 0,.slice none 0 0]),iA 9 (iN 0)] (iS [iA 13 (iT 4 4),iA 14 (.call 105 [.t 13]),iA 10 (.alloc 37 [.int .i64 0,.int .i64 0,.slice none 0 0,.slice none 0 0]),iC (.st 4 [none,none,some (1,102),some (8,108)] (.t 10) (.t 14))] (iS [iA 15 (iT 4 4),iA 16 (iM 1),iA 17 (iM 2),iA 18 (iM 3),iA 19 (.call 196 [.t 15,.t 16,.t 17,.t 18]),iA 11 (iM 19)] (.seq (iS [iA 20 (iM 11),iA 21 (iQ .neq 3 20 0)] (iD 21 (iS [iA 22 (iT 4 10),iA 23 (iM 11),iC (.st 4 [none,none,some (1,102),some (8,108)] (.t 8) (.t 22)),iA 9 (iM 23)] .ret) .skip)) (iS [iA 24 (iT 4 4),iA 25 (iM 1),iA 26 (.call 152 [.t 24,.t 25]),iA 12 (iM 26)] (.seq (.dreg (T.pure 0 (iA 27 (iT 4 10)) (T.pure 1 (iA 28 (iM 12)) (T.pure 2 (iA 29 (iF 3 10)) (T.pure 3 (iA 30 (iL 29)) (T.pure 4 (iA 31 (iM 12)) (T.pure 5 (iA 32 (iI 8 30 31)) (T.pure 6 (iA 33 (iT 8 32)) (T.pure 7 (iA 34 (iM 2)) (T.alt (iA 35 (.call 199 [.t 33,.t 34])) [1,0] (T.alt (iA 36 (.call 197 [.t 27,.t 28,.t 35])) [] (T.alt (iC (.st 4 [none,none,some (1,102),some (8,108)] (.t 8) (.t 36))) [] (T.pure 11 (iA 9 (iN 0)) T.done) T.stop) T.stop) T.stop)))))))))) .ret)))))
theorem jjJ:fnC Tryz.prog Tryz.f109=some (ji4,[.cell 8 true 4,.t 9],37):=by kernel_rfl
theorem jnW (y:Yd) (id task tri:Int) (ht:jt y≤2000000):ka Tryz.prog 109 [.agg (jb y),.c (.val (.int .i64 id)),.c (.val (.int .i64 task)),.c (.val (.int .i64 tri))] (.tup [(true,jb (jcZ y id task tri)),(false,[.val (.int .i64 (jaJ y id task tri))])]):=by
 refine zl [[1,1,1,1,1,0]] Tryz.func109 jjJ (by simp) ?_
 unfold ji4;simp only [C.ghs,C.ghAt,List.foldr];simp only [go_sem,jb];intro b4 b8;refine jc (kg y ht) (by simp only [go_sem,jb]) fun ηc=>?_
 simp only [go_sem,jb];intro b10;refine jc (jez y id task tri ht) (by simp only [go_sem,jb]) fun η=>?_
 simp only [go_sem,jb];cases h0:jaJ y id task tri !=0;rotate_left
 ·have hy:jcZ y id task tri=y:=by rw [jcZ,if_neg (by simpa using h0)]
  simp only [go_sem,jb,h0,hy];refine kZ _ _ _ _ _ ?_;simp only [go_sem,jb]
 have h0':jaJ y id task tri=0:=by simpa using h0
 obtain ⟨hok,hneg⟩:=joF h0';obtain ⟨k,r,hrk,hr,hid,h8⟩:=qW hneg;have hk:=(List.getElem?_eq_some_iff.1 hr).1;have h0k:(k:Int)≥0:=by omega
 have hk0:¬(k:Int)<0:=by omega
 have hY:jcZ y id task tri=qd y k (jE r task):=by rw [jcZ,if_pos h0',hrk,Int.toNat_natCast,hr,Option.getD_some]
 rw [hY,h0'];simp only [go_sem,jb,h0];refine jc (qj y id) (by simp only [go_sem,jb]) fun η=>?_
 simp only [go_sem,jb];refine vl ?_;refine WkK.wk (s':=St.of [(2,Ni task),(8,Bx 92 b8),(10,Bx 90 b10),(12,Ni k)] [(92,ZYd b8 tYd),(90,ky b10 tYd y.now y.seq y.shelf (ηc 2) y.runs (ηc 3))]) (jk [some 800,some 1000] (by simp only [go_sem,jb,hrk]<;>and_intros<;>first|rfl|assumption|trivial)) ?_
 refine WkK.of ?_;have hrb:=jbX ht (List.mem_of_getElem? hr);simp only [go_sem,jb,hk0,h0k,hk,jjQ hr,jeJ hr,jd,ja];refine jc (jah r task hrb.1 hrb.2) (by simp only [go_sem,jb,jd,ja,jZ hr,ko hr]) fun ηr=>?_
 simp only [go_sem,jb,jd,ja,jZ hr,ko hr];have hrl:(jE r task).tasks.length=r.tasks.length:=qh r task;have hr12:r.tasks.length≤12:=(hok.right r (List.mem_of_getElem? hr)).le12;generalize jE r task=r2 at*;refine jbd [some 90,some 92,some 3505,some 3507] [(90,ky b10 tYd y.now y.seq y.shelf (ηc 2) y.runs (ηc 3)),(92,ZYd b8 tYd),(97,.loose (jB r2.plan.edges) (ηr 5)),(98,.loose (jw r2.tasks) (ηr 7))] [.agg [.v (.int .i64 y.now),.v (.int .i64 y.seq),.h 90 2 [] (ηc 2 []),.h 90 3 [] (ηc 3 [])],Ni k,.agg [.v (.int .i64 r2.id),.v (.int .i64 r2.plan.prio),.v (.int .i64 r2.plan.most),.v (.int .i64 r2.plan.wait),.v (.int .i64 r2.plan.tasks),.h 97 0 [] (ηr 5 []),.v (.int .i64 r2.state),.h 98 0 [] (ηr 7 [])]] (by simp only [go_sem]<;>and_intros<;>rfl) (by simp only [go_sem]<;>and_intros<;>rfl) (jeI hr hrl hr12 hok.four (by have:=hok.seq;omega) ht rfl rfl rfl) ?_
 rintro _ o1 ⟨c,g2,g3,x2,x3,rfl,j99,j90,j91,j92,j93,j94,j95,j96⟩;have j92':o1 92=ZYd b8 tYd:=j92;generalize qd y k r2=z2 at*;simp only [go_sem,j99,j90,j92'];refine kZ _ _ _ _ _ ?_;simp only [go_sem,jb,j99,j90,j92']
def ji8:C:=iS [iA 4 (.box 37 4 (.t 0)),iA 6 (.box 3 1 (.t 2)),iA 8 (.alloc 37 [.int .i64 0,.int .i64 0,.slice none 0 0,.slice none 0 0]),iA 9 (iN 0)] (iS [iA 12 (iT 4 4),iA 13 (.call 118 [.t 12]),iA 10 (.alloc 37 [.int .i64 0,.int .i64 0,.slice none 0 0,.slice none 0 0]),iC (.st 4 [none,none,some (1,102),some (8,108)] (.t 10) (.t 13))] (iS [iA 14 (iT 4 4),iA 15 (iM 1),iA 16 (iL 6),iA 17 (iM 3),iA 18 (.call 220 [.t 14,.t 15,.t 16,.t 17]),iA 11 (iM 18)] (.seq (iS [iA 19 (iM 11),iA 20 (iQ .eql 3 19 0)] (iD 20 (.reg [iA 21 (iT 4 4),iA 22 (iM 1),iA 23 (.call 56 [.t 21,.t 22]),iA 24 (.mkf 224 [.t 6]),iA 25 (.call 221 [.t 10,.t 23,.t 24])]) .skip)) (iS [iA 26 (iT 4 10),iA 27 (iM 11),iC (.st 4 [none,none,some (1,102),some (8,108)] (.t 8) (.t 26)),iA 9 (iM 27)] .ret))))
theorem jjO:fnC Tryz.prog Tryz.f122=some (ji8,[.cell 8 true 4,.t 9],28):=by kernel_rfl
def jfx:C:=.reg [iA 3 (iM 0),iA 4 (iL 1),iA 5 (.call 225 [.t 3,.t 4])]
theorem jhA:fnC Tryz.prog Tryz.f224=some (jfx,[],6):=by kernel_rfl
theorem jt8 {k t b6:Nat} {y:Yd} {r:Rn} (hr:y.runs[k]?=some r) (hrun:vW r t=true):juA Tryz.prog 224 [.bp 91 0 b6] (.box b6 jfI [.a (.v (.int .i64 t))]) k y (jE r t):=by
 intro o b e2 e3 h90 h91;refine jhG (β:=6000000) Tryz.func224 jhA (by simp) ?_
 unfold jfx;simp only [go_sem,h91];refine vJ (by simp only [go_sem]) (jlA hr hrun _ b e2 e3 (by simp only [go_sem];exact h90)) ?_
 rintro _ o1 ⟨rfl,j90,j91,j92,j93,j94,j95,j96,j97⟩;simp only [go_sem] at j91 j92 j93 j94 j95 j96 j97;rw [h91] at j91;exact ⟨.tup [],⟨by decide,rfl⟩,rfl,rfl,j90,j91,j92,j93,j94,j95,j96,j97⟩
theorem jnZ (y:Yd) (id task tri:Int) (ht:jt y≤2000000):ka Tryz.prog 122 [.agg (jb y),.c (.val (.int .i64 id)),.c (.val (.int .i64 task)),.c (.val (.int .i64 tri))] (.tup [(true,jb (jcZ y id task tri)),(false,[.val (.int .i64 (jaJ y id task tri))])]):=by
 refine zl [[1,1,1,0,1,0]] Tryz.func122 jjO (by simp) ?_
 unfold ji8;simp only [C.ghs,C.ghAt,List.foldr];simp only [go_sem,jb];intro b4 b6 b8;refine jc (jW y ht) (by simp only [go_sem,jb]) fun ηc=>?_
 simp only [go_sem,jb];intro b10;refine jc (jip y id task tri ht) (by simp only [go_sem,jb]) fun η=>?_
 simp only [go_sem,jb];cases h0:jaJ y id task tri==0
 ·have hy:jcZ y id task tri=y:=by rw [jcZ,if_neg (by simpa using h0)]
  simp only [go_sem,jb,h0,hy];refine kZ _ _ _ _ _ ?_;simp only [go_sem,jb]
 have h0':jaJ y id task tri=0:=by simpa using h0
 obtain ⟨hok,hneg⟩:=joF h0';obtain ⟨k,r,hrk,hr,hid,h8⟩:=qW hneg;obtain ⟨t,rfl,hrun⟩:=jpr h0' hrk hr;have hY:jcZ y id t tri=qd y k (jE r t):=by rw [jcZ,if_pos h0',hrk,Int.toNat_natCast,hr,Option.getD_some]
 have hr12:r.tasks.length≤12:=(hok.right r (List.mem_of_getElem? hr)).le12;rw [hY,h0'];simp only [go_sem,jb,h0];refine vl ?_;generalize ηc 2=η2 at*;generalize ηc 3=η3 at*;refine WkK.wk (s':=St.of [(1,Ni id),(4,Bx 93 b4),(6,Bx 91 b6),(8,Bx 92 b8),(10,Bx 90 b10),(11,Ni 0)] [(93,Bi b4 tYd (jb y)),(91,.box b6 jfI [.a (.v (.int .i64 t))]),(92,ZYd b8 tYd),(90,ky b10 tYd y.now y.seq y.shelf η2 y.runs η3)]) (jk [some 400,some 600,some 800,some 1000] (by simp only [go_sem,jb]<;>and_intros<;>first|rfl|assumption|trivial)) ?_
 refine WkK.of ?_;simp only [go_sem,jb];refine jc (qm y id) (by simp only [go_sem,jb]) fun η=>?_
 simp only [go_sem,jb];rw [hrk];refine vJ (vs:=[Bx 90 b10,Ni k,.fn 224 [.bp 91 0 b6]]) (by simp only [go_sem]) (jcQ hr (qh r t) hr12 hok.four (by have:=hok.seq;omega) ht (jt8 hr hrun) (e2:=η2) (e3:=η3) (by simp only [go_sem]) (by simp only [go_sem])) ?_
 rintro _ o1 ⟨rfl,⟨e2',e3',j90⟩,j91,j92,j93,j94,j95,j96⟩;simp only [go_sem] at j92;generalize qd y k (jE r t)=y2 at*;simp only [go_sem,j90,j92];refine kZ _ _ _ _ _ ?_;simp only [go_sem,jb]
def jdA:C:=iS [iA 1 (.box 37 4 (.t 0)),iA 2 (.alloc 37 [.int .i64 0,.int .i64 0,.slice none 0 0,.slice none 0 0])] (iS [iA 6 (iT 4 1),iA 7 (.call 105 [.t 6]),iA 3 (.alloc 37 [.int .i64 0,.int .i64 0,.slice none 0 0,.slice none 0 0]),iC (.st 4 [none,none,some (1,102),some (8,108)] (.t 3) (.t 7))] (.seq (iS [iA 8 (iT 4 1),iA 9 (.call 72 [.t 8]),iA 10 (iU 9)] (iD 10 (iS [iA 11 (iT 4 3),iC (.st 4 [none,none,some (1,102),some (8,108)] (.t 2) (.t 11))] .ret) .skip)) (.seq (iS [iA 4 (iN 0)] (.blk 0 (.loop (.seq (iS [iA 12 (iM 4),iA 13 (iF 3 3),iA 14 (iL 13),iA 15 (iG 14),iA 16 (iP .lss 3 12 15)] (iD 16 .skip (.exit 0))) (.seq (.blk 1 (iS [iA 5 (iN 0)] (.blk 2 (.loop (.seq (iS [iA 19 (iM 5),iA 20 (iF 3 3),iA 21 (iL 20),iA 22 (iM 4),iA 23 (iI 8 21 22),iA 24 (iF 7 23),iA 25 (iL 24),iA 26 (iG 25),iA 27 (iP .lss 3 19 26)] (iD 27 .skip (.exit 2))) (.seq (.blk 3 (iS [iA 30 (iF 3 3),iA 31 (iL 30),iA 32 (iM 4),iA 33 (iI 8 31 32),iA 34 (iF 7 33),iA 35 (iL 34),iA 36 (iM 5),iA 37 (iI 4 35 36),iA 38 (iF 0 37),iA 39 (iL 38),iA 40 (iQ .eql 3 39 3)] (iD 40 (.dreg (T.pure 0 (iA 41 (iT 4 3)) (T.pure 1 (iA 42 (iM 4)) (T.pure 2 (iA 43 (iF 3 3)) (T.pure 3 (iA 44 (iL 43)) (T.pure 4 (iA 45 (iM 4)) (T.pure 5 (iA 46 (iI 8 44 45)) (T.pure 6 (iA 47 (iT 8 46)) (T.pure 7 (iA 48 (iM 5)) (T.alt (iA 49 (.call 199 [.t 47,.t 48])) [1,0] (T.alt (iA 50 (.call 197 [.t 41,.t 42,.t 49])) [] (T.alt (iC (.st 4 [none,none,some (1,102),some (8,108)] (.t 3) (.t 50))) [] T.done T.stop) T.stop) T.stop)))))))))) .skip))) (.reg [iA 28 (iM 5),iA 29 (iQ .add 3 28 1),iA 5 (iM 29)]))))))) (.reg [iA 17 (iM 4),iA 18 (iQ .add 3 17 1),iA 4 (iM 18)])))))) (iS [iA 51 (iT 4 3),iC (.st 4 [none,none,some (1,102),some (8,108)] (.t 2) (.t 51))] .ret))))
theorem jgi:fnC Tryz.prog Tryz.f113=some (jdA,[.cell 2 true 4],52):=by kernel_rfl
def jdK:C:=iS [iA 1 (.box 37 4 (.t 0)),iA 2 (.alloc 37 [.int .i64 0,.int .i64 0,.slice none 0 0,.slice none 0 0])] (iS [iA 8 (iT 4 1),iA 9 (.call 118 [.t 8]),iA 3 (.alloc 37 [.int .i64 0,.int .i64 0,.slice none 0 0,.slice none 0 0]),iC (.st 4 [none,none,some (1,102),some (8,108)] (.t 3) (.t 9))] (.seq (iS [iA 10 (iT 4 1),iA 11 (.call 59 [.t 10]),iA 12 (iU 11)] (iD 12 (iS [iA 13 (iT 4 3),iC (.st 4 [none,none,some (1,102),some (8,108)] (.t 2) (.t 13))] .ret) .skip)) (.seq (iS [iA 14 (iF 3 1),iA 15 (iL 14),iA 16 (iG 15),iA 17 (iN 0)] (.blk 0 (.loop (iS [iA 18 (iP .lss 3 17 16)] (.seq (iD 18 .skip (.exit 0)) (.seq (.blk 1 (iS [iA 19 (iM 17),iA 20 (iI 8 15 17),iA 21 (iT 8 20),iA 5 (.alloc 108 [.int .i64 0,.int .i64 0,.int .i64 0,.int .i64 0,.int .i64 0,.slice none 0 0,.int .i64 0,.slice none 0 0]),iA 4 (iM 19),iC (.st 8 [none,none,none,none,none,some (2,253),none,some (4,172)] (.t 5) (.t 21))] (iS [iA 22 (iF 7 5),iA 23 (iL 22),iA 24 (iG 23),iA 25 (iN 0)] (.blk 2 (.loop (iS [iA 26 (iP .lss 3 25 24)] (.seq (iD 26 .skip (.exit 2)) (.seq (.blk 3 (iS [iA 27 (iM 25),iA 28 (iI 4 23 25),iA 29 (iT 4 28),iA 6 (.alloc 3 [.int .i64 0]),iA 7 (.alloc 172 [.int .i64 0,.int .i64 0,.int .i64 0,.int .i64 0]),iC (.st 1 [none] (.t 6) (.t 27)),iC (.st 4 [none,none,none,none] (.t 7) (.t 29))] (iS [iA 30 (iT 4 3),iA 31 (iF 0 5),iA 32 (iL 31),iA 33 (iL 6),iA 34 (iF 2 7),iA 35 (iL 34),iA 36 (.call 227 [.t 30,.t 32,.t 33,.t 35])] (iD 36 (.reg [iA 37 (iM 4),iA 38 (.mkf 229 [.t 6]),iA 39 (.call 221 [.t 3,.t 37,.t 38])]) .skip)))) (.reg [iA 40 (iQ .add 3 25 1),iA 25 (iM 40)]))))))))) (.reg [iA 41 (iQ .add 3 17 1),iA 17 (iM 41)]))))))) (iS [iA 42 (iT 4 3),iC (.st 4 [none,none,some (1,102),some (8,108)] (.t 2) (.t 42))] .ret))))
theorem jgs:fnC Tryz.prog Tryz.f124=some (jdK,[.cell 2 true 4],43):=by kernel_rfl
def jbI:C:=.reg [iA 3 (iM 0),iA 4 (iL 1),iA 5 (.call 225 [.t 3,.t 4])]
theorem jed:fnC Tryz.prog Tryz.f229=some (jbI,[],6):=by kernel_rfl
theorem jjt (y:Yd) (ht:jt y≤1990000):ka Tryz.prog 113 [.agg (jb y)] (.agg (jb (jcV y))):=by
 refine jr Tryz.func113 jgi (by simp) ?_
 unfold jdA;have ht2:jt y≤2000000:=by omega
 simp only [go_sem,jb];intro b1 b2;refine jc (kg y ht2) (by simp only [go_sem,jb]) fun ηc=>?_
 simp only [go_sem,jb];intro b3;refine jc (qi y ht2) (by simp only [go_sem,jb]) fun η=>?_
 simp only [go_sem,jb];cases hok:jD y
 ·have hy:jcV y=y:=by simp [jcV,hok]
  simp only [go_sem,jb,hok,hy]
 have hP:=yard_iff.1 hok;have hy:jcV y=restR y y.runs.length:=by simp [jcV,hok]
 rw [hy];simp only [go_sem,jb,hok];have h8:=hP.eight;refine jq (fun i:Nat×jp×jp=>St.of [(2,Bx 92 b2),(3,Bx 90 b3),(4,Ni i.1)] [(92,ZYd b2 tYd),(90,ky b3 tYd (restR y i.1).now (restR y i.1).seq (restR y i.1).shelf i.2.1 (restR y i.1).runs i.2.2)]) (fun i=>i.1≤y.runs.length) (fun i=>y.runs.length-i.1) (0,ηc 2,ηc 3) (by (try dsimp only);first|omega|(simp;done)|(and_intros<;>first|omega|simp)) (jk [some 200,some 300] (by simp only [go_sem,jb,restR]<;>and_intros<;>first|rfl|assumption|trivial)) ?_
 rintro ⟨k,e2,e3⟩ hk;dsimp only at hk;have hI:=StepI.restR hP k;by_cases hlt:k<y.runs.length
 ·obtain ⟨r0,hr0⟩:=je hlt
  have hr012:=(hP.right r0 (List.mem_of_getElem? hr0)).le12;have hnx:restR y (k+1)=restT (restR y k) k r0.tasks.length:=by rw [restR,hr0,Option.getD_some]
  have hIt:=hI.restT k;have hw:IntKind.i64.wrap ((k:Int)+1)=((k+1:Nat):Int):=jo (by omega) (by omega)
  have hlz:(restR y k).runs.length=y.runs.length:=hI.later.len;have hlt':(k:Int)<(restR y k).runs.length:=by omega
  generalize restR y k=z0 at*;simp only [go_sem,hlt'];refine jq (fun i:Nat×jp×jp=>St.of [(2,Bx 92 b2),(3,Bx 90 b3),(4,Ni k),(5,Ni i.1)] [(92,ZYd b2 tYd),(90,ky b3 tYd (restT z0 k i.1).now (restT z0 k i.1).seq (restT z0 k i.1).shelf i.2.1 (restT z0 k i.1).runs i.2.2)]) (fun i=>i.1≤r0.tasks.length) (fun i=>r0.tasks.length-i.1) (0,e2,e3) (by (try dsimp only);first|omega|(simp;done)|(and_intros<;>first|omega|simp)) (jk [some 92,some 90] (by simp only [go_sem,restT]<;>and_intros<;>first|rfl|assumption|trivial)) ?_
  rintro ⟨t,f2,f3⟩ hti;dsimp only at hti;have hJ:=hIt t;have hnt:restT z0 k (t+1)=jaM (restT z0 k t) k t:=rfl;generalize hz:restT z0 k t=z at*;obtain ⟨r,hr,hid,hpl,hR,hrl,hr3⟩:=hJ.later.runs k r0 hr0;have hkl:=(List.getElem?_eq_some_iff.1 hr).1;have h0k:(k:Int)≥0:=by omega
  have h12:=hR.le12;by_cases hlt2:t<r0.tasks.length
  ·have hlt3:t<r.tasks.length:=by omega
   have hlt3':(t:Int)<r.tasks.length:=by omega
   have h0t:(t:Int)≥0:=by omega
   obtain ⟨x,hx⟩:=je hlt3;have hwt:IntKind.i64.wrap ((t:Int)+1)=((t+1:Nat):Int):=jo (by omega) (by omega)
   have hfy:jaM z k t=if x.state==3 then qd z k (jE r t) else z:=by rw [jaM,hr,Option.getD_some,vn hx]
   simp only [go_sem,Nat.add_zero,hkl,h0k,vi hr,vz hr,ki hr,hlt3',hlt3,h0t,zN hx,vg hx];cases hs:x.state==3
   ·rw [hs,if_neg (by decide)] at hfy
    rw [hfy] at hnt;simp only [go_sem,hs,hwt];exact ⟨(t+1,f2,f3),by (try dsimp only);first|omega|assumption|(and_intros<;>first|omega|assumption),(jk [some 92,some 90] (by simp only [go_sem,hnt]<;>and_intros<;>first|rfl|assumption|trivial)),by (try dsimp only);omega⟩
   ·rw [hs,if_pos rfl] at hfy
    rw [hfy] at hnt;simp only [go_sem,hs,Nat.add_zero,hkl,h0k,jjQ hr,jeJ hr,jd,ja];refine jc (jah r t (by have:=jjh hR.plan;obtain ⟨n,_,_,_,h30,_⟩:=this;omega) (by omega)) (by simp only [go_sem,jd,ja,jZ hr,ko hr]) fun ηr=>?_
    simp only [go_sem,jd,ja,jZ hr,ko hr];have hl2:=qh r t;generalize jE r t=r2 at*;refine jbd [some 90,some 92,some 4905,some 4907] [(90,ky b3 tYd z.now z.seq z.shelf f2 z.runs f3),(92,ZYd b2 tYd),(97,.loose (jB r2.plan.edges) (ηr 5)),(98,.loose (jw r2.tasks) (ηr 7))] [.agg [.v (.int .i64 z.now),.v (.int .i64 z.seq),.h 90 2 [] (f2 []),.h 90 3 [] (f3 [])],Ni k,.agg [.v (.int .i64 r2.id),.v (.int .i64 r2.plan.prio),.v (.int .i64 r2.plan.most),.v (.int .i64 r2.plan.wait),.v (.int .i64 r2.plan.tasks),.h 97 0 [] (ηr 5 []),.v (.int .i64 r2.state),.h 98 0 [] (ηr 7 [])]] (by simp only [go_sem]<;>and_intros<;>rfl) (by simp only [go_sem]<;>and_intros<;>rfl) (jeI hr hl2 h12 hJ.four (by have:=hJ.seq;omega) (by have:=hJ.tot;omega) rfl rfl rfl) ?_
    rintro _ o1 ⟨c,g2,g3,x2,x3,rfl,j99,j90,j91,j92,j93,j94,j95,j96⟩;have j92':o1 92=ZYd b2 tYd:=j92;generalize qd z k r2=z2 at*;simp only [go_sem,j99,j90,j92',hwt];exact ⟨(t+1,g2,g3),by (try dsimp only);first|omega|assumption|(and_intros<;>first|omega|assumption),(jk [some 92,some 90] (by simp only [go_sem,hnt,j90,j92']<;>and_intros<;>first|rfl|assumption|trivial)),by (try dsimp only);omega⟩
  ·have hlt3':¬(t:Int)<r.tasks.length:=by omega
   obtain rfl:t=r0.tasks.length:=by omega
   rw [hz] at hnx;simp only [go_sem,Nat.add_zero,hkl,h0k,vi hr,vz hr,ki hr,hlt3',hw];exact ⟨(k+1,f2,f3),by (try dsimp only);first|omega|assumption|(and_intros<;>first|omega|assumption),(jk [some 92,some 90] (by simp only [go_sem,hnx]<;>and_intros<;>first|rfl|assumption|trivial)),by (try dsimp only);omega⟩
 have hlz:(restR y k).runs.length=y.runs.length:=hI.later.len;have hlt':¬(k:Int)<(restR y k).runs.length:=by omega
 obtain rfl:k=y.runs.length:=by omega
 generalize restR y y.runs.length=z at*;simp only [go_sem,hlt',jb]
theorem jm7 {k t b6:Nat} {y:Yd} {r:Rn} (hr:y.runs[k]?=some r) (hrun:vW r t=true):juA Tryz.prog 229 [.bp 91 0 b6] (.box b6 jfI [.a (.v (.int .i64 t))]) k y (jE r t):=by
 intro o b e2 e3 h90 h91;refine jhG (β:=6000000) Tryz.func229 jed (by simp) ?_
 unfold jbI;simp only [go_sem,h91];refine vJ (by simp only [go_sem]) (jlA hr hrun _ b e2 e3 (by simp only [go_sem];exact h90)) ?_
 rintro _ o1 ⟨rfl,j90,j91,j92,j93,j94,j95,j96,j97⟩;simp only [go_sem] at j91 j92 j93 j94 j95 j96 j97;rw [h91] at j91;exact ⟨.tup [],⟨by decide,rfl⟩,rfl,rfl,j90,j91,j92,j93,j94,j95,j96,j97⟩
theorem jjA (y:Yd) (ht:jt y≤1990000):ka Tryz.prog 124 [.agg (jb y)] (.agg (jb (jcV y))):=by
 refine zl [[1,1,1,0,1,0,0,1,1,0,0,1,1,0,0,1,1,0,0,1,1,0]] Tryz.func124 jgs (by simp) ?_
 unfold jdK;simp only [C.ghs,C.ghAt,List.foldr];have ht2:jt y≤2000000:=by omega
 simp only [go_sem,jb];intro b1 b2;refine jc (jW y ht2) (by simp only [go_sem,jb]) fun ηc=>?_
 simp only [go_sem,jb];intro b3;refine jc (ql y ht2) (by simp only [go_sem,jb]) fun η=>?_
 simp only [go_sem,jb];cases hok:jD y
 ·have hy:jcV y=y:=by simp [jcV,hok]
  simp only [go_sem,jb,hok,hy]
 have hP:=yard_iff.1 hok;have hy:jcV y=restR y y.runs.length:=by simp [jcV,hok]
 rw [hy];simp only [go_sem,jb,hok];have h8:=hP.eight;refine jq (fun i:Nat×jp×jp=>St.of [(2,Bx 92 b2),(3,Bx 90 b3),(15,Ro (jM y.runs)),(16,Ni y.runs.length),(17,Ni i.1)] [(92,ZYd b2 tYd),(90,ky b3 tYd (restR y i.1).now (restR y i.1).seq (restR y i.1).shelf i.2.1 (restR y i.1).runs i.2.2)]) (fun i=>i.1≤y.runs.length) (fun i=>y.runs.length-i.1) (0,ηc 2,ηc 3) (by (try dsimp only);first|omega|(simp;done)|(and_intros<;>first|omega|simp)) (jk [some 200,some 300] (by simp only [go_sem,jb,restR]<;>and_intros<;>first|rfl|assumption|trivial)) ?_
 rintro ⟨k,e2,e3⟩ hk;dsimp only at hk;have hI:=StepI.restR hP k;by_cases hlt:k<y.runs.length
 ·have hlt':(k:Int)<y.runs.length:=by omega
  obtain ⟨r0,hr0⟩:=je hlt;have hr012:=(hP.right r0 (List.mem_of_getElem? hr0)).le12;have hpl0:=hP.place k r0 hr0;have hnx:restR y (k+1)=restT (restR y k) k r0.tasks.length:=by rw [restR,hr0,Option.getD_some]
  have hIt:=hI.restT k;have hw:IntKind.i64.wrap ((k:Int)+1)=((k+1:Nat):Int):=jo (by omega) (by omega)
  generalize restR y k=z0 at*;simp only [go_sem,hlt',hlt,jU hr0,jd,ja];intro b5;refine jq (fun i:Nat×jp×jp=>St.of [(2,Bx 92 b2),(3,Bx 90 b3),(4,Ni k),(5,Bx 93 b5),(15,Ro (jM y.runs)),(16,Ni y.runs.length),(17,Ni k),(23,Ro (jw r0.tasks)),(24,Ni r0.tasks.length),(25,Ni i.1)] [(92,ZYd b2 tYd),(93,Bi b5 tRn (jd r0)),(90,ky b3 tYd (restT z0 k i.1).now (restT z0 k i.1).seq (restT z0 k i.1).shelf i.2.1 (restT z0 k i.1).runs i.2.2)]) (fun i=>i.1≤r0.tasks.length) (fun i=>r0.tasks.length-i.1) (0,e2,e3) (by (try dsimp only);first|omega|(simp;done)|(and_intros<;>first|omega|simp)) (jk [some 92,some 500,some 90] (by simp only [go_sem,restT,jd,ja]<;>and_intros<;>first|rfl|assumption|trivial)) ?_
  rintro ⟨t,f2,f3⟩ hti;dsimp only at hti;have hJ:=hIt t;have hnt:restT z0 k (t+1)=jaM (restT z0 k t) k t:=rfl;generalize hz:restT z0 k t=z at*;obtain ⟨r,hr,hid,hpl,hR,hrl,hr3⟩:=hJ.later.runs k r0 hr0;have h12:=hR.le12;by_cases hlt2:t<r0.tasks.length
  ·have hlt2':(t:Int)<r0.tasks.length:=by omega
   have hlt3:t<r.tasks.length:=by omega
   obtain ⟨x,hx⟩:=je hlt3;obtain ⟨x0,hx0⟩:=je hlt2;have hwt:IntKind.i64.wrap ((t:Int)+1)=((t+1:Nat):Int):=jo (by omega) (by omega)
   have hfy:jaM z k t=if x.state==3 then qd z k (jE r t) else z:=by rw [jaM,hr,Option.getD_some,vn hx]
   have hho:vS z r0.id t x0.tri=(x.state==3):=by rw [jkj hJ.later hr0 hpl0 hx0,hr,Option.getD_some,vn hx]
   simp only [go_sem,hlt2',hlt2,jT hx0,jn];intro b6 b7;simp only [go_sem,jd,ja];refine jc (jb2 z r0.id t x0.tri) (by simp only [go_sem,jb]) fun η=>?_
   simp only [go_sem,jb];rw [hho];cases hs:x.state==3
   ·rw [hs,if_neg (by decide)] at hfy
    rw [hfy] at hnt;simp only [go_sem,hs,hwt];exact ⟨(t+1,f2,f3),by (try dsimp only);first|omega|assumption|(and_intros<;>first|omega|assumption),(jk [some 92,some 93,some 90] (by simp only [go_sem,hnt,jd,ja]<;>and_intros<;>first|rfl|assumption|trivial)),by (try dsimp only);omega⟩
   ·rw [hs,if_pos rfl] at hfy
    rw [hfy] at hnt;have hs':x.state=3:=by simpa using hs
    simp only [go_sem,hs];refine vl ?_;refine WkK.wk (s':=St.of [(2,Bx 92 b2),(3,Bx 90 b3),(4,Ni k),(5,Bx 93 b5),(6,Bx 91 b6),(15,Ro (jM y.runs)),(16,Ni y.runs.length),(17,Ni k),(23,Ro (jw r0.tasks)),(24,Ni r0.tasks.length),(25,Ni t)] [(92,ZYd b2 tYd),(93,Bi b5 tRn (jd r0)),(90,ky b3 tYd z.now z.seq z.shelf f2 z.runs f3),(91,.box b6 jfI [.a (.v (.int .i64 t))])]) (jk [some 92,some 93,some 90,some 600] (by simp only [go_sem,jd,ja]<;>and_intros<;>first|rfl|assumption|trivial)) ?_
    refine WkK.of ?_;simp only [go_sem];refine vJ (vs:=[Bx 90 b3,Ni k,.fn 229 [.bp 91 0 b6]]) (by simp only [go_sem]) (jcQ hr (qh r t) h12 hJ.four (by have:=hJ.seq;omega) (by have:=hJ.tot;omega) (jm7 hr (jst hR hx hs')) (e2:=f2) (e3:=f3) (by simp only [go_sem]) (by simp only [go_sem])) ?_
    rintro _ o1 ⟨rfl,⟨g2,g3,j90⟩,j91,j92,j93,j94,j95,j96⟩;have j92':o1 92=ZYd b2 tYd:=j92;have j93':o1 93=Bi b5 tRn (jd r0):=j93;generalize qd z k (jE r t)=z2 at*;simp only [go_sem,hwt];exact ⟨(t+1,g2,g3),by (try dsimp only);first|omega|assumption|(and_intros<;>first|omega|assumption),(jk [some 92,some 93,some 90] (by simp only [go_sem,hnt,j90,j92',j93',jd,ja]<;>and_intros<;>first|rfl|assumption|trivial)),by (try dsimp only);omega⟩
  ·have hlt2':¬(t:Int)<r0.tasks.length:=by omega
   obtain rfl:t=r0.tasks.length:=by omega
   rw [hz] at hnx;simp only [go_sem,hlt2',hw];exact ⟨(k+1,f2,f3),by (try dsimp only);first|omega|assumption|(and_intros<;>first|omega|assumption),(jk [some 92,some 90] (by simp only [go_sem,hnx]<;>and_intros<;>first|rfl|assumption|trivial)),by (try dsimp only);omega⟩
 have hlt':¬(k:Int)<y.runs.length:=by omega
 obtain rfl:k=y.runs.length:=by omega
 generalize restR y y.runs.length=z at*;simp only [go_sem,hlt',jb]
end Go.Proofs.YtmnpailnelmpiaaGreat
