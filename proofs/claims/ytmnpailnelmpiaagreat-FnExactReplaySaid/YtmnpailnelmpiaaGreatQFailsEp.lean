/- Parts. -/
import Derived.Test.YtmnpailnelmpiaaGreatQLater
import Derived.Test.YtmnpailnelmpiaaGreatQTurnP
import Derived.Test.YtmnpailnelmpiaaGreatQTurnS
set_option linter.unusedSimpArgs false
set_option linter.unusedVariables false
set_option maxHeartbeats 8000000
set_option maxRecDepth 100000
namespace Go.Proofs.YtmnpailnelmpiaaGreat
open Go.RowKit Go.Sort
theorem jls {k t:Nat} {y:Yd} {r:Rn} (hr:y.runs[k]?=some r) (hrun:vS r t=true):EpK Tryz.prog 225 k t y (jE r t):=by
 intro o b10 e2 e3 h10;refine qW (β:=7000000) Tryz.func225 jiM (by simp) ?_
 unfold jgN;obtain ⟨t',x,ht',hx,hs,hP⟩:=jcE hrun;obtain rfl:t=t':=by omega
 obtain ⟨n,hn,hn1,h12,h30,hes,hnd,-⟩:=ji6 hP.plan;have hlen:=hP.len;have hkl:=(List.getElem?_eq_some_iff.1 hr).1;have htl':=(List.getElem?_eq_some_iff.1 hx).1;have h0t:(t:Int)≥0:=by omega
 have hx2:(r.tasks.set t ⟨x.state,x.need,x.tri,0⟩)[t]?=some ⟨x.state,x.need,x.tri,0⟩:=List.getElem?_set_self htl';have hS:∀r':Rn,(y.runs.set k r')[k]?=some r':=fun r'=>List.getElem?_set_self hkl
 have q1:=hS ⟨r.id,r.plan,r.state,r.tasks.set t ⟨x.state,x.need,x.tri,0⟩⟩;simp only [go_sem,h10,Nat.add_zero,htl',h0t,vg hr,vv hr,ki hr,jiw hx,jtZ hx,qG hr (jdT hx 0),vg q1,vv q1,ki q1,jnb hx2,jmF hx2,jA1 q1,jAs q1];by_cases hm:x.tri<r.plan.most
 ·have hR:jE r t=⟨r.id,r.plan,r.state,r.tasks.set t ⟨2,x.need,x.tri,0⟩⟩:=by rw [vG hx hrun,jby,if_pos hm]
  simp only [go_sem,Nat.add_zero,hm,hR,vg q1,vv q1,ki q1,zK hx2,ve hx2,vZ hx2,qx hx2,qG q1 (jaJ hx2 2),qG q1 (zr hx2 2),List.set_set];exact ⟨rfl,rfl,rfl,rfl,rfl,rfl⟩
 have hR:jE r t=⟨r.id,r.plan,3,zG jT (r.tasks.set t ⟨5,x.need,x.tri,0⟩) r.tasks.length⟩:=by rw [vG hx hrun,jby,if_neg hm]
 rw [hR,←joi hP hx hs];simp only [go_sem,Nat.add_zero,hm,vg q1,vv q1,ki q1,zK hx2,ve hx2,vZ hx2,qx hx2,qG q1 (jaJ hx2 5),qG q1 (zr hx2 5),List.set_set];have htl:(r.tasks.set t ⟨5,x.need,x.tri,0⟩).length=r.tasks.length:=by rw [List.length_set]
 generalize r.tasks.set t ⟨5,x.need,x.tri,0⟩=ts0 at*;refine kT (qW (β:=8000000) Tryz.func236 jcj (by simp) ?_)
 unfold jct;have q2:=hS ⟨r.id,r.plan,r.state,ts0⟩;simp only [go_sem,Nat.add_zero,vg q2,vv q2,ki q2];refine jq (fun i:Nat=>St.of [(0,.c (.ep 90 3 [] (k*8) (e3 []))),(1,Ni t),(10,Ni ts0.length),(11,Ni i)] [(90,ky b10 tYd y.now y.seq y.shelf e2 (y.runs.set k ⟨r.id,r.plan,r.state,zG (qn t) ts0 i⟩) e3),(91,o 91),(92,o 92),(93,o 93),(94,o 94),(95,o 95),(96,o 96),(97,o 97)]) (fun i=>i≤ts0.length) (fun i=>ts0.length-i) 0 (by (try dsimp only);first|omega|(simp;done)|(and_intros<;>first|omega|simp)) (jk [some 90,some 91,some 92,some 93,some 94,some 95,some 96,some 97] (by simp only [go_sem,jd,ja,jo6,jQ]<;>and_intros<;>first|rfl|assumption)) ?_
 rintro j hj;have hml:=zu (f:=qn t) (ts:=ts0) (k:=j);by_cases hlt:j<ts0.length
 ·have hlt':(j:Int)<ts0.length:=by omega
  have h0j:(j:Int)≥0:=by omega
  obtain ⟨z,hz⟩:=je hlt;have hyk:=jey (f:=qn t) hz;have hset:=jex (f:=qn t) hz;have hsame:=jmt (f:=qn t) hz;generalize zG (qn t) ts0 j=M at*;have hw:IntKind.i64.wrap ((j:Int)+1)=((j+1:Nat):Int):=jo (by omega) (by omega)
  have hlm:j<M.length:=by omega
  have p1:=hS ⟨r.id,r.plan,r.state,M⟩;cases hne:(j:Int) !=(t:Int)
  ·have hg:qn t j z=z:=by have:(j:Int)=t:=by simpa using hne
                          simp [qn,this]
   have hq:=hsame hg;simp only [go_sem,jd,ja,Nat.add_zero,hml,hlt',h0j,hlt,vg p1,vv p1,ki p1,hne,hw];exact ⟨j+1,by (try dsimp only);first|omega|assumption|(and_intros<;>first|omega|assumption),(jk [some 90,some 91,some 92,some 93,some 94,some 95,some 96,some 97] (by simp only [go_sem,jd,ja,hq,jQ]<;>and_intros<;>first|rfl|assumption)),by (try dsimp only);omega⟩
  have hne':¬(j:Int)=t:=by simpa using hne
  cases hc4:z.state !=4
  ·have hg:qn t j z=z:=by have:z.state=4:=by simpa using hc4
                          simp [qn,this]
   have hq:=hsame hg;simp only [go_sem,jd,ja,Nat.add_zero,hml,hlt',h0j,hlt,vg p1,vv p1,ki p1,hne,zK hyk,vZ hyk,ve hyk,qx hyk,hc4,hw];exact ⟨j+1,by (try dsimp only);first|omega|assumption|(and_intros<;>first|omega|assumption),(jk [some 90,some 91,some 92,some 93,some 94,some 95,some 96,some 97] (by simp only [go_sem,jd,ja,hq,jQ]<;>and_intros<;>first|rfl|assumption)),by (try dsimp only);omega⟩
  ·have hg:qn t j z=⟨6,z.need,z.tri,0⟩:=by
    have h1:¬z.state=4:=by simpa using hc4
    simp [qn,h1,hne']
   rw [hg] at hset;have hyk2:(M.set j ⟨6,z.need,z.tri,z.til⟩)[j]?=some ⟨6,z.need,z.tri,z.til⟩:=List.getElem?_set_self hlm;have p2:=hS ⟨r.id,r.plan,r.state,M.set j ⟨6,z.need,z.tri,z.til⟩⟩;simp only [go_sem,jd,ja,Nat.add_zero,hml,hlt',h0j,hlt,vg p1,vv p1,ki p1,hne,zK hyk,vZ hyk,ve hyk,qx hyk,hc4,qG p1 (jaJ hyk 6),qG p1 (zr hyk 6),vg p2,vv p2,ki p2,qG p2 (jdT hyk2 0),jiw hyk2,jtZ hyk2,List.set_set,hset,hw];exact ⟨j+1,by (try dsimp only);first|omega|assumption|(and_intros<;>first|omega|assumption),(jk [some 90,some 91,some 92,some 93,some 94,some 95,some 96,some 97] (by simp only [go_sem,jd,ja,jQ]<;>and_intros<;>first|rfl|assumption)),by (try dsimp only);omega⟩
 have hlt':¬(j:Int)<ts0.length:=by omega
 obtain rfl:j=ts0.length:=by omega
 rw [←htl];generalize zG (qn t) ts0 ts0.length=M at*;have p3:=hS ⟨r.id,r.plan,r.state,M⟩;simp only [go_sem,jd,ja,Nat.add_zero,hml,hlt',jwN p3,jwz p3,jst p3,List.set_set];exact ⟨rfl,rfl,rfl,rfl,rfl,rfl⟩
noncomputable def jcY (y:Yd) (id task tri:Int):Yd:=if jaI y id task tri=0 then qc y (runAt y id).toNat (jE ((y.runs[(runAt y id).toNat]?).getD default) task) else y
def jiT:C:=iS [iA 4 (.box 37 4 (.t 0)),iA 8 (.alloc 37 [.int .i64 0,.int .i64 0,.slice none 0 0,.slice none 0 0]),iA 9 (iN 0)] (iS [iA 13 (iT 4 4),iA 14 (.call 105 [.t 13]),iA 10 (.alloc 37 [.int .i64 0,.int .i64 0,.slice none 0 0,.slice none 0 0]),iC (.st 4 [none,none,some (1,102),some (8,108)] (.t 10) (.t 14))] (iS [iA 15 (iT 4 4),iA 16 (iM 1),iA 17 (iM 2),iA 18 (iM 3),iA 19 (.call 196 [.t 15,.t 16,.t 17,.t 18]),iA 11 (iM 19)] (.seq (iS [iA 20 (iM 11),iA 21 (iQ .neq 3 20 0)] (iD 21 (iS [iA 22 (iT 4 10),iA 23 (iM 11),iC (.st 4 [none,none,some (1,102),some (8,108)] (.t 8) (.t 22)),iA 9 (iM 23)] .ret) .skip)) (iS [iA 24 (iT 4 4),iA 25 (iM 1),iA 26 (.call 152 [.t 24,.t 25]),iA 12 (iM 26)] (.seq (.dreg (T.pure 0 (iA 27 (iT 4 10)) (T.pure 1 (iA 28 (iM 12)) (T.pure 2 (iA 29 (iF 3 10)) (T.pure 3 (iA 30 (iL 29)) (T.pure 4 (iA 31 (iM 12)) (T.pure 5 (iA 32 (iI 8 30 31)) (T.pure 6 (iA 33 (iT 8 32)) (T.pure 7 (iA 34 (iM 2)) (T.alt (iA 35 (.call 199 [.t 33,.t 34])) [1,0] (T.alt (iA 36 (.call 197 [.t 27,.t 28,.t 35])) [] (T.alt (iC (.st 4 [none,none,some (1,102),some (8,108)] (.t 8) (.t 36))) [] (T.pure 11 (iA 9 (iN 0)) T.done) T.stop) T.stop) T.stop)))))))))) .ret)))))
theorem jjy:fnC Tryz.prog Tryz.f109=some (jiT,[.cell 8 true 4,.t 9],37):=by kernel_rfl
theorem jnJ (y:Yd) (id task tri:Int) (ht:jt y≤2000000):kf Tryz.prog 109 [.agg (jb y),.c (.val (.int .i64 id)),.c (.val (.int .i64 task)),.c (.val (.int .i64 tri))] (.tup [(true,jb (jcY y id task tri)),(false,[.val (.int .i64 (jaI y id task tri))])]):=by
 refine zi [[1,1,1,1,1,0]] Tryz.func109 jjy (by simp) ?_
 unfold jiT;simp only [C.ghs,C.ghAt,List.foldr];simp only [go_sem,jb];intro b4 b8;refine jc (kg y ht) (by simp only [go_sem,jb]) fun ηc=>?_
 simp only [go_sem,jb];intro b10;refine jc (jet y id task tri ht) (by simp only [go_sem,jb]) fun η=>?_
 simp only [go_sem,jb];cases h0:jaI y id task tri !=0;rotate_left
 ·have hy:jcY y id task tri=y:=by rw [jcY,if_neg (by simpa using h0)]
  simp only [go_sem,jb,h0,hy];refine qh _ _ _ _ _ ?_;simp only [go_sem,jb]
 have h0':jaI y id task tri=0:=by simpa using h0
 obtain ⟨hok,hneg⟩:=jos h0';obtain ⟨k,r,hrk,hr,hid,h8⟩:=qU hneg;have hk:=(List.getElem?_eq_some_iff.1 hr).1;have h0k:(k:Int)≥0:=by omega
 have hk0:¬(k:Int)<0:=by omega
 have hY:jcY y id task tri=qc y k (jE r task):=by rw [jcY,if_pos h0',hrk,Int.toNat_natCast,hr,Option.getD_some]
 rw [hY,h0'];simp only [go_sem,jb,h0];refine jc (qj y id) (by simp only [go_sem,jb]) fun η=>?_
 simp only [go_sem,jb];refine vh ?_;refine WkK.wk (s':=St.of [(2,Ni task),(8,Bx 92 b8),(10,Bx 90 b10),(12,Ni k)] [(92,ZYd b8 tYd),(90,ky b10 tYd y.now y.seq y.shelf (ηc 2) y.runs (ηc 3))]) (jk [some 800,some 1000] (by simp only [go_sem,jb,hrk]<;>and_intros<;>first|rfl|assumption)) ?_
 refine WkK.of ?_;have hrb:=jbY ht (List.mem_of_getElem? hr);simp only [go_sem,jb,hk0,h0k,hk,jjF hr,jeE hr,jd,ja];refine jc (jag r task hrb.1 hrb.2) (by simp only [go_sem,jb,jd,ja,ka hr,ko hr]) fun ηr=>?_
 simp only [go_sem,jb,jd,ja,ka hr,ko hr];have hrl:(jE r task).tasks.length=r.tasks.length:=qg r task;have hr12:r.tasks.length≤12:=(hok.right r (List.mem_of_getElem? hr)).le12;generalize jE r task=r2 at*;refine jbd [some 90,some 92,some 3505,some 3507] [(90,ky b10 tYd y.now y.seq y.shelf (ηc 2) y.runs (ηc 3)),(92,ZYd b8 tYd),(97,.loose (jA r2.plan.edges) (ηr 5)),(98,.loose (jx r2.tasks) (ηr 7))] [.agg [.v (.int .i64 y.now),.v (.int .i64 y.seq),.h 90 2 [] (ηc 2 []),.h 90 3 [] (ηc 3 [])],Ni k,.agg [.v (.int .i64 r2.id),.v (.int .i64 r2.plan.prio),.v (.int .i64 r2.plan.most),.v (.int .i64 r2.plan.wait),.v (.int .i64 r2.plan.tasks),.h 97 0 [] (ηr 5 []),.v (.int .i64 r2.state),.h 98 0 [] (ηr 7 [])]] (by simp only [go_sem]<;>and_intros<;>rfl) (by simp only [go_sem]<;>and_intros<;>rfl) (jeD hr hrl hr12 hok.four (by have:=hok.seq;omega) ht rfl rfl rfl) ?_
 rintro _ o1 ⟨c,g2,g3,x2,x3,rfl,j99,j90,j91,j92,j93,j94,j95,j96⟩;have j92':o1 92=ZYd b8 tYd:=j92;generalize qc y k r2=z2 at*;simp only [go_sem,j99,j90,j92'];refine qh _ _ _ _ _ ?_;simp only [go_sem,jb,j99,j90,j92']
def jiX:C:=iS [iA 4 (.box 37 4 (.t 0)),iA 6 (.box 3 1 (.t 2)),iA 8 (.alloc 37 [.int .i64 0,.int .i64 0,.slice none 0 0,.slice none 0 0]),iA 9 (iN 0)] (iS [iA 12 (iT 4 4),iA 13 (.call 118 [.t 12]),iA 10 (.alloc 37 [.int .i64 0,.int .i64 0,.slice none 0 0,.slice none 0 0]),iC (.st 4 [none,none,some (1,102),some (8,108)] (.t 10) (.t 13))] (iS [iA 14 (iT 4 4),iA 15 (iM 1),iA 16 (iL 6),iA 17 (iM 3),iA 18 (.call 220 [.t 14,.t 15,.t 16,.t 17]),iA 11 (iM 18)] (.seq (iS [iA 19 (iM 11),iA 20 (iQ .eql 3 19 0)] (iD 20 (.reg [iA 21 (iT 4 4),iA 22 (iM 1),iA 23 (.call 56 [.t 21,.t 22]),iA 24 (.mkf 224 [.t 6]),iA 25 (.call 221 [.t 10,.t 23,.t 24])]) .skip)) (iS [iA 26 (iT 4 10),iA 27 (iM 11),iC (.st 4 [none,none,some (1,102),some (8,108)] (.t 8) (.t 26)),iA 9 (iM 27)] .ret))))
theorem jjD:fnC Tryz.prog Tryz.f122=some (jiX,[.cell 8 true 4,.t 9],28):=by kernel_rfl
def jfs:C:=.reg [iA 3 (iM 0),iA 4 (iL 1),iA 5 (.call 225 [.t 3,.t 4])]
theorem jhw:fnC Tryz.prog Tryz.f224=some (jfs,[],6):=by kernel_rfl
theorem jtL {k t b6:Nat} {y:Yd} {r:Rn} (hr:y.runs[k]?=some r) (hrun:vS r t=true):jud Tryz.prog 224 [.bp 91 0 b6] (.box b6 jfE [.a (.v (.int .i64 t))]) k y (jE r t):=by
 intro o b e2 e3 h90 h91;refine jhC (β:=6000000) Tryz.func224 jhw (by simp) ?_
 unfold jfs;simp only [go_sem,h91];refine vF (by simp only [go_sem]) (jls hr hrun _ b e2 e3 (by simp only [go_sem];exact h90)) ?_
 rintro _ o1 ⟨rfl,j90,j91,j92,j93,j94,j95,j96,j97⟩;simp only [go_sem] at j91 j92 j93 j94 j95 j96 j97;rw [h91] at j91;exact ⟨.tup [],⟨by decide,rfl⟩,rfl,rfl,j90,j91,j92,j93,j94,j95,j96,j97⟩
theorem jnM (y:Yd) (id task tri:Int) (ht:jt y≤2000000):kf Tryz.prog 122 [.agg (jb y),.c (.val (.int .i64 id)),.c (.val (.int .i64 task)),.c (.val (.int .i64 tri))] (.tup [(true,jb (jcY y id task tri)),(false,[.val (.int .i64 (jaI y id task tri))])]):=by
 refine zi [[1,1,1,0,1,0]] Tryz.func122 jjD (by simp) ?_
 unfold jiX;simp only [C.ghs,C.ghAt,List.foldr];simp only [go_sem,jb];intro b4 b6 b8;refine jc (jX y ht) (by simp only [go_sem,jb]) fun ηc=>?_
 simp only [go_sem,jb];intro b10;refine jc (jij y id task tri ht) (by simp only [go_sem,jb]) fun η=>?_
 simp only [go_sem,jb];cases h0:jaI y id task tri==0
 ·have hy:jcY y id task tri=y:=by rw [jcY,if_neg (by simpa using h0)]
  simp only [go_sem,jb,h0,hy];refine qh _ _ _ _ _ ?_;simp only [go_sem,jb]
 have h0':jaI y id task tri=0:=by simpa using h0
 obtain ⟨hok,hneg⟩:=jos h0';obtain ⟨k,r,hrk,hr,hid,h8⟩:=qU hneg;obtain ⟨t,rfl,hrun⟩:=jpe h0' hrk hr;have hY:jcY y id t tri=qc y k (jE r t):=by rw [jcY,if_pos h0',hrk,Int.toNat_natCast,hr,Option.getD_some]
 have hr12:r.tasks.length≤12:=(hok.right r (List.mem_of_getElem? hr)).le12;rw [hY,h0'];simp only [go_sem,jb,h0];refine vh ?_;generalize ηc 2=η2 at*;generalize ηc 3=η3 at*;refine WkK.wk (s':=St.of [(1,Ni id),(4,Bx 93 b4),(6,Bx 91 b6),(8,Bx 92 b8),(10,Bx 90 b10),(11,Ni 0)] [(93,Bi b4 tYd (jb y)),(91,.box b6 jfE [.a (.v (.int .i64 t))]),(92,ZYd b8 tYd),(90,ky b10 tYd y.now y.seq y.shelf η2 y.runs η3)]) (jk [some 400,some 600,some 800,some 1000] (by simp only [go_sem,jb]<;>and_intros<;>first|rfl|assumption)) ?_
 refine WkK.of ?_;simp only [go_sem,jb];refine jc (qm y id) (by simp only [go_sem,jb]) fun η=>?_
 simp only [go_sem,jb];rw [hrk];refine vF (vs:=[Bx 90 b10,Ni k,.fn 224 [.bp 91 0 b6]]) (by simp only [go_sem]) (jcP hr (qg r t) hr12 hok.four (by have:=hok.seq;omega) ht (jtL hr hrun) (e2:=η2) (e3:=η3) (by simp only [go_sem]) (by simp only [go_sem])) ?_
 rintro _ o1 ⟨rfl,⟨e2',e3',j90⟩,j91,j92,j93,j94,j95,j96⟩;simp only [go_sem] at j92;generalize qc y k (jE r t)=y2 at*;simp only [go_sem,j90,j92];refine qh _ _ _ _ _ ?_;simp only [go_sem,jb]
end Go.Proofs.YtmnpailnelmpiaaGreat
