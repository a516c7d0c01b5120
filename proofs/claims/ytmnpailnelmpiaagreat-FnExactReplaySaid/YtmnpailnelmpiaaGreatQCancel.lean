/- Parts. -/
import Derived.Test.YtmnpailnelmpiaaGreatQDeedB
import Derived.Test.YtmnpailnelmpiaaGreatQFailsEp
import Derived.Test.YtmnpailnelmpiaaGreatQForg
import Derived.Test.YtmnpailnelmpiaaGreatQHole
import Derived.Test.YtmnpailnelmpiaaGreatQLater
import Derived.Test.YtmnpailnelmpiaaGreatQPoll
import Derived.Test.YtmnpailnelmpiaaGreatQRest
import Derived.Test.YtmnpailnelmpiaaGreatQSub
import Derived.Test.YtmnpailnelmpiaaGreatQTick
import Derived.Test.YtmnpailnelmpiaaGreatQTurnP
import Derived.Test.YtmnpailnelmpiaaGreatQW
set_option linter.unusedSimpArgs false
set_option linter.unusedVariables false
set_option maxHeartbeats 8000000
set_option maxRecDepth 100000
namespace Go.Proofs.YtmnpailnelmpiaaGreat
open Go.RowKit Go.Sort
def jdx:C:=iS [iA 1 (.box 108 8 (.t 0)),iA 2 (.alloc 108 [.int .i64 0,.int .i64 0,.int .i64 0,.int .i64 0,.int .i64 0,.slice none 0 0,.int .i64 0,.slice none 0 0])] (iS [iA 4 (iT 8 1),iA 5 (.call 185 [.t 4]),iA 3 (.alloc 108 [.int .i64 0,.int .i64 0,.int .i64 0,.int .i64 0,.int .i64 0,.slice none 0 0,.int .i64 0,.slice none 0 0]),iC (.st 8 [none,none,none,none,none,some (2,253),none,some (4,172)] (.t 3) (.t 5))] (.seq (iS [iA 6 (iT 8 1),iA 7 (.call 151 [.t 6]),iA 8 (iU 7),iA 9 (iM 8),iB 10 9 false (iF 6 1),iB 11 9 false (iL 10),iB 12 9 false (iQ .neq 3 11 1),iA 13 (.pick (.t 9) (.c (.bool true)) (.t 12))] (iD 13 (iS [iA 14 (iT 8 3),iC (.st 8 [none,none,none,none,none,some (2,253),none,some (4,172)] (.t 2) (.t 14))] .ret) .skip)) (iS [iA 15 (iT 8 3),iA 16 (.call 265 [.t 15,.c (.int .i64 4)]),iC (.st 8 [none,none,none,none,none,some (2,253),none,some (4,172)] (.t 2) (.t 16))] .ret)))
theorem jgc:fnC Tryz.prog Tryz.f201=some (jdx,[.cell 2 true 8],17):=by kernel_rfl
def jdH:C:=iS [iA 1 (.box 108 8 (.t 0)),iA 2 (.alloc 108 [.int .i64 0,.int .i64 0,.int .i64 0,.int .i64 0,.int .i64 0,.slice none 0 0,.int .i64 0,.slice none 0 0])] (iS [iA 4 (iT 8 1),iA 5 (.call 209 [.t 4]),iA 3 (.alloc 108 [.int .i64 0,.int .i64 0,.int .i64 0,.int .i64 0,.int .i64 0,.slice none 0 0,.int .i64 0,.slice none 0 0]),iC (.st 8 [none,none,none,none,none,some (2,253),none,some (4,172)] (.t 3) (.t 5))] (.seq (iS [iA 6 (iT 8 1),iA 7 (.call 138 [.t 6]),iA 8 (iM 7),iB 9 8 true (iF 6 1),iB 10 8 true (iL 9),iB 11 8 true (iQ .eql 3 10 1),iA 12 (.pick (.t 8) (.t 11) (.c (.bool false)))] (iD 12 (iS [iA 13 (.call 236 [.t 3,.c (.int .i64 (-1))])] (.reg [iA 14 (iF 6 3),iC (.st 1 [none] (.t 14) (.c (.int .i64 4)))])) .skip)) (iS [iA 15 (iT 8 3),iC (.st 8 [none,none,none,none,none,some (2,253),none,some (4,172)] (.t 2) (.t 15))] .ret)))
theorem jgm:fnC Tryz.prog Tryz.f145=some (jdH,[.cell 2 true 8],16):=by kernel_rfl
def jfd:C:=iS [iA 2 (.box 37 4 (.t 0)),iA 4 (.alloc 37 [.int .i64 0,.int .i64 0,.slice none 0 0,.slice none 0 0]),iA 5 (iN 0)] (iS [iA 8 (iT 4 2),iA 9 (.call 105 [.t 8]),iA 6 (.alloc 37 [.int .i64 0,.int .i64 0,.slice none 0 0,.slice none 0 0]),iC (.st 4 [none,none,some (1,102),some (8,108)] (.t 6) (.t 9))] (iS [iA 10 (iT 4 2),iA 11 (iM 1),iA 12 (.call 152 [.t 10,.t 11]),iA 7 (iM 12)] (.seq (.blk 0 (iS [iA 14 (iT 4 2),iA 15 (.call 72 [.t 14]),iA 16 (iU 15),iA 13 (iM 16)] (iD 13 (iS [iA 17 (iT 4 6),iC (.st 4 [none,none,some (1,102),some (8,108)] (.t 4) (.t 17)),iA 5 (iN 8)] .ret) (iS [iA 19 (iM 7),iA 20 (iQ .lss 3 19 0),iA 18 (iM 20)] (iD 18 (iS [iA 21 (iT 4 6),iC (.st 4 [none,none,some (1,102),some (8,108)] (.t 4) (.t 21)),iA 5 (iN 10)] .ret) (iS [iA 23 (iF 3 2),iA 24 (iL 23),iA 25 (iM 7),iA 26 (iI 8 24 25),iA 27 (iF 6 26),iA 28 (iL 27),iA 29 (iQ .neq 3 28 1),iA 22 (iM 29)] (iD 22 (iS [iA 30 (iT 4 6),iC (.st 4 [none,none,some (1,102),some (8,108)] (.t 4) (.t 30)),iA 5 (iN 12)] .ret) .skip))))))) (.seq (.dreg (T.pure 0 (iA 31 (iF 3 6)) (T.pure 1 (iA 32 (iL 31)) (T.pure 2 (iA 33 (iM 7)) (T.pure 3 (iA 34 (iF 3 6)) (T.pure 4 (iA 35 (iL 34)) (T.pure 5 (iA 36 (iM 7)) (T.pure 6 (iA 37 (iI 8 35 36)) (T.pure 7 (iA 38 (iT 8 37)) (T.alt (iA 39 (.call 201 [.t 38])) [2,1,0] (T.pure 9 (iA 40 (iI 8 32 33)) (T.alt (iC (.st 8 [none,none,none,none,none,some (2,253),none,some (4,172)] (.t 40) (.t 39))) [] T.done T.stop)) T.stop)))))))))) (iS [iA 41 (iT 4 6),iC (.st 4 [none,none,some (1,102),some (8,108)] (.t 4) (.t 41)),iA 5 (iN 0)] .ret)))))
theorem jhh:fnC Tryz.prog Tryz.f111=some (jfd,[.cell 4 true 4,.t 5],42):=by kernel_rfl
def jft:C:=iS [iA 2 (.box 37 4 (.t 0)),iA 4 (.alloc 37 [.int .i64 0,.int .i64 0,.slice none 0 0,.slice none 0 0]),iA 5 (iN 0)] (iS [iA 8 (iT 4 2),iA 9 (.call 118 [.t 8]),iA 6 (.alloc 37 [.int .i64 0,.int .i64 0,.slice none 0 0,.slice none 0 0]),iC (.st 4 [none,none,some (1,102),some (8,108)] (.t 6) (.t 9))] (iS [iA 10 (iT 4 2),iA 11 (iM 1),iA 12 (.call 56 [.t 10,.t 11]),iA 7 (iM 12)] (.seq (.blk 0 (iS [iA 14 (iT 4 2),iA 15 (.call 59 [.t 14]),iA 16 (iU 15),iA 13 (iM 16)] (iD 13 (iS [iA 17 (iT 4 6),iC (.st 4 [none,none,some (1,102),some (8,108)] (.t 4) (.t 17)),iA 5 (iN 8)] .ret) (iS [iA 19 (iM 7),iA 20 (iQ .lss 3 19 0),iA 18 (iM 20)] (iD 18 (iS [iA 21 (iT 4 6),iC (.st 4 [none,none,some (1,102),some (8,108)] (.t 4) (.t 21)),iA 5 (iN 10)] .ret) (iS [iA 23 (iF 3 2),iA 24 (iL 23),iA 25 (iM 7),iA 26 (iI 8 24 25),iA 27 (iF 6 26),iA 28 (iL 27),iA 29 (iQ .neq 3 28 1),iA 22 (iM 29)] (iD 22 (iS [iA 30 (iT 4 6),iC (.st 4 [none,none,some (1,102),some (8,108)] (.t 4) (.t 30)),iA 5 (iN 12)] .ret) .skip))))))) (.seq (.dreg (T.pure 0 (iA 31 (iF 3 6)) (T.pure 1 (iA 32 (iL 31)) (T.pure 2 (iA 33 (iM 7)) (T.pure 3 (iA 34 (iF 3 2)) (T.pure 4 (iA 35 (iL 34)) (T.pure 5 (iA 36 (iM 7)) (T.pure 6 (iA 37 (iI 8 35 36)) (T.pure 7 (iA 38 (iT 8 37)) (T.alt (iA 39 (.call 145 [.t 38])) [2,1,0] (T.pure 9 (iA 40 (iI 8 32 33)) (T.alt (iC (.st 8 [none,none,none,none,none,some (2,253),none,some (4,172)] (.t 40) (.t 39))) [] T.done T.stop)) T.stop)))))))))) (iS [iA 41 (iT 4 6),iC (.st 4 [none,none,some (1,102),some (8,108)] (.t 4) (.t 41)),iA 5 (iN 0)] .ret)))))
theorem jhy:fnC Tryz.prog Tryz.f67=some (jft,[.cell 4 true 4,.t 5],42):=by kernel_rfl
theorem jjf (r:Rn) (hsz:r.plan.edges.length≤4000000) (ht:r.tasks.length≤4000000):kf Tryz.prog 201 [.agg (jd r)] (.agg (jd (jbj r))):=by
 refine jr Tryz.func201 jgc (by simp) ?_
 unfold jdx;simp only [go_sem,jd,ja];intro b1 b2;refine jc (vr r hsz ht) (by simp only [go_sem,jd,ja]) fun ηc=>?_
 simp only [go_sem,jd,ja];intro b3;refine jc (jb1 r) (by simp only [go_sem,jd,ja]) fun η=>?_
 simp only [go_sem,jd,ja];cases h:kE r
 ·have hb:jbj r=r:=jhR (by simp [h])
  simp only [go_sem,jd,ja,h,hb]
 cases h1:r.state !=1;rotate_left
 ·have h1':(r.state==1)=false:=by have:=h1;simp only [bne,Bool.not_eq_true'] at this;exact this
  have hb:jbj r=r:=jhR (by simp [h,h1'])
  simp only [go_sem,jd,ja,h,h1,hb]
 have h1':(r.state==1)=true:=by have:=h1;simp only [bne,Bool.not_eq_false'] at this;exact this
 have hb:jbj r=⟨r.id,r.plan,4,zG jT r.tasks r.tasks.length⟩:=jmw (by simp [h,h1'])
 rw [hb];simp only [go_sem,jd,ja,h,h1];generalize hts:r.tasks=ts0 at*;refine kT (qW (β:=7000000) Tryz.func265 jaF (by simp) ?_)
 unfold jam;simp only [go_sem,jd,ja];intro b72 b74;refine jq (fun i:Nat=>St.of [(1,Ni 4),(2,Bx 2 b72),(4,Bx 4 b74),(5,Ni i)] [(200,ZRn b2 tRn),(2,jap b72 tRn ⟨r.id,r.plan,r.state,zG jT ts0 i⟩ (ηc 5) (ηc 7)),(4,ZRn b74 tRn)]) (fun i=>i≤ts0.length) (fun i=>ts0.length-i) 0 (by (try dsimp only);first|omega|(simp;done)|(and_intros<;>first|omega|simp)) (jk [some 200,some 700000200,some 700000400] (by simp only [go_sem,jd,ja,jo6]<;>and_intros<;>first|rfl|assumption)) ?_
 rintro j hj;have hml:=zu (f:=jT) (ts:=ts0) (k:=j);by_cases hlt:j<ts0.length
 ·have hlt':(j:Int)<ts0.length:=by omega
  have h0j:(j:Int)≥0:=by omega
  obtain ⟨y,hy⟩:=je hlt;have hyk:=jey (f:=jT) hy;have hset:=jex (f:=jT) hy;generalize zG jT ts0 j=M at*;have hlm:j<M.length:=by omega
  have hw:IntKind.i64.wrap ((j:Int)+1)=((j+1:Nat):Int):=jo (by omega) (by omega)
  simp only [go_sem,jd,ja,hml,hlt',h0j,hlt,jq9 hyk,jg1 hyk,jn];intro b6;cases hc4:y.state !=4
  ·have hst4:y.state=4:=by simpa using hc4
   have hg0:jT j y=y:=by simp [jT,hst4]
   have hg:jT j y=⟨y.state,y.need,y.tri,y.til⟩:=hg0;rw [hg] at hset;simp only [go_sem,jd,ja,Nat.add_zero,hml,hlt',h0j,hlt,hc4,jbf y.state y.need y.tri y.til hlm,hset,jg1 hyk,hw];exact ⟨j+1,by (try dsimp only);first|omega|assumption|(and_intros<;>first|omega|assumption),(jk [some 200,some 2,some 4] (by simp only [go_sem,jd,ja]<;>and_intros<;>first|rfl|assumption)),by (try dsimp only);omega⟩
  cases hc5:y.state !=5
  ·have hst5:y.state=5:=by simpa using hc5
   have hg0:jT j y=y:=by simp [jT,hst5]
   have hg:jT j y=⟨y.state,y.need,y.tri,y.til⟩:=hg0;rw [hg] at hset;simp only [go_sem,jd,ja,Nat.add_zero,hml,hlt',h0j,hlt,hc4,hc5,jbf y.state y.need y.tri y.til hlm,hset,jg1 hyk,hw];exact ⟨j+1,by (try dsimp only);first|omega|assumption|(and_intros<;>first|omega|assumption),(jk [some 200,some 2,some 4] (by simp only [go_sem,jd,ja]<;>and_intros<;>first|rfl|assumption)),by (try dsimp only);omega⟩
  ·have hg:jT j y=⟨6,y.need,y.tri,0⟩:=by
    have h1:¬y.state=4:=by simpa using hc4
    have h2:¬y.state=5:=by simpa using hc5
    simp [jT,h1,h2]
   rw [hg] at hset;simp only [go_sem,jd,ja,Nat.add_zero,hml,hlt',h0j,hlt,hc4,hc5,jbf 6 y.need y.tri 0 hlm,hset,jg1 hyk,hw];exact ⟨j+1,by (try dsimp only);first|omega|assumption|(and_intros<;>first|omega|assumption),(jk [some 200,some 2,some 4] (by simp only [go_sem,jd,ja]<;>and_intros<;>first|rfl|assumption)),by (try dsimp only);omega⟩
 have hlt':¬(j:Int)<ts0.length:=by omega
 obtain rfl:j=ts0.length:=by omega
 generalize zG jT ts0 ts0.length=M at*;simp only [go_sem,jd,ja,Nat.add_zero,hml,hlt']
theorem jjn (r:Rn) (hsz:r.plan.edges.length≤4000000) (ht:r.tasks.length≤4000000):kf Tryz.prog 145 [.agg (jd r)] (.agg (jd (jbj r))):=by
 refine jr Tryz.func145 jgm (by simp) ?_
 unfold jdH;simp only [go_sem,jd,ja];intro b1 b2;refine jc (jdg r hsz ht) (by simp only [go_sem,jd,ja]) fun ηc=>?_
 simp only [go_sem,jd,ja];intro b3;refine jc (jgC r hsz) (by simp only [go_sem,jd,ja]) fun η=>?_
 simp only [go_sem,jd,ja];cases h:kE r
 ·have hb:jbj r=r:=jhR (by simp [h])
  simp only [go_sem,jd,ja,h,hb]
 cases h1:r.state==1
 ·have hb:jbj r=r:=jhR (by simp [h,h1])
  simp only [go_sem,jd,ja,h,h1,hb]
 have hb:jbj r=⟨r.id,r.plan,4,zG jT r.tasks r.tasks.length⟩:=jmw (by simp [h,h1])
 have h5:=jAi (runOk_iff.1 h) (by simpa using h1)
 rw [hb,←jqE h5];simp only [go_sem,jd,ja,h,h1];generalize hts:r.tasks=ts0 at*;refine kT (qW (β:=8000000) Tryz.func236 jcj (by simp) ?_)
 unfold jct;simp only [go_sem,jd,ja,Nat.add_zero];refine jq (fun i:Nat=>St.of [(0,Bx 300 b3),(1,Ni (-1)),(10,Ni ts0.length),(11,Ni i)] [(200,ZRn b2 tRn),(300,jap b3 tRn ⟨r.id,r.plan,r.state,zG (qn (-1)) ts0 i⟩ (ηc 5) (ηc 7))]) (fun i=>i≤ts0.length) (fun i=>ts0.length-i) 0 (by (try dsimp only);first|omega|(simp;done)|(and_intros<;>first|omega|simp)) (jk [some 200,some 300] (by simp only [go_sem,jd,ja,jo6]<;>and_intros<;>first|rfl|assumption)) ?_
 rintro j hj;have hml:=zu (f:=qn (-1)) (ts:=ts0) (k:=j);by_cases hlt:j<ts0.length
 ·have hlt':(j:Int)<ts0.length:=by omega
  have h0j:(j:Int)≥0:=by omega
  obtain ⟨y,hy⟩:=je hlt;have hyk:=jey (f:=qn (-1)) hy;have hset:=jex (f:=qn (-1)) hy;have hsame:=jmt (f:=qn (-1)) hy;generalize zG (qn (-1)) ts0 j=M at*;have hw:IntKind.i64.wrap ((j:Int)+1)=((j+1:Nat):Int):=jo (by omega) (by omega)
  have hlm:j<M.length:=by omega
  have hne':¬(j:Int)=-1:=by omega
  have hne:((j:Int) !=-1)=true:=by simp only [bne,Bool.not_eq_true',beq_eq_false_iff_ne];exact hne'
  cases hc4:y.state !=4
  ·have hg:qn (-1) j y=y:=by have:y.state=4:=by simpa using hc4
                             simp [qn,this]
   have hq:=hsame hg;simp only [go_sem,jd,ja,Nat.add_zero,hml,hlt',h0j,hlt,hne,zK hyk,vZ hyk,ve hyk,qx hyk,hc4,hw];exact ⟨j+1,by (try dsimp only);first|omega|assumption|(and_intros<;>first|omega|assumption),(jk [some 200,some 300] (by simp only [go_sem,jd,ja,hq]<;>and_intros<;>first|rfl|assumption)),by (try dsimp only);omega⟩
  ·have hg:qn (-1) j y=⟨6,y.need,y.tri,0⟩:=by
    have h1:¬y.state=4:=by simpa using hc4
    simp [qn,h1,hne']
   rw [hg] at hset;have hyk2:(M.set j ⟨6,y.need,y.tri,y.til⟩)[j]?=some ⟨6,y.need,y.tri,y.til⟩:=List.getElem?_set_self hlm;simp only [go_sem,jd,ja,Nat.add_zero,hml,hlt',h0j,hlt,hne,zK hyk,vZ hyk,ve hyk,qx hyk,hc4,jaJ hyk,zr hyk,jdT hyk2,jiw hyk2,List.set_set,hset,hw];exact ⟨j+1,by (try dsimp only);first|omega|assumption|(and_intros<;>first|omega|assumption),(jk [some 200,some 300] (by simp only [go_sem,jd,ja]<;>and_intros<;>first|rfl|assumption)),by (try dsimp only);omega⟩
 have hlt':¬(j:Int)<ts0.length:=by omega
 obtain rfl:j=ts0.length:=by omega
 generalize zG (qn (-1)) ts0 ts0.length=M at*;simp only [go_sem,jd,ja,Nat.add_zero,hml,hlt']
theorem jkW (y:Yd) (id:Int) (ht:jt y≤2000000):kf Tryz.prog 111 [.agg (jb y),.c (.val (.int .i64 id))] (.tup [(true,jb (kU y id)),(false,[.val (.int .i64 (kV y id))])]):=by
 refine jr Tryz.func111 jhh (by simp) ?_
 unfold jfd;simp only [go_sem,jb];intro b2 b4;refine jc (kg y ht) (by simp only [go_sem,jb]) fun ηc=>?_
 simp only [go_sem,jb];intro b6;refine jc (qj y id) (by simp only [go_sem,jb]) fun η=>?_
 simp only [go_sem,jb];refine jc (qi y ht) (by simp only [go_sem,jb]) fun η=>?_
 simp only [go_sem,jb];cases hok:jD y
 ·have hc:kV y id=8:=by simp [kV,hok]
  have hy:kU y id=y:=by simp [kU,hc]
  simp only [go_sem,jb,hok,hc,hy];refine qh _ _ _ _ _ ?_;simp only [go_sem,jb]
 by_cases hneg:runAt y id<0
 ·have hc:kV y id=10:=by simp [kV,hok,hneg]
  have hy:kU y id=y:=by simp [kU,hc]
  simp only [go_sem,jb,hok,hneg,hc,hy];refine qh _ _ _ _ _ ?_;simp only [go_sem,jb]
 obtain ⟨k,r,hrk,hr,hid,h8⟩:=qU hneg;have hk:=(List.getElem?_eq_some_iff.1 hr).1;have h0k:(k:Int)≥0:=by omega
 have hk0:¬(k:Int)<0:=by omega
 have hget:(y.runs[(runAt y id).toNat]?).getD default=r:=by rw [hrk,Int.toNat_natCast,hr];rfl
 cases hst:r.state !=1;rotate_left
 ·have hs1:¬r.state=1:=by simpa using hst
  have hc:kV y id=12:=by unfold kV;rw [if_neg (by simp [hok]),if_neg hneg,hget,if_neg hs1]
  have hy:kU y id=y:=by simp [kU,hc]
  simp only [go_sem,jb,hok,hrk,hk0,h0k,hk,jV hr,jd,ja,hst,hc,hy];refine qh _ _ _ _ _ ?_;simp only [go_sem,jb]
 have hs1:r.state=1:=by simpa using hst
 have hc:kV y id=0:=by unfold kV;rw [if_neg (by simp [hok]),if_neg hneg,hget,if_pos hs1]
 have hy:kU y id=jh7 y k (jbj r):=by rw [kU,if_pos hc,hget,hrk,Int.toNat_natCast]
 have hrb:=jbY ht (List.mem_of_getElem? hr);rw [hc,hy,jh7];simp only [go_sem,jb,hok,hrk,hk0,h0k,hk,jV hr,jjF hr,jeE hr,jd,ja,hst];refine jc (jjf r hrb.1 hrb.2) (by simp only [go_sem,jb,jd,ja,ka hr,ko hr]) fun η=>?_
 simp only [go_sem,jb,jd,ja,ka hr,ko hr];simp only [go_sem,hk,jnD (jbj r) hk];refine ⟨jeE hr,fun η' hη=>qh _ _ _ _ _ ?_⟩
 simp only [go_sem,jb]
theorem jk8 (y:Yd) (id:Int) (ht:jt y≤2000000):kf Tryz.prog 67 [.agg (jb y),.c (.val (.int .i64 id))] (.tup [(true,jb (kU y id)),(false,[.val (.int .i64 (kV y id))])]):=by
 refine jr Tryz.func67 jhy (by simp) ?_
 unfold jft;simp only [go_sem,jb];intro b2 b4;refine jc (jX y ht) (by simp only [go_sem,jb]) fun ηc=>?_
 simp only [go_sem,jb];intro b6;refine jc (qm y id) (by simp only [go_sem,jb]) fun η=>?_
 simp only [go_sem,jb];refine jc (ql y ht) (by simp only [go_sem,jb]) fun η=>?_
 simp only [go_sem,jb];cases hok:jD y
 ·have hc:kV y id=8:=by simp [kV,hok]
  have hy:kU y id=y:=by simp [kU,hc]
  simp only [go_sem,jb,hok,hc,hy];refine qh _ _ _ _ _ ?_;simp only [go_sem,jb]
 by_cases hneg:runAt y id<0
 ·have hc:kV y id=10:=by simp [kV,hok,hneg]
  have hy:kU y id=y:=by simp [kU,hc]
  simp only [go_sem,jb,hok,hneg,hc,hy];refine qh _ _ _ _ _ ?_;simp only [go_sem,jb]
 obtain ⟨k,r,hrk,hr,hid,h8⟩:=qU hneg;have hk:=(List.getElem?_eq_some_iff.1 hr).1;have h0k:(k:Int)≥0:=by omega
 have hk0:¬(k:Int)<0:=by omega
 have hget:(y.runs[(runAt y id).toNat]?).getD default=r:=by rw [hrk,Int.toNat_natCast,hr];rfl
 cases hst:r.state !=1;rotate_left
 ·have hs1:¬r.state=1:=by simpa using hst
  have hc:kV y id=12:=by unfold kV;rw [if_neg (by simp [hok]),if_neg hneg,hget,if_neg hs1]
  have hy:kU y id=y:=by simp [kU,hc]
  simp only [go_sem,jb,hok,hrk,hk0,h0k,hk,jV hr,jd,ja,hst,hc,hy];refine qh _ _ _ _ _ ?_;simp only [go_sem,jb]
 have hs1:r.state=1:=by simpa using hst
 have hc:kV y id=0:=by unfold kV;rw [if_neg (by simp [hok]),if_neg hneg,hget,if_pos hs1]
 have hy:kU y id=jh7 y k (jbj r):=by rw [kU,if_pos hc,hget,hrk,Int.toNat_natCast]
 have hrb:=jbY ht (List.mem_of_getElem? hr);rw [hc,hy,jh7];simp only [go_sem,jb,hok,hrk,hk0,h0k,hk,jV hr,jjF hr,jeE hr,jd,ja,hst];refine jc (jjn r hrb.1 hrb.2) (by simp only [go_sem,jb,jd,ja,ka hr,ko hr]) fun η=>?_
 simp only [go_sem,jb,jd,ja,ka hr,ko hr];simp only [go_sem,hk,jnD (jbj r) hk];refine ⟨jeE hr,fun η' hη=>qh _ _ _ _ _ ?_⟩
 simp only [go_sem,jb]
theorem jnl {T:Nat} (y:Yd) (id:Int) (ht:jt y≤T):jt (kU y id)≤T:=by
 unfold kU;split
 ·rename_i h
  have hneg:¬runAt y id<0:=fun hn=>by
   unfold kV at h;split at h
   ·cases h
   ·omega
  obtain ⟨k,r,hrk,hr,-,-⟩:=qU hneg;rw [hrk,Int.toNat_natCast,hr];exact (jpW hr (jsV _)).symm▸ht
 ·exact ht
theorem jrv {T:Nat} (y:Yd) (id:Int) (ht:jt y≤T):jt (jau y id)≤T:=by
 unfold jau;split
 ·have h1:=jej km y.runs (runAt y id).toNat
  have h2:=List.length_eraseIdx_le y.runs (runAt y id).toNat
  have h3:∀l:List (List En),kj kO (l.map fun l=>l.filter (jdj id))≤kj kO l:=by
   intro l
   induction l with
   |nil=>exact Nat.le_refl _
   |cons a l ih=>
    have h4:kO (a.filter (jdj id))≤kO a:=List.length_filter_le _ _;simp only [kj,List.map_cons,List.sum_cons] at ih⊢;omega
  have h5:=h3 y.shelf;simp only [jt,vL,qz,List.length_map] at ht⊢;omega
 ·exact ht
theorem jrt {T:Nat} (y:Yd) (worker draw:Int) (ht:jt y≤T):jt (zT y worker draw)≤T:=by
 unfold zT;split
 ·exact ht
 ·rename_i hc
  have hok:jD y=true:=by
   cases h:jD y with
   |true=>rfl
   |false=>exact absurd (.inl h) hc
  have hw:0≤worker∧worker≤99:=by
   refine Classical.byContradiction fun h=>hc (.inr h)
  have hh4:(worker.tmod 4).toNat<4:=by rw [Int.tmod_eq_emod_of_nonneg hw.1];omega
  have hI:=jxC (yard_iff.1 hok) hh4 draw;have hIt:=hI.tot;split
  ·omega
  ·rename_i e l he
   generalize (worker.tmod 4).toNat=h at*
   have ha:(jbZ y h draw).shelf[h]?=some (e::l):=by
    rw [jig] at he;cases hs:(jbZ y h draw).shelf[h]? with
    |none=>rw [hs] at he;simp at he
    |some x=>rw [hs,Option.getD_some] at he;rw [he]
   generalize jbZ y h draw=Z at*;obtain ⟨k,t,r,x,hrk,hr,het,hx,hxs⟩:=jln (hI.frs _ ha e (by simp))
   rw [←hI.runs] at hr;have hrz2:runAt Z e.run=(k:Int):=by rw [←hrk];unfold runAt;rw [hI.runs]
   have hH:jmJ Z h e l=⟨Z.now,Z.seq,Z.shelf.set h l,Z.runs.set k (zc r t x Z.now)⟩:=by
    simp only [jmJ,hrz2,het,Int.toNat_natCast,hr,hx,Option.getD_some]
   have h1:=jek (l2:=l) ha;have h2:=jaa (f:=km) (zc r t x Z.now) hr;have h3:km (zc r t x Z.now)=km r:=by simp [km,zc,jrP]
   rw [hH];simp only [jt,qz,List.length_set,List.length_cons] at*;omega
theorem jrx {T:Nat} (y:Yd) (id task tri:Int) (ht:jt y≤T):jt (jcZ y id task tri)≤T+2000:=by
 unfold jcZ;split
 ·rename_i h
  obtain ⟨hok,hneg⟩:=jos h;obtain ⟨k,r,hrk,hr,hid,h8⟩:=qU hneg;rw [hrk,Int.toNat_natCast,hr,Option.getD_some];have h12:=(hok.right r (List.mem_of_getElem? hr)).le12;have:=jkr (r2:=qv r task) hr (jnv r task) (by rw [jdS];exact h12)
  omega
 ·omega
theorem jrw {T:Nat} (y:Yd) (id task tri:Int) (ht:jt y≤T):jt (jcY y id task tri)≤T+2000:=by
 unfold jcY;split
 ·rename_i h
  obtain ⟨hok,hneg⟩:=jos h;obtain ⟨k,r,hrk,hr,hid,h8⟩:=qU hneg;rw [hrk,Int.toNat_natCast,hr,Option.getD_some];have h12:=(hok.right r (List.mem_of_getElem? hr)).le12;have:=jkr (r2:=jE r task) hr (jgx r task) (by rw [qg];exact h12)
  omega
 ·omega
theorem jrs {T:Nat} (y:Yd) (ht:jt y≤T):jt (jcU y)≤T+2000:=by
 unfold jcU;split
 ·rename_i h
  have hP:=yard_iff.1 h;have:=(StepI.restR hP y.runs.length).tot;have:=hP.eight;omega
 ·omega
theorem jrr {T:Nat} (y:Yd) (ht:jt y≤T):jt (jbP y)≤T+2000:=by
 unfold jbP;split
 ·rename_i h
  have hok:jD y=true:=by
   unfold jaR at h;split at h
   ·cases h
   ·rename_i h1;simpa using h1
  have hP:=yard_iff.1 hok;have h1:=(jcC hP (kN y).length).tot;have h2:=jn0 hP;have e:jt ⟨y.now+1,(vp y (kN y).length).seq,(vp y (kN y).length).shelf,(vp y (kN y).length).runs⟩=jt (vp y (kN y).length):=rfl;rw [e];omega
 ·omega
theorem jup {T:Nat} (y:Yd) (id:Int) (p:Pl) (ht:jt y≤T):jt (jee y id p)≤T+2000:=by
 unfold jee;split
 ·rename_i hc
  have hpf:jz p=0:=by
   unfold jdc at hc;split at hc
   ·cases hc
   split at hc
   ·cases hc
   split at hc
   ·cases hc
   split at hc
   ·exact hc
   ·rename_i h;omega
  obtain ⟨t0,ht0,-,h12,h30,-⟩:=ji6 hpf;have h1:=jru (y:=⟨y.now,y.seq,y.shelf,y.runs++[qQ id p]⟩) (r:=qQ id p) (ids:=zn 2 (qQ id p).tasks);have h2:(zn 2 (qQ id p).tasks).length≤12:=Nat.le_trans (zQ _ _ _) (by rw [qQ,jaY];omega)
  have h3:km (qQ id p)≤42:=by
   have h5:(qQ id p).tasks.length≤12:=by rw [qQ,jaY];omega
   have h6:(qQ id p).plan.edges.length≤30:=h30;simp only [km,zP];omega
  have h4:jt ⟨y.now,y.seq,y.shelf,y.runs++[qQ id p]⟩=jt y+1+km (qQ id p):=by
   simp only [jt,qz,jab,List.length_append,List.length_cons,List.length_nil];simp only [kj,List.map_cons,List.map_nil,List.sum_cons,List.sum_nil];omega
  omega
 ·omega
noncomputable def doY (y:Yd) (d:Dd):Yd:=
 if kq d=false then y else if d.kind=1 then jee y d.run d.plan else if d.kind=2 then zT y d.worker d.draw else if d.kind=3 then jcZ y d.run d.task d.tri
 else if d.kind=4 then jcY y d.run d.task d.tri else if d.kind=5 then jbP y else if d.kind=6 then kU y d.run else if d.kind=7 then jau y d.run else jcU y
noncomputable def doQ (y:Yd) (d:Dd):Rp:=
 if kq d=false then ⟨5,0,0,0⟩ else if d.kind=1 then ⟨jdc y d.run d.plan,0,0,0⟩ else if d.kind=2 then jnE y d.worker d.draw else if d.kind=3 then ⟨jaI y d.run d.task d.tri,0,0,0⟩
 else if d.kind=4 then ⟨jaI y d.run d.task d.tri,0,0,0⟩ else if d.kind=5 then ⟨jaR y,0,0,0⟩ else if d.kind=6 then ⟨kV y d.run,0,0,0⟩ else if d.kind=7 then ⟨jak y d.run,0,0,0⟩
 else if jD y=true then ⟨0,0,0,0⟩ else ⟨8,0,0,0⟩
theorem jAK {T:Nat} (y:Yd) (d:Dd) (h:jt y≤T):jt (doY y d)≤T+2000:=by
 have h1:=jup y d.run d.plan h;have h2:=jrt y d.worker d.draw h;have h3:=jrx y d.run d.task d.tri h;have h4:=jrw y d.run d.task d.tri h;have h5:=jrr y h;have h6:=jnl y d.run h;have h7:=jrv y d.run h;have h8:=jrs y h;unfold doY
 repeat' split
 all_goals omega
theorem jAL (y:Yd) (d:Dd) (h:jD y=false):doY y d=y:=by
 unfold doY
 repeat' split
 ·rfl
 ·simp [jee,jdc,h]
 ·simp [zT,jaK,h]
 ·simp [jcZ,jaI,h]
 ·simp [jcY,jaI,h]
 ·simp [jbP,jaR,h]
 ·simp [kU,kV,h]
 ·simp [jau,jak,h]
 ·simp [jcU,h]
theorem jvV (y:Yd) (d:Dd) (h:jt y≤1100000):jt (doY y d)≤1100000:=by
 cases hk:jD y
 ·rw [jAL y d hk];exact h
 ·have h1:=(yard_iff.1 hk).small
  have:=jAK y d h1;omega
end Go.Proofs.YtmnpailnelmpiaaGreat
