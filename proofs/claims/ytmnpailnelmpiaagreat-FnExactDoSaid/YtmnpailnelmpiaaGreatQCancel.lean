/- Parts. -/
import Derived.Test.YtmnpailnelmpiaaGreatQDeedB
import Derived.Test.YtmnpailnelmpiaaGreatQFailsEp
import Derived.Test.YtmnpailnelmpiaaGreatQForg
import Derived.Test.YtmnpailnelmpiaaGreatQHole
import Derived.Test.YtmnpailnelmpiaaGreatQLater
import Derived.Test.YtmnpailnelmpiaaGreatQPoll
import Derived.Test.YtmnpailnelmpiaaGreatQSub
import Derived.Test.YtmnpailnelmpiaaGreatQTick
import Derived.Test.YtmnpailnelmpiaaGreatQTurnP
import Derived.Test.YtmnpailnelmpiaaGreatQW
set_option linter.unusedSimpArgs false
set_option linter.unusedVariables false
set_option maxHeartbeats 8000000
set_option maxRecDepth 100000
namespace Go.Proofs.YtmnpailnelmpiaaGreat
open Go.RowKit Go.Sort
def jdq:C:=iS [iA 1 (.box 108 8 (.t 0)),iA 2 (.alloc 108 [.int .i64 0,.int .i64 0,.int .i64 0,.int .i64 0,.int .i64 0,.slice none 0 0,.int .i64 0,.slice none 0 0])] (iS [iA 4 (iT 8 1),iA 5 (.call 185 [.t 4]),iA 3 (.alloc 108 [.int .i64 0,.int .i64 0,.int .i64 0,.int .i64 0,.int .i64 0,.slice none 0 0,.int .i64 0,.slice none 0 0]),iC (.st 8 [none,none,none,none,none,some (2,253),none,some (4,172)] (.t 3) (.t 5))] (.seq (iS [iA 6 (iT 8 1),iA 7 (.call 151 [.t 6]),iA 8 (iU 7),iA 9 (iM 8),iB 10 9 false (iF 6 1),iB 11 9 false (iL 10),iB 12 9 false (iQ .neq 3 11 1),iA 13 (.pick (.t 9) (.c (.bool true)) (.t 12))] (iD 13 (iS [iA 14 (iT 8 3),iC (.st 8 [none,none,none,none,none,some (2,253),none,some (4,172)] (.t 2) (.t 14))] .ret) .skip)) (iS [iA 15 (iT 8 3),iA 16 (.call 265 [.t 15,.c (.int .i64 4)]),iC (.st 8 [none,none,none,none,none,some (2,253),none,some (4,172)] (.t 2) (.t 16))] .ret)))
theorem jfZ:fnC Tryz.prog Tryz.f201=some (jdq,[.cell 2 true 8],17):=by kernel_rfl
def jdB:C:=iS [iA 1 (.box 108 8 (.t 0)),iA 2 (.alloc 108 [.int .i64 0,.int .i64 0,.int .i64 0,.int .i64 0,.int .i64 0,.slice none 0 0,.int .i64 0,.slice none 0 0])] (iS [iA 4 (iT 8 1),iA 5 (.call 209 [.t 4]),iA 3 (.alloc 108 [.int .i64 0,.int .i64 0,.int .i64 0,.int .i64 0,.int .i64 0,.slice none 0 0,.int .i64 0,.slice none 0 0]),iC (.st 8 [none,none,none,none,none,some (2,253),none,some (4,172)] (.t 3) (.t 5))] (.seq (iS [iA 6 (iT 8 1),iA 7 (.call 138 [.t 6]),iA 8 (iM 7),iB 9 8 true (iF 6 1),iB 10 8 true (iL 9),iB 11 8 true (iQ .eql 3 10 1),iA 12 (.pick (.t 8) (.t 11) (.c (.bool false)))] (iD 12 (iS [iA 13 (.call 236 [.t 3,.c (.int .i64 (-1))])] (.reg [iA 14 (iF 6 3),iC (.st 1 [none] (.t 14) (.c (.int .i64 4)))])) .skip)) (iS [iA 15 (iT 8 3),iC (.st 8 [none,none,none,none,none,some (2,253),none,some (4,172)] (.t 2) (.t 15))] .ret)))
theorem jga:fnC Tryz.prog Tryz.f145=some (jdB,[.cell 2 true 8],16):=by kernel_rfl
def je9:C:=iS [iA 2 (.box 37 4 (.t 0)),iA 4 (.alloc 37 [.int .i64 0,.int .i64 0,.slice none 0 0,.slice none 0 0]),iA 5 (iN 0)] (iS [iA 8 (iT 4 2),iA 9 (.call 105 [.t 8]),iA 6 (.alloc 37 [.int .i64 0,.int .i64 0,.slice none 0 0,.slice none 0 0]),iC (.st 4 [none,none,some (1,102),some (8,108)] (.t 6) (.t 9))] (iS [iA 10 (iT 4 2),iA 11 (iM 1),iA 12 (.call 152 [.t 10,.t 11]),iA 7 (iM 12)] (.seq (.blk 0 (iS [iA 14 (iT 4 2),iA 15 (.call 72 [.t 14]),iA 16 (iU 15),iA 13 (iM 16)] (iD 13 (iS [iA 17 (iT 4 6),iC (.st 4 [none,none,some (1,102),some (8,108)] (.t 4) (.t 17)),iA 5 (iN 8)] .ret) (iS [iA 19 (iM 7),iA 20 (iQ .lss 3 19 0),iA 18 (iM 20)] (iD 18 (iS [iA 21 (iT 4 6),iC (.st 4 [none,none,some (1,102),some (8,108)] (.t 4) (.t 21)),iA 5 (iN 10)] .ret) (iS [iA 23 (iF 3 2),iA 24 (iL 23),iA 25 (iM 7),iA 26 (iI 8 24 25),iA 27 (iF 6 26),iA 28 (iL 27),iA 29 (iQ .neq 3 28 1),iA 22 (iM 29)] (iD 22 (iS [iA 30 (iT 4 6),iC (.st 4 [none,none,some (1,102),some (8,108)] (.t 4) (.t 30)),iA 5 (iN 12)] .ret) .skip))))))) (.seq (.dreg (T.pure 0 (iA 31 (iF 3 6)) (T.pure 1 (iA 32 (iL 31)) (T.pure 2 (iA 33 (iM 7)) (T.pure 3 (iA 34 (iF 3 6)) (T.pure 4 (iA 35 (iL 34)) (T.pure 5 (iA 36 (iM 7)) (T.pure 6 (iA 37 (iI 8 35 36)) (T.pure 7 (iA 38 (iT 8 37)) (T.alt (iA 39 (.call 201 [.t 38])) [2,1,0] (T.pure 9 (iA 40 (iI 8 32 33)) (T.alt (iC (.st 8 [none,none,none,none,none,some (2,253),none,some (4,172)] (.t 40) (.t 39))) [] T.done T.stop)) T.stop)))))))))) (iS [iA 41 (iT 4 6),iC (.st 4 [none,none,some (1,102),some (8,108)] (.t 4) (.t 41)),iA 5 (iN 0)] .ret)))))
theorem jgY:fnC Tryz.prog Tryz.f111=some (je9,[.cell 4 true 4,.t 5],42):=by kernel_rfl
def jfo:C:=iS [iA 2 (.box 37 4 (.t 0)),iA 4 (.alloc 37 [.int .i64 0,.int .i64 0,.slice none 0 0,.slice none 0 0]),iA 5 (iN 0)] (iS [iA 8 (iT 4 2),iA 9 (.call 118 [.t 8]),iA 6 (.alloc 37 [.int .i64 0,.int .i64 0,.slice none 0 0,.slice none 0 0]),iC (.st 4 [none,none,some (1,102),some (8,108)] (.t 6) (.t 9))] (iS [iA 10 (iT 4 2),iA 11 (iM 1),iA 12 (.call 56 [.t 10,.t 11]),iA 7 (iM 12)] (.seq (.blk 0 (iS [iA 14 (iT 4 2),iA 15 (.call 59 [.t 14]),iA 16 (iU 15),iA 13 (iM 16)] (iD 13 (iS [iA 17 (iT 4 6),iC (.st 4 [none,none,some (1,102),some (8,108)] (.t 4) (.t 17)),iA 5 (iN 8)] .ret) (iS [iA 19 (iM 7),iA 20 (iQ .lss 3 19 0),iA 18 (iM 20)] (iD 18 (iS [iA 21 (iT 4 6),iC (.st 4 [none,none,some (1,102),some (8,108)] (.t 4) (.t 21)),iA 5 (iN 10)] .ret) (iS [iA 23 (iF 3 2),iA 24 (iL 23),iA 25 (iM 7),iA 26 (iI 8 24 25),iA 27 (iF 6 26),iA 28 (iL 27),iA 29 (iQ .neq 3 28 1),iA 22 (iM 29)] (iD 22 (iS [iA 30 (iT 4 6),iC (.st 4 [none,none,some (1,102),some (8,108)] (.t 4) (.t 30)),iA 5 (iN 12)] .ret) .skip))))))) (.seq (.dreg (T.pure 0 (iA 31 (iF 3 6)) (T.pure 1 (iA 32 (iL 31)) (T.pure 2 (iA 33 (iM 7)) (T.pure 3 (iA 34 (iF 3 2)) (T.pure 4 (iA 35 (iL 34)) (T.pure 5 (iA 36 (iM 7)) (T.pure 6 (iA 37 (iI 8 35 36)) (T.pure 7 (iA 38 (iT 8 37)) (T.alt (iA 39 (.call 145 [.t 38])) [2,1,0] (T.pure 9 (iA 40 (iI 8 32 33)) (T.alt (iC (.st 8 [none,none,none,none,none,some (2,253),none,some (4,172)] (.t 40) (.t 39))) [] T.done T.stop)) T.stop)))))))))) (iS [iA 41 (iT 4 6),iC (.st 4 [none,none,some (1,102),some (8,108)] (.t 4) (.t 41)),iA 5 (iN 0)] .ret)))))
theorem jhe:fnC Tryz.prog Tryz.f67=some (jfo,[.cell 4 true 4,.t 5],42):=by kernel_rfl
theorem ji5 (r:Rn) (hsz:r.plan.edges.length≤4000000) (ht:r.tasks.length≤4000000):kb Tryz.prog 201 [.agg (jd r)] (.agg (jd (jbe r))):=by
 refine jr Tryz.func201 jfZ (by simp) ?_
 unfold jdq;simp only [go_sem,jd,ja];intro b1 b2;refine jc (vo r hsz ht) (by simp only [go_sem,jd,ja]) fun ηc=>?_
 simp only [go_sem,jd,ja];intro b3;refine jc (jbT r) (by simp only [go_sem,jd,ja]) fun η=>?_
 simp only [go_sem,jd,ja];cases h:ky r
 ·have hb:jbe r=r:=jhz (by simp [h])
  simp only [go_sem,jd,ja,h,hb]
 cases h1:r.state !=1;rotate_left
 ·have h1':(r.state==1)=false:=by have:=h1;simp only [bne,Bool.not_eq_true'] at this;exact this
  have hb:jbe r=r:=jhz (by simp [h,h1'])
  simp only [go_sem,jd,ja,h,h1,hb]
 have h1':(r.state==1)=true:=by have:=h1;simp only [bne,Bool.not_eq_false'] at this;exact this
 have hb:jbe r=⟨r.id,r.plan,4,zE jR r.tasks r.tasks.length⟩:=jmn (by simp [h,h1'])
 rw [hb];simp only [go_sem,jd,ja,h,h1];generalize hts:r.tasks=ts0 at*;refine kM (qS (β:=7000000) Tryz.func265 jaD (by simp) ?_)
 unfold jak;simp only [go_sem,jd,ja];intro b72 b74;refine jq (fun i:Nat=>St.of [(1,Ni 4),(2,Bx 2 b72),(4,Bx 4 b74),(5,Ni i)] [(200,ZRn b2 tRn),(2,jan b72 tRn ⟨r.id,r.plan,r.state,zE jR ts0 i⟩ (ηc 5) (ηc 7)),(4,ZRn b74 tRn)]) (fun i=>i≤ts0.length) (fun i=>ts0.length-i) 0 (by (try dsimp only);first|omega|(simp;done)|(and_intros<;>first|omega|simp)) (jn [some 200,some 700000200,some 700000400] (by simp only [go_sem,jd,ja,joW]<;>and_intros<;>first|rfl|assumption)) ?_
 rintro j hj;have hml:=zq (f:=jR) (ts:=ts0) (k:=j);by_cases hlt:j<ts0.length
 ·have hlt':(j:Int)<ts0.length:=by omega
  have h0j:(j:Int)≥0:=by omega
  obtain ⟨y,hy⟩:=je hlt;have hyk:=jet (f:=jR) hy;have hset:=jes (f:=jR) hy;generalize zE jR ts0 j=M at*;have hlm:j<M.length:=by omega
  have hw:IntKind.i64.wrap ((j:Int)+1)=((j+1:Nat):Int):=jo (by omega) (by omega)
  simp only [go_sem,jd,ja,hml,hlt',h0j,hlt,jqW hyk,jgJ hyk,jm];intro b6;cases hc4:y.state !=4
  ·have hst4:y.state=4:=by simpa using hc4
   have hg0:jR j y=y:=by simp [jR,hst4]
   have hg:jR j y=⟨y.state,y.need,y.tri,y.til⟩:=hg0;rw [hg] at hset;simp only [go_sem,jd,ja,Nat.add_zero,hml,hlt',h0j,hlt,hc4,jba y.state y.need y.tri y.til hlm,hset,jgJ hyk,hw];exact ⟨j+1,by (try dsimp only);first|omega|assumption|(and_intros<;>first|omega|assumption),(jn [some 200,some 2,some 4] (by simp only [go_sem,jd,ja]<;>and_intros<;>first|rfl|assumption)),by (try dsimp only);omega⟩
  cases hc5:y.state !=5
  ·have hst5:y.state=5:=by simpa using hc5
   have hg0:jR j y=y:=by simp [jR,hst5]
   have hg:jR j y=⟨y.state,y.need,y.tri,y.til⟩:=hg0;rw [hg] at hset;simp only [go_sem,jd,ja,Nat.add_zero,hml,hlt',h0j,hlt,hc4,hc5,jba y.state y.need y.tri y.til hlm,hset,jgJ hyk,hw];exact ⟨j+1,by (try dsimp only);first|omega|assumption|(and_intros<;>first|omega|assumption),(jn [some 200,some 2,some 4] (by simp only [go_sem,jd,ja]<;>and_intros<;>first|rfl|assumption)),by (try dsimp only);omega⟩
  ·have hg:jR j y=⟨6,y.need,y.tri,0⟩:=by
    have h1:¬y.state=4:=by simpa using hc4
    have h2:¬y.state=5:=by simpa using hc5
    simp [jR,h1,h2]
   rw [hg] at hset;simp only [go_sem,jd,ja,Nat.add_zero,hml,hlt',h0j,hlt,hc4,hc5,jba 6 y.need y.tri 0 hlm,hset,jgJ hyk,hw];exact ⟨j+1,by (try dsimp only);first|omega|assumption|(and_intros<;>first|omega|assumption),(jn [some 200,some 2,some 4] (by simp only [go_sem,jd,ja]<;>and_intros<;>first|rfl|assumption)),by (try dsimp only);omega⟩
 have hlt':¬(j:Int)<ts0.length:=by omega
 obtain rfl:j=ts0.length:=by omega
 generalize zE jR ts0 ts0.length=M at*;simp only [go_sem,jd,ja,Nat.add_zero,hml,hlt']
theorem jjd (r:Rn) (hsz:r.plan.edges.length≤4000000) (ht:r.tasks.length≤4000000):kb Tryz.prog 145 [.agg (jd r)] (.agg (jd (jbe r))):=by
 refine jr Tryz.func145 jga (by simp) ?_
 unfold jdB;simp only [go_sem,jd,ja];intro b1 b2;refine jc (jc9 r hsz ht) (by simp only [go_sem,jd,ja]) fun ηc=>?_
 simp only [go_sem,jd,ja];intro b3;refine jc (jgn r hsz) (by simp only [go_sem,jd,ja]) fun η=>?_
 simp only [go_sem,jd,ja];cases h:ky r
 ·have hb:jbe r=r:=jhz (by simp [h])
  simp only [go_sem,jd,ja,h,hb]
 cases h1:r.state==1
 ·have hb:jbe r=r:=jhz (by simp [h,h1])
  simp only [go_sem,jd,ja,h,h1,hb]
 have hb:jbe r=⟨r.id,r.plan,4,zE jR r.tasks r.tasks.length⟩:=jmn (by simp [h,h1])
 have h5:=jzL (runOk_iff.1 h) (by simpa using h1)
 rw [hb,←jqs h5];simp only [go_sem,jd,ja,h,h1];generalize hts:r.tasks=ts0 at*;refine kM (qS (β:=8000000) Tryz.func236 jcc (by simp) ?_)
 unfold jcm;simp only [go_sem,jd,ja,Nat.add_zero];refine jq (fun i:Nat=>St.of [(0,Bx 300 b3),(1,Ni (-1)),(10,Ni ts0.length),(11,Ni i)] [(200,ZRn b2 tRn),(300,jan b3 tRn ⟨r.id,r.plan,r.state,zE (qi (-1)) ts0 i⟩ (ηc 5) (ηc 7))]) (fun i=>i≤ts0.length) (fun i=>ts0.length-i) 0 (by (try dsimp only);first|omega|(simp;done)|(and_intros<;>first|omega|simp)) (jn [some 200,some 300] (by simp only [go_sem,jd,ja,joW]<;>and_intros<;>first|rfl|assumption)) ?_
 rintro j hj;have hml:=zq (f:=qi (-1)) (ts:=ts0) (k:=j);by_cases hlt:j<ts0.length
 ·have hlt':(j:Int)<ts0.length:=by omega
  have h0j:(j:Int)≥0:=by omega
  obtain ⟨y,hy⟩:=je hlt;have hyk:=jet (f:=qi (-1)) hy;have hset:=jes (f:=qi (-1)) hy;have hsame:=jmk (f:=qi (-1)) hy;generalize zE (qi (-1)) ts0 j=M at*;have hw:IntKind.i64.wrap ((j:Int)+1)=((j+1:Nat):Int):=jo (by omega) (by omega)
  have hlm:j<M.length:=by omega
  have hne':¬(j:Int)=-1:=by omega
  have hne:((j:Int) !=-1)=true:=by simp only [bne,Bool.not_eq_true',beq_eq_false_iff_ne];exact hne'
  cases hc4:y.state !=4
  ·have hg:qi (-1) j y=y:=by have:y.state=4:=by simpa using hc4
                             simp [qi,this]
   have hq:=hsame hg;simp only [go_sem,jd,ja,Nat.add_zero,hml,hlt',h0j,hlt,hne,zH hyk,vY hyk,qZ hyk,qr hyk,hc4,hw];exact ⟨j+1,by (try dsimp only);first|omega|assumption|(and_intros<;>first|omega|assumption),(jn [some 200,some 300] (by simp only [go_sem,jd,ja,hq]<;>and_intros<;>first|rfl|assumption)),by (try dsimp only);omega⟩
  ·have hg:qi (-1) j y=⟨6,y.need,y.tri,0⟩:=by
    have h1:¬y.state=4:=by simpa using hc4
    simp [qi,h1,hne']
   rw [hg] at hset;have hyk2:(M.set j ⟨6,y.need,y.tri,y.til⟩)[j]?=some ⟨6,y.need,y.tri,y.til⟩:=List.getElem?_set_self hlm;simp only [go_sem,jd,ja,Nat.add_zero,hml,hlt',h0j,hlt,hne,zH hyk,vY hyk,qZ hyk,qr hyk,hc4,jaH hyk,zo hyk,jdN hyk2,jil hyk2,List.set_set,hset,hw];exact ⟨j+1,by (try dsimp only);first|omega|assumption|(and_intros<;>first|omega|assumption),(jn [some 200,some 300] (by simp only [go_sem,jd,ja]<;>and_intros<;>first|rfl|assumption)),by (try dsimp only);omega⟩
 have hlt':¬(j:Int)<ts0.length:=by omega
 obtain rfl:j=ts0.length:=by omega
 generalize zE (qi (-1)) ts0 ts0.length=M at*;simp only [go_sem,jd,ja,Nat.add_zero,hml,hlt']
theorem jkL (y:Yd) (id:Int) (ht:jt y≤2000000):kb Tryz.prog 111 [.agg (jb y),.c (.val (.int .i64 id))] (.tup [(true,jb (kN y id)),(false,[.val (.int .i64 (kO y id))])]):=by
 refine jr Tryz.func111 jgY (by simp) ?_
 unfold je9;simp only [go_sem,jb];intro b2 b4;refine jc (ki y ht) (by simp only [go_sem,jb]) fun ηc=>?_
 simp only [go_sem,jb];intro b6;refine jc (qe y id) (by simp only [go_sem,jb]) fun η=>?_
 simp only [go_sem,jb];refine jc (qd y ht) (by simp only [go_sem,jb]) fun η=>?_
 simp only [go_sem,jb];cases hok:jD y
 ·have hc:kO y id=8:=by simp [kO,hok]
  have hy:kN y id=y:=by simp [kN,hc]
  simp only [go_sem,jb,hok,hc,hy];refine qc _ _ _ _ _ ?_;simp only [go_sem,jb]
 by_cases hneg:runAt y id<0
 ·have hc:kO y id=10:=by simp [kO,hok,hneg]
  have hy:kN y id=y:=by simp [kN,hc]
  simp only [go_sem,jb,hok,hneg,hc,hy];refine qc _ _ _ _ _ ?_;simp only [go_sem,jb]
 obtain ⟨k,r,hrk,hr,hid,h8⟩:=qP hneg;have hk:=(List.getElem?_eq_some_iff.1 hr).1;have h0k:(k:Int)≥0:=by omega
 have hk0:¬(k:Int)<0:=by omega
 have hget:(y.runs[(runAt y id).toNat]?).getD default=r:=by rw [hrk,Int.toNat_natCast,hr];rfl
 cases hst:r.state !=1;rotate_left
 ·have hs1:¬r.state=1:=by simpa using hst
  have hc:kO y id=12:=by unfold kO;rw [if_neg (by simp [hok]),if_neg hneg,hget,if_neg hs1]
  have hy:kN y id=y:=by simp [kN,hc]
  simp only [go_sem,jb,hok,hrk,hk0,h0k,hk,jT hr,jd,ja,hst,hc,hy];refine qc _ _ _ _ _ ?_;simp only [go_sem,jb]
 have hs1:r.state=1:=by simpa using hst
 have hc:kO y id=0:=by unfold kO;rw [if_neg (by simp [hok]),if_neg hneg,hget,if_pos hs1]
 have hy:kN y id=jhR y k (jbe r):=by rw [kN,if_pos hc,hget,hrk,Int.toNat_natCast]
 have hrb:=jbQ ht (List.mem_of_getElem? hr);rw [hc,hy,jhR];simp only [go_sem,jb,hok,hrk,hk0,h0k,hk,jT hr,jjv hr,jez hr,jd,ja,hst];refine jc (ji5 r hrb.1 hrb.2) (by simp only [go_sem,jb,jd,ja,jX hr,kj hr]) fun η=>?_
 simp only [go_sem,jb,jd,ja,jX hr,kj hr];simp only [go_sem,hk,jnv (jbe r) hk];refine ⟨jez hr,fun η' hη=>qc _ _ _ _ _ ?_⟩
 simp only [go_sem,jb]
theorem jkW (y:Yd) (id:Int) (ht:jt y≤2000000):kb Tryz.prog 67 [.agg (jb y),.c (.val (.int .i64 id))] (.tup [(true,jb (kN y id)),(false,[.val (.int .i64 (kO y id))])]):=by
 refine jr Tryz.func67 jhe (by simp) ?_
 unfold jfo;simp only [go_sem,jb];intro b2 b4;refine jc (jY y ht) (by simp only [go_sem,jb]) fun ηc=>?_
 simp only [go_sem,jb];intro b6;refine jc (qh y id) (by simp only [go_sem,jb]) fun η=>?_
 simp only [go_sem,jb];refine jc (qg y ht) (by simp only [go_sem,jb]) fun η=>?_
 simp only [go_sem,jb];cases hok:jD y
 ·have hc:kO y id=8:=by simp [kO,hok]
  have hy:kN y id=y:=by simp [kN,hc]
  simp only [go_sem,jb,hok,hc,hy];refine qc _ _ _ _ _ ?_;simp only [go_sem,jb]
 by_cases hneg:runAt y id<0
 ·have hc:kO y id=10:=by simp [kO,hok,hneg]
  have hy:kN y id=y:=by simp [kN,hc]
  simp only [go_sem,jb,hok,hneg,hc,hy];refine qc _ _ _ _ _ ?_;simp only [go_sem,jb]
 obtain ⟨k,r,hrk,hr,hid,h8⟩:=qP hneg;have hk:=(List.getElem?_eq_some_iff.1 hr).1;have h0k:(k:Int)≥0:=by omega
 have hk0:¬(k:Int)<0:=by omega
 have hget:(y.runs[(runAt y id).toNat]?).getD default=r:=by rw [hrk,Int.toNat_natCast,hr];rfl
 cases hst:r.state !=1;rotate_left
 ·have hs1:¬r.state=1:=by simpa using hst
  have hc:kO y id=12:=by unfold kO;rw [if_neg (by simp [hok]),if_neg hneg,hget,if_neg hs1]
  have hy:kN y id=y:=by simp [kN,hc]
  simp only [go_sem,jb,hok,hrk,hk0,h0k,hk,jT hr,jd,ja,hst,hc,hy];refine qc _ _ _ _ _ ?_;simp only [go_sem,jb]
 have hs1:r.state=1:=by simpa using hst
 have hc:kO y id=0:=by unfold kO;rw [if_neg (by simp [hok]),if_neg hneg,hget,if_pos hs1]
 have hy:kN y id=jhR y k (jbe r):=by rw [kN,if_pos hc,hget,hrk,Int.toNat_natCast]
 have hrb:=jbQ ht (List.mem_of_getElem? hr);rw [hc,hy,jhR];simp only [go_sem,jb,hok,hrk,hk0,h0k,hk,jT hr,jjv hr,jez hr,jd,ja,hst];refine jc (jjd r hrb.1 hrb.2) (by simp only [go_sem,jb,jd,ja,jX hr,kj hr]) fun η=>?_
 simp only [go_sem,jb,jd,ja,jX hr,kj hr];simp only [go_sem,hk,jnv (jbe r) hk];refine ⟨jez hr,fun η' hη=>qc _ _ _ _ _ ?_⟩
 simp only [go_sem,jb]
theorem jnd {T:Nat} (y:Yd) (id:Int) (ht:jt y≤T):jt (kN y id)≤T:=by
 unfold kN;split
 ·rename_i h
  have hneg:¬runAt y id<0:=fun hn=>by
   unfold kO at h;split at h
   ·cases h
   ·omega
  obtain ⟨k,r,hrk,hr,-,-⟩:=qP hneg;rw [hrk,Int.toNat_natCast,hr];exact (jpM hr (jsz _)).symm▸ht
 ·exact ht
theorem jrh {T:Nat} (y:Yd) (id:Int) (ht:jt y≤T):jt (jas y id)≤T:=by
 unfold jas;split
 ·have h1:=jee kh y.runs (runAt y id).toNat
  have h2:=List.length_eraseIdx_le y.runs (runAt y id).toNat
  have h3:∀l:List (List En),kt kS (l.map fun l=>l.filter (jdc id))≤kt kS l:=by
   intro l
   induction l with
   |nil=>exact Nat.le_refl _
   |cons a l ih=>
    have h4:kS (a.filter (jdc id))≤kS a:=List.length_filter_le _ _;simp only [kt,List.map_cons,List.sum_cons] at ih⊢;omega
  have h5:=h3 y.shelf;simp only [jt,vJ,qu,List.length_map] at ht⊢;omega
 ·exact ht
theorem jrf {T:Nat} (y:Yd) (worker draw:Int) (ht:jt y≤T):jt (zP y worker draw)≤T:=by
 unfold zP;split
 ·exact ht
 ·rename_i hc
  have hok:jD y=true:=by
   cases h:jD y with
   |true=>rfl
   |false=>exact absurd (.inl h) hc
  have hw:0≤worker∧worker≤99:=by
   refine Classical.byContradiction fun h=>hc (.inr h)
  have hh4:(worker.tmod 4).toNat<4:=by rw [Int.tmod_eq_emod_of_nonneg hw.1];omega
  have hI:=jw8 (yard_iff.1 hok) hh4 draw;have hIt:=hI.tot;split
  ·omega
  ·rename_i e l he
   generalize (worker.tmod 4).toNat=h at*
   have ha:(jbR y h draw).shelf[h]?=some (e::l):=by
    rw [jh0] at he;cases hs:(jbR y h draw).shelf[h]? with
    |none=>rw [hs] at he;simp at he
    |some x=>rw [hs,Option.getD_some] at he;rw [he]
   generalize jbR y h draw=Z at*;obtain ⟨k,t,r,x,hrk,hr,het,hx,hxs⟩:=jld (hI.frs _ ha e (by simp))
   rw [←hI.runs] at hr;have hrz2:runAt Z e.run=(k:Int):=by rw [←hrk];unfold runAt;rw [hI.runs]
   have hH:jmA Z h e l=⟨Z.now,Z.seq,Z.shelf.set h l,Z.runs.set k (za r t x Z.now)⟩:=by
    simp only [jmA,hrz2,het,Int.toNat_natCast,hr,hx,Option.getD_some]
   have h1:=jef (l2:=l) ha;have h2:=zV (f:=kh) (za r t x Z.now) hr;have h3:kh (za r t x Z.now)=kh r:=by simp [kh,za,jry]
   rw [hH];simp only [jt,qu,List.length_set,List.length_cons] at*;omega
theorem jrj {T:Nat} (y:Yd) (id task tri:Int) (ht:jt y≤T):jt (jcS y id task tri)≤T+2000:=by
 unfold jcS;split
 ·rename_i h
  obtain ⟨hok,hneg⟩:=joi h;obtain ⟨k,r,hrk,hr,hid,h8⟩:=qP hneg;rw [hrk,Int.toNat_natCast,hr,Option.getD_some];have h12:=(hok.right r (List.mem_of_getElem? hr)).le12;have:=jkh (r2:=qp r task) hr (jnn r task) (by rw [jdM];exact h12)
  omega
 ·omega
theorem jri {T:Nat} (y:Yd) (id task tri:Int) (ht:jt y≤T):jt (jcR y id task tri)≤T+2000:=by
 unfold jcR;split
 ·rename_i h
  obtain ⟨hok,hneg⟩:=joi h;obtain ⟨k,r,hrk,hr,hid,h8⟩:=qP hneg;rw [hrk,Int.toNat_natCast,hr,Option.getD_some];have h12:=(hok.right r (List.mem_of_getElem? hr)).le12;have:=jkh (r2:=jE r task) hr (jgi r task) (by rw [qb];exact h12)
  omega
 ·omega
theorem jre {T:Nat} (y:Yd) (ht:jt y≤T):jt (jcN y)≤T+2000:=by
 unfold jcN;split
 ·rename_i h
  have hP:=yard_iff.1 h;have:=(StepI.restR hP y.runs.length).tot;have:=hP.eight;omega
 ·omega
theorem jrd {T:Nat} (y:Yd) (ht:jt y≤T):jt (jbH y)≤T+2000:=by
 unfold jbH;split
 ·rename_i h
  have hok:jD y=true:=by
   unfold jaP at h;split at h
   ·cases h
   ·rename_i h1;simpa using h1
  have hP:=yard_iff.1 hok;have h1:=(jcv hP (kH y).length).tot;have h2:=jnR hP;have e:jt ⟨y.now+1,(vm y (kH y).length).seq,(vm y (kH y).length).shelf,(vm y (kH y).length).runs⟩=jt (vm y (kH y).length):=rfl;rw [e];omega
 ·omega
theorem jt0 {T:Nat} (y:Yd) (id:Int) (p:Pl) (ht:jt y≤T):jt (jea y id p)≤T+2000:=by
 unfold jea;split
 ·rename_i hc
  have hpf:jy p=0:=by
   unfold jc5 at hc;split at hc
   ·cases hc
   split at hc
   ·cases hc
   split at hc
   ·cases hc
   split at hc
   ·exact hc
   ·rename_i h;omega
  obtain ⟨t0,ht0,-,h12,h30,-⟩:=jiW hpf;have h1:=jrg (y:=⟨y.now,y.seq,y.shelf,y.runs++[qK id p]⟩) (r:=qK id p) (ids:=zk 2 (qK id p).tasks);have h2:(zk 2 (qK id p).tasks).length≤12:=Nat.le_trans (zM _ _ _) (by rw [qK,jaW];omega)
  have h3:kh (qK id p)≤42:=by
   have h5:(qK id p).tasks.length≤12:=by rw [qK,jaW];omega
   have h6:(qK id p).plan.edges.length≤30:=h30;simp only [kh,zK];omega
  have h4:jt ⟨y.now,y.seq,y.shelf,y.runs++[qK id p]⟩=jt y+1+kh (qK id p):=by
   simp only [jt,qu,zW,List.length_append,List.length_cons,List.length_nil];simp only [kt,List.map_cons,List.map_nil,List.sum_cons,List.sum_nil];omega
  omega
 ·omega
noncomputable def doY (y:Yd) (d:Dd):Yd:=
 if km d=false then y else if d.kind=1 then jea y d.run d.plan else if d.kind=2 then zP y d.worker d.draw else if d.kind=3 then jcS y d.run d.task d.tri
 else if d.kind=4 then jcR y d.run d.task d.tri else if d.kind=5 then jbH y else if d.kind=6 then kN y d.run else if d.kind=7 then jas y d.run else jcN y
noncomputable def doQ (y:Yd) (d:Dd):Rp:=
 if km d=false then ⟨5,0,0,0⟩ else if d.kind=1 then ⟨jc5 y d.run d.plan,0,0,0⟩ else if d.kind=2 then jnw y d.worker d.draw else if d.kind=3 then ⟨jaG y d.run d.task d.tri,0,0,0⟩
 else if d.kind=4 then ⟨jaG y d.run d.task d.tri,0,0,0⟩ else if d.kind=5 then ⟨jaP y,0,0,0⟩ else if d.kind=6 then ⟨kO y d.run,0,0,0⟩ else if d.kind=7 then ⟨jai y d.run,0,0,0⟩
 else if jD y=true then ⟨0,0,0,0⟩ else ⟨8,0,0,0⟩
theorem jAd {T:Nat} (y:Yd) (d:Dd) (h:jt y≤T):jt (doY y d)≤T+2000:=by
 have h1:=jt0 y d.run d.plan h;have h2:=jrf y d.worker d.draw h;have h3:=jrj y d.run d.task d.tri h;have h4:=jri y d.run d.task d.tri h;have h5:=jrd y h;have h6:=jnd y d.run h;have h7:=jrh y d.run h;have h8:=jre y h;unfold doY
 repeat' split
 all_goals omega
theorem jAe (y:Yd) (d:Dd) (h:jD y=false):doY y d=y:=by
 unfold doY
 repeat' split
 ·rfl
 ·simp [jea,jc5,h]
 ·simp [zP,jaI,h]
 ·simp [jcS,jaG,h]
 ·simp [jcR,jaG,h]
 ·simp [jbH,jaP,h]
 ·simp [kN,kO,h]
 ·simp [jas,jai,h]
 ·simp [jcN,h]
theorem jvr (y:Yd) (d:Dd) (h:jt y≤1100000):jt (doY y d)≤1100000:=by
 cases hk:jD y
 ·rw [jAe y d hk];exact h
 ·have h1:=(yard_iff.1 hk).small
  have:=jAd y d h1;omega
end Go.Proofs.YtmnpailnelmpiaaGreat
