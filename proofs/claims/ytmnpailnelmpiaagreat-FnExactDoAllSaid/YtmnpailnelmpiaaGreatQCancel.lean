/- Parts. -/
import Derived.Test.YtmnpailnelmpiaaGreatQForg
import Derived.Test.YtmnpailnelmpiaaGreatQPoll
import Derived.Test.YtmnpailnelmpiaaGreatQTick
set_option linter.unusedSimpArgs false
set_option linter.unusedVariables false
set_option maxHeartbeats 8000000
set_option maxRecDepth 100000
namespace Go.Proofs.YtmnpailnelmpiaaGreat
open Go.RowKit Go.Sort
def jdy:C:=iS [iA 1 (.box 108 8 (.t 0)),iA 2 (.alloc 108 [.int .i64 0,.int .i64 0,.int .i64 0,.int .i64 0,.int .i64 0,.slice none 0 0,.int .i64 0,.slice none 0 0])] (iS [iA 4 (iT 8 1),iA 5 (.call 185 [.t 4]),iA 3 (.alloc 108 [.int .i64 0,.int .i64 0,.int .i64 0,.int .i64 0,.int .i64 0,.slice none 0 0,.int .i64 0,.slice none 0 0]),iC (.st 8 [none,none,none,none,none,some (2,253),none,some (4,172)] (.t 3) (.t 5))] (.seq (iS [iA 6 (iT 8 1),iA 7 (.call 151 [.t 6]),iA 8 (iU 7),iA 9 (iM 8),iB 10 9 false (iF 6 1),iB 11 9 false (iL 10),iB 12 9 false (iQ .neq 3 11 1),iA 13 (.pick (.t 9) (.c (.bool true)) (.t 12))] (iD 13 (iS [iA 14 (iT 8 3),iC (.st 8 [none,none,none,none,none,some (2,253),none,some (4,172)] (.t 2) (.t 14))] .ret) .skip)) (iS [iA 15 (iT 8 3),iA 16 (.call 265 [.t 15,.c (.int .i64 4)]),iC (.st 8 [none,none,none,none,none,some (2,253),none,some (4,172)] (.t 2) (.t 16))] .ret)))
theorem jgg:fnC Tryz.prog Tryz.f201=some (jdy,[.cell 2 true 8],17):=by kernel_rfl
def jdJ:C:=iS [iA 1 (.box 108 8 (.t 0)),iA 2 (.alloc 108 [.int .i64 0,.int .i64 0,.int .i64 0,.int .i64 0,.int .i64 0,.slice none 0 0,.int .i64 0,.slice none 0 0])] (iS [iA 4 (iT 8 1),iA 5 (.call 209 [.t 4]),iA 3 (.alloc 108 [.int .i64 0,.int .i64 0,.int .i64 0,.int .i64 0,.int .i64 0,.slice none 0 0,.int .i64 0,.slice none 0 0]),iC (.st 8 [none,none,none,none,none,some (2,253),none,some (4,172)] (.t 3) (.t 5))] (.seq (iS [iA 6 (iT 8 1),iA 7 (.call 138 [.t 6]),iA 8 (iM 7),iB 9 8 true (iF 6 1),iB 10 8 true (iL 9),iB 11 8 true (iQ .eql 3 10 1),iA 12 (.pick (.t 8) (.t 11) (.c (.bool false)))] (iD 12 (iS [iA 13 (.call 236 [.t 3,.c (.int .i64 (-1))])] (.reg [iA 14 (iF 6 3),iC (.st 1 [none] (.t 14) (.c (.int .i64 4)))])) .skip)) (iS [iA 15 (iT 8 3),iC (.st 8 [none,none,none,none,none,some (2,253),none,some (4,172)] (.t 2) (.t 15))] .ret)))
theorem jgr:fnC Tryz.prog Tryz.f145=some (jdJ,[.cell 2 true 8],16):=by kernel_rfl
def jfj:C:=iS [iA 2 (.box 37 4 (.t 0)),iA 4 (.alloc 37 [.int .i64 0,.int .i64 0,.slice none 0 0,.slice none 0 0]),iA 5 (iN 0)] (iS [iA 8 (iT 4 2),iA 9 (.call 105 [.t 8]),iA 6 (.alloc 37 [.int .i64 0,.int .i64 0,.slice none 0 0,.slice none 0 0]),iC (.st 4 [none,none,some (1,102),some (8,108)] (.t 6) (.t 9))] (iS [iA 10 (iT 4 2),iA 11 (iM 1),iA 12 (.call 152 [.t 10,.t 11]),iA 7 (iM 12)] (.seq (.blk 0 (iS [iA 14 (iT 4 2),iA 15 (.call 72 [.t 14]),iA 16 (iU 15),iA 13 (iM 16)] (iD 13 (iS [iA 17 (iT 4 6),iC (.st 4 [none,none,some (1,102),some (8,108)] (.t 4) (.t 17)),iA 5 (iN 8)] .ret) (iS [iA 19 (iM 7),iA 20 (iQ .lss 3 19 0),iA 18 (iM 20)] (iD 18 (iS [iA 21 (iT 4 6),iC (.st 4 [none,none,some (1,102),some (8,108)] (.t 4) (.t 21)),iA 5 (iN 10)] .ret) (iS [iA 23 (iF 3 2),iA 24 (iL 23),iA 25 (iM 7),iA 26 (iI 8 24 25),iA 27 (iF 6 26),iA 28 (iL 27),iA 29 (iQ .neq 3 28 1),iA 22 (iM 29)] (iD 22 (iS [iA 30 (iT 4 6),iC (.st 4 [none,none,some (1,102),some (8,108)] (.t 4) (.t 30)),iA 5 (iN 12)] .ret) .skip))))))) (.seq (.dreg (T.pure 0 (iA 31 (iF 3 6)) (T.pure 1 (iA 32 (iL 31)) (T.pure 2 (iA 33 (iM 7)) (T.pure 3 (iA 34 (iF 3 6)) (T.pure 4 (iA 35 (iL 34)) (T.pure 5 (iA 36 (iM 7)) (T.pure 6 (iA 37 (iI 8 35 36)) (T.pure 7 (iA 38 (iT 8 37)) (T.alt (iA 39 (.call 201 [.t 38])) [2,1,0] (T.pure 9 (iA 40 (iI 8 32 33)) (T.alt (iC (.st 8 [none,none,none,none,none,some (2,253),none,some (4,172)] (.t 40) (.t 39))) [] T.done T.stop)) T.stop)))))))))) (iS [iA 41 (iT 4 6),iC (.st 4 [none,none,some (1,102),some (8,108)] (.t 4) (.t 41)),iA 5 (iN 0)] .ret)))))
theorem jhm:fnC Tryz.prog Tryz.f111=some (jfj,[.cell 4 true 4,.t 5],42):=by kernel_rfl
def jfy:C:=iS [iA 2 (.box 37 4 (.t 0)),iA 4 (.alloc 37 [.int .i64 0,.int .i64 0,.slice none 0 0,.slice none 0 0]),iA 5 (iN 0)] (iS [iA 8 (iT 4 2),iA 9 (.call 118 [.t 8]),iA 6 (.alloc 37 [.int .i64 0,.int .i64 0,.slice none 0 0,.slice none 0 0]),iC (.st 4 [none,none,some (1,102),some (8,108)] (.t 6) (.t 9))] (iS [iA 10 (iT 4 2),iA 11 (iM 1),iA 12 (.call 56 [.t 10,.t 11]),iA 7 (iM 12)] (.seq (.blk 0 (iS [iA 14 (iT 4 2),iA 15 (.call 59 [.t 14]),iA 16 (iU 15),iA 13 (iM 16)] (iD 13 (iS [iA 17 (iT 4 6),iC (.st 4 [none,none,some (1,102),some (8,108)] (.t 4) (.t 17)),iA 5 (iN 8)] .ret) (iS [iA 19 (iM 7),iA 20 (iQ .lss 3 19 0),iA 18 (iM 20)] (iD 18 (iS [iA 21 (iT 4 6),iC (.st 4 [none,none,some (1,102),some (8,108)] (.t 4) (.t 21)),iA 5 (iN 10)] .ret) (iS [iA 23 (iF 3 2),iA 24 (iL 23),iA 25 (iM 7),iA 26 (iI 8 24 25),iA 27 (iF 6 26),iA 28 (iL 27),iA 29 (iQ .neq 3 28 1),iA 22 (iM 29)] (iD 22 (iS [iA 30 (iT 4 6),iC (.st 4 [none,none,some (1,102),some (8,108)] (.t 4) (.t 30)),iA 5 (iN 12)] .ret) .skip))))))) (.seq (.dreg (T.pure 0 (iA 31 (iF 3 6)) (T.pure 1 (iA 32 (iL 31)) (T.pure 2 (iA 33 (iM 7)) (T.pure 3 (iA 34 (iF 3 2)) (T.pure 4 (iA 35 (iL 34)) (T.pure 5 (iA 36 (iM 7)) (T.pure 6 (iA 37 (iI 8 35 36)) (T.pure 7 (iA 38 (iT 8 37)) (T.alt (iA 39 (.call 145 [.t 38])) [2,1,0] (T.pure 9 (iA 40 (iI 8 32 33)) (T.alt (iC (.st 8 [none,none,none,none,none,some (2,253),none,some (4,172)] (.t 40) (.t 39))) [] T.done T.stop)) T.stop)))))))))) (iS [iA 41 (iT 4 6),iC (.st 4 [none,none,some (1,102),some (8,108)] (.t 4) (.t 41)),iA 5 (iN 0)] .ret)))))
theorem jhC:fnC Tryz.prog Tryz.f67=some (jfy,[.cell 4 true 4,.t 5],42):=by kernel_rfl
theorem jjq (r:Rn) (hsz:r.plan.edges.length≤4000000) (ht:r.tasks.length≤4000000):ka Tryz.prog 201 [.agg (jd r)] (.agg (jd (jbj r))):=by
 refine jr Tryz.func201 jgg (by simp) ?_
 unfold jdy;simp only [go_sem,jd,ja];intro b1 b2;refine jc (vu r hsz ht) (by simp only [go_sem,jd,ja]) fun ηc=>?_
 simp only [go_sem,jd,ja];intro b3;refine jc (jb0 r) (by simp only [go_sem,jd,ja]) fun η=>?_
 simp only [go_sem,jd,ja];cases h:kF r
 ·have hb:jbj r=r:=jhW (by simp [h])
  simp only [go_sem,jd,ja,h,hb]
 cases h1:r.state !=1;rotate_left
 ·have h1':(r.state==1)=false:=by have:=h1;simp only [bne,Bool.not_eq_true'] at this;exact this
  have hb:jbj r=r:=jhW (by simp [h,h1'])
  simp only [go_sem,jd,ja,h,h1,hb]
 have h1':(r.state==1)=true:=by have:=h1;simp only [bne,Bool.not_eq_false'] at this;exact this
 have hb:jbj r=⟨r.id,r.plan,4,zJ jS r.tasks r.tasks.length⟩:=jmH (by simp [h,h1'])
 rw [hb];simp only [go_sem,jd,ja,h,h1];generalize hts:r.tasks=ts0 at*;refine kS (qY (β:=7000000) Tryz.func265 jaG (by simp) ?_)
 unfold jan;simp only [go_sem,jd,ja];intro b72 b74;refine jq (fun i:Nat=>St.of [(1,Ni 4),(2,Bx 2 b72),(4,Bx 4 b74),(5,Ni i)] [(200,ZRn b2 tRn),(2,jar b72 tRn ⟨r.id,r.plan,r.state,zJ jS ts0 i⟩ (ηc 5) (ηc 7)),(4,ZRn b74 tRn)]) (fun i=>i≤ts0.length) (fun i=>ts0.length-i) 0 (by (try dsimp only);first|omega|(simp;done)|(and_intros<;>first|omega|simp)) (jk [some 200,some 700000200,some 700000400] (by simp only [go_sem,jd,ja,jpj]<;>and_intros<;>first|rfl|assumption|trivial)) ?_
 rintro j hj;have hml:=zy (f:=jS) (ts:=ts0) (k:=j);by_cases hlt:j<ts0.length
 ·have hlt':(j:Int)<ts0.length:=by omega
  have h0j:(j:Int)≥0:=by omega
  obtain ⟨y,hy⟩:=je hlt;have hyk:=jeD (f:=jS) hy;have hset:=jeC (f:=jS) hy;generalize zJ jS ts0 j=M at*;have hlm:j<M.length:=by omega
  have hw:IntKind.i64.wrap ((j:Int)+1)=((j+1:Nat):Int):=jo (by omega) (by omega)
  simp only [go_sem,jd,ja,hml,hlt',h0j,hlt,jrq hyk,jg7 hyk,jn];intro b6;cases hc4:y.state !=4
  ·have hst4:y.state=4:=by simpa using hc4
   have hg0:jS j y=y:=by simp [jS,hst4]
   have hg:jS j y=⟨y.state,y.need,y.tri,y.til⟩:=hg0;rw [hg] at hset;simp only [go_sem,jd,ja,Nat.add_zero,hml,hlt',h0j,hlt,hc4,jbf y.state y.need y.tri y.til hlm,hset,jg7 hyk,hw];exact ⟨j+1,by (try dsimp only);first|omega|assumption|(and_intros<;>first|omega|assumption),(jk [some 200,some 2,some 4] (by simp only [go_sem,jd,ja]<;>and_intros<;>first|rfl|assumption|trivial)),by (try dsimp only);omega⟩
  cases hc5:y.state !=5
  ·have hst5:y.state=5:=by simpa using hc5
   have hg0:jS j y=y:=by simp [jS,hst5]
   have hg:jS j y=⟨y.state,y.need,y.tri,y.til⟩:=hg0;rw [hg] at hset;simp only [go_sem,jd,ja,Nat.add_zero,hml,hlt',h0j,hlt,hc4,hc5,jbf y.state y.need y.tri y.til hlm,hset,jg7 hyk,hw];exact ⟨j+1,by (try dsimp only);first|omega|assumption|(and_intros<;>first|omega|assumption),(jk [some 200,some 2,some 4] (by simp only [go_sem,jd,ja]<;>and_intros<;>first|rfl|assumption|trivial)),by (try dsimp only);omega⟩
  ·have hg:jS j y=⟨6,y.need,y.tri,0⟩:=by
    have h1:¬y.state=4:=by simpa using hc4
    have h2:¬y.state=5:=by simpa using hc5
    simp [jS,h1,h2]
   rw [hg] at hset;simp only [go_sem,jd,ja,Nat.add_zero,hml,hlt',h0j,hlt,hc4,hc5,jbf 6 y.need y.tri 0 hlm,hset,jg7 hyk,hw];exact ⟨j+1,by (try dsimp only);first|omega|assumption|(and_intros<;>first|omega|assumption),(jk [some 200,some 2,some 4] (by simp only [go_sem,jd,ja]<;>and_intros<;>first|rfl|assumption|trivial)),by (try dsimp only);omega⟩
 have hlt':¬(j:Int)<ts0.length:=by omega
 obtain rfl:j=ts0.length:=by omega
 generalize zJ jS ts0 ts0.length=M at*;simp only [go_sem,jd,ja,Nat.add_zero,hml,hlt']
theorem jjy (r:Rn) (hsz:r.plan.edges.length≤4000000) (ht:r.tasks.length≤4000000):ka Tryz.prog 145 [.agg (jd r)] (.agg (jd (jbj r))):=by
 refine jr Tryz.func145 jgr (by simp) ?_
 unfold jdJ;simp only [go_sem,jd,ja];intro b1 b2;refine jc (jdh r hsz ht) (by simp only [go_sem,jd,ja]) fun ηc=>?_
 simp only [go_sem,jd,ja];intro b3;refine jc (jgH r hsz) (by simp only [go_sem,jd,ja]) fun η=>?_
 simp only [go_sem,jd,ja];cases h:kF r
 ·have hb:jbj r=r:=jhW (by simp [h])
  simp only [go_sem,jd,ja,h,hb]
 cases h1:r.state==1
 ·have hb:jbj r=r:=jhW (by simp [h,h1])
  simp only [go_sem,jd,ja,h,h1,hb]
 have hb:jbj r=⟨r.id,r.plan,4,zJ jS r.tasks r.tasks.length⟩:=jmH (by simp [h,h1])
 have h5:=jAC (runOk_iff.1 h) (by simpa using h1)
 rw [hb,←jqV h5];simp only [go_sem,jd,ja,h,h1];generalize hts:r.tasks=ts0 at*;refine kS (qY (β:=8000000) Tryz.func236 jcj (by simp) ?_)
 unfold jcu;simp only [go_sem,jd,ja,Nat.add_zero];refine jq (fun i:Nat=>St.of [(0,Bx 300 b3),(1,Ni (-1)),(10,Ni ts0.length),(11,Ni i)] [(200,ZRn b2 tRn),(300,jar b3 tRn ⟨r.id,r.plan,r.state,zJ (qn (-1)) ts0 i⟩ (ηc 5) (ηc 7))]) (fun i=>i≤ts0.length) (fun i=>ts0.length-i) 0 (by (try dsimp only);first|omega|(simp;done)|(and_intros<;>first|omega|simp)) (jk [some 200,some 300] (by simp only [go_sem,jd,ja,jpj]<;>and_intros<;>first|rfl|assumption|trivial)) ?_
 rintro j hj;have hml:=zy (f:=qn (-1)) (ts:=ts0) (k:=j);by_cases hlt:j<ts0.length
 ·have hlt':(j:Int)<ts0.length:=by omega
  have h0j:(j:Int)≥0:=by omega
  obtain ⟨y,hy⟩:=je hlt;have hyk:=jeD (f:=qn (-1)) hy;have hset:=jeC (f:=qn (-1)) hy;have hsame:=jmE (f:=qn (-1)) hy;generalize zJ (qn (-1)) ts0 j=M at*;have hw:IntKind.i64.wrap ((j:Int)+1)=((j+1:Nat):Int):=jo (by omega) (by omega)
  have hlm:j<M.length:=by omega
  have hne':¬(j:Int)=-1:=by omega
  have hne:((j:Int) !=-1)=true:=by simp only [bne,Bool.not_eq_true',beq_eq_false_iff_ne];exact hne'
  cases hc4:y.state !=4
  ·have hg:qn (-1) j y=y:=by have:y.state=4:=by simpa using hc4
                             simp [qn,this]
   have hq:=hsame hg;simp only [go_sem,jd,ja,Nat.add_zero,hml,hlt',h0j,hlt,hne,zN hyk,zc hyk,vg hyk,qy hyk,hc4,hw];exact ⟨j+1,by (try dsimp only);first|omega|assumption|(and_intros<;>first|omega|assumption),(jk [some 200,some 300] (by simp only [go_sem,jd,ja,hq]<;>and_intros<;>first|rfl|assumption|trivial)),by (try dsimp only);omega⟩
  ·have hg:qn (-1) j y=⟨6,y.need,y.tri,0⟩:=by
    have h1:¬y.state=4:=by simpa using hc4
    simp [qn,h1,hne']
   rw [hg] at hset;have hyk2:(M.set j ⟨6,y.need,y.tri,y.til⟩)[j]?=some ⟨6,y.need,y.tri,y.til⟩:=List.getElem?_set_self hlm;simp only [go_sem,jd,ja,Nat.add_zero,hml,hlt',h0j,hlt,hne,zN hyk,zc hyk,vg hyk,qy hyk,hc4,jaK hyk,zw hyk,jdV hyk2,jiE hyk2,List.set_set,hset,hw];exact ⟨j+1,by (try dsimp only);first|omega|assumption|(and_intros<;>first|omega|assumption),(jk [some 200,some 300] (by simp only [go_sem,jd,ja]<;>and_intros<;>first|rfl|assumption|trivial)),by (try dsimp only);omega⟩
 have hlt':¬(j:Int)<ts0.length:=by omega
 obtain rfl:j=ts0.length:=by omega
 generalize zJ (qn (-1)) ts0 ts0.length=M at*;simp only [go_sem,jd,ja,Nat.add_zero,hml,hlt']
theorem jk4 (y:Yd) (id:Int) (ht:jt y≤2000000):ka Tryz.prog 111 [.agg (jb y),.c (.val (.int .i64 id))] (.tup [(true,jb (kU y id)),(false,[.val (.int .i64 (kV y id))])]):=by
 refine jr Tryz.func111 jhm (by simp) ?_
 unfold jfj;simp only [go_sem,jb];intro b2 b4;refine jc (kg y ht) (by simp only [go_sem,jb]) fun ηc=>?_
 simp only [go_sem,jb];intro b6;refine jc (qj y id) (by simp only [go_sem,jb]) fun η=>?_
 simp only [go_sem,jb];refine jc (qi y ht) (by simp only [go_sem,jb]) fun η=>?_
 simp only [go_sem,jb];cases hok:jD y
 ·have hc:kV y id=8:=by simp [kV,hok]
  have hy:kU y id=y:=by simp [kU,hc]
  simp only [go_sem,jb,hok,hc,hy];refine kZ _ _ _ _ _ ?_;simp only [go_sem,jb]
 by_cases hneg:runAt y id<0
 ·have hc:kV y id=10:=by simp [kV,hok,hneg]
  have hy:kU y id=y:=by simp [kU,hc]
  simp only [go_sem,jb,hok,hneg,hc,hy];refine kZ _ _ _ _ _ ?_;simp only [go_sem,jb]
 obtain ⟨k,r,hrk,hr,hid,h8⟩:=qW hneg;have hk:=(List.getElem?_eq_some_iff.1 hr).1;have h0k:(k:Int)≥0:=by omega
 have hk0:¬(k:Int)<0:=by omega
 have hget:(y.runs[(runAt y id).toNat]?).getD default=r:=by rw [hrk,Int.toNat_natCast,hr];rfl
 cases hst:r.state !=1;rotate_left
 ·have hs1:¬r.state=1:=by simpa using hst
  have hc:kV y id=12:=by unfold kV;rw [if_neg (by simp [hok]),if_neg hneg,hget,if_neg hs1]
  have hy:kU y id=y:=by simp [kU,hc]
  simp only [go_sem,jb,hok,hrk,hk0,h0k,hk,jU hr,jd,ja,hst,hc,hy];refine kZ _ _ _ _ _ ?_;simp only [go_sem,jb]
 have hs1:r.state=1:=by simpa using hst
 have hc:kV y id=0:=by unfold kV;rw [if_neg (by simp [hok]),if_neg hneg,hget,if_pos hs1]
 have hy:kU y id=jid y k (jbj r):=by rw [kU,if_pos hc,hget,hrk,Int.toNat_natCast]
 have hrb:=jbX ht (List.mem_of_getElem? hr);rw [hc,hy,jid];simp only [go_sem,jb,hok,hrk,hk0,h0k,hk,jU hr,jjQ hr,jeJ hr,jd,ja,hst];refine jc (jjq r hrb.1 hrb.2) (by simp only [go_sem,jb,jd,ja,jZ hr,ko hr]) fun η=>?_
 simp only [go_sem,jb,jd,ja,jZ hr,ko hr];simp only [go_sem,hk,jnQ (jbj r) hk];refine ⟨jeJ hr,fun η' hη=>kZ _ _ _ _ _ ?_⟩
 simp only [go_sem,jb]
theorem jlf (y:Yd) (id:Int) (ht:jt y≤2000000):ka Tryz.prog 67 [.agg (jb y),.c (.val (.int .i64 id))] (.tup [(true,jb (kU y id)),(false,[.val (.int .i64 (kV y id))])]):=by
 refine jr Tryz.func67 jhC (by simp) ?_
 unfold jfy;simp only [go_sem,jb];intro b2 b4;refine jc (jW y ht) (by simp only [go_sem,jb]) fun ηc=>?_
 simp only [go_sem,jb];intro b6;refine jc (qm y id) (by simp only [go_sem,jb]) fun η=>?_
 simp only [go_sem,jb];refine jc (ql y ht) (by simp only [go_sem,jb]) fun η=>?_
 simp only [go_sem,jb];cases hok:jD y
 ·have hc:kV y id=8:=by simp [kV,hok]
  have hy:kU y id=y:=by simp [kU,hc]
  simp only [go_sem,jb,hok,hc,hy];refine kZ _ _ _ _ _ ?_;simp only [go_sem,jb]
 by_cases hneg:runAt y id<0
 ·have hc:kV y id=10:=by simp [kV,hok,hneg]
  have hy:kU y id=y:=by simp [kU,hc]
  simp only [go_sem,jb,hok,hneg,hc,hy];refine kZ _ _ _ _ _ ?_;simp only [go_sem,jb]
 obtain ⟨k,r,hrk,hr,hid,h8⟩:=qW hneg;have hk:=(List.getElem?_eq_some_iff.1 hr).1;have h0k:(k:Int)≥0:=by omega
 have hk0:¬(k:Int)<0:=by omega
 have hget:(y.runs[(runAt y id).toNat]?).getD default=r:=by rw [hrk,Int.toNat_natCast,hr];rfl
 cases hst:r.state !=1;rotate_left
 ·have hs1:¬r.state=1:=by simpa using hst
  have hc:kV y id=12:=by unfold kV;rw [if_neg (by simp [hok]),if_neg hneg,hget,if_neg hs1]
  have hy:kU y id=y:=by simp [kU,hc]
  simp only [go_sem,jb,hok,hrk,hk0,h0k,hk,jU hr,jd,ja,hst,hc,hy];refine kZ _ _ _ _ _ ?_;simp only [go_sem,jb]
 have hs1:r.state=1:=by simpa using hst
 have hc:kV y id=0:=by unfold kV;rw [if_neg (by simp [hok]),if_neg hneg,hget,if_pos hs1]
 have hy:kU y id=jid y k (jbj r):=by rw [kU,if_pos hc,hget,hrk,Int.toNat_natCast]
 have hrb:=jbX ht (List.mem_of_getElem? hr);rw [hc,hy,jid];simp only [go_sem,jb,hok,hrk,hk0,h0k,hk,jU hr,jjQ hr,jeJ hr,jd,ja,hst];refine jc (jjy r hrb.1 hrb.2) (by simp only [go_sem,jb,jd,ja,jZ hr,ko hr]) fun η=>?_
 simp only [go_sem,jb,jd,ja,jZ hr,ko hr];simp only [go_sem,hk,jnQ (jbj r) hk];refine ⟨jeJ hr,fun η' hη=>kZ _ _ _ _ _ ?_⟩
 simp only [go_sem,jb]
theorem jny {T:Nat} (y:Yd) (id:Int) (ht:jt y≤T):jt (kU y id)≤T:=by
 unfold kU;split
 ·rename_i h
  have hneg:¬runAt y id<0:=fun hn=>by
   unfold kV at h;split at h
   ·cases h
   ·omega
  obtain ⟨k,r,hrk,hr,-,-⟩:=qW hneg;rw [hrk,Int.toNat_natCast,hr];exact (jqa hr (jth _)).symm▸ht
 ·exact ht
theorem jrM {T:Nat} (y:Yd) (id:Int) (ht:jt y≤T):jt (jaw y id)≤T:=by
 unfold jaw;split
 ·have h1:=jeo kn y.runs (runAt y id).toNat
  have h2:=List.length_eraseIdx_le y.runs (runAt y id).toNat
  have h3:∀l:List (List En),kj kO (l.map fun l=>l.filter (jdk id))≤kj kO l:=by
   intro l
   induction l with
   |nil=>exact Nat.le_refl _
   |cons a l ih=>
    have h4:kO (a.filter (jdk id))≤kO a:=List.length_filter_le _ _;simp only [kj,List.map_cons,List.sum_cons] at ih⊢;omega
  have h5:=h3 y.shelf;simp only [jt,vP,qA,List.length_map] at ht⊢;omega
 ·exact ht
theorem jrK {T:Nat} (y:Yd) (worker draw:Int) (ht:jt y≤T):jt (zV y worker draw)≤T:=by
 unfold zV;split
 ·exact ht
 ·rename_i hc
  have hok:jD y=true:=by
   cases h:jD y with
   |true=>rfl
   |false=>exact absurd (.inl h) hc
  have hw:0≤worker∧worker≤99:=by
   refine Classical.byContradiction fun h=>hc (.inr h)
  have hh4:(worker.tmod 4).toNat<4:=by rw [Int.tmod_eq_emod_of_nonneg hw.1];omega
  have hI:=jxW (yard_iff.1 hok) hh4 draw;have hIt:=hI.tot;split
  ·omega
  ·rename_i e l he
   generalize (worker.tmod 4).toNat=h at*
   have ha:(jbY y h draw).shelf[h]?=some (e::l):=by
    rw [jim] at he;cases hs:(jbY y h draw).shelf[h]? with
    |none=>rw [hs] at he;simp at he
    |some x=>rw [hs,Option.getD_some] at he;rw [he]
   generalize jbY y h draw=Z at*;obtain ⟨k,t,r,x,hrk,hr,het,hx,hxs⟩:=jlv (hI.frs _ ha e (by simp))
   rw [←hI.runs] at hr;have hrz2:runAt Z e.run=(k:Int):=by rw [←hrk];unfold runAt;rw [hI.runs]
   have hH:jmV Z h e l=⟨Z.now,Z.seq,Z.shelf.set h l,Z.runs.set k (zf r t x Z.now)⟩:=by
    simp only [jmV,hrz2,het,Int.toNat_natCast,hr,hx,Option.getD_some]
   have h1:=jep (l2:=l) ha;have h2:=jab (f:=kn) (zf r t x Z.now) hr;have h3:kn (zf r t x Z.now)=kn r:=by simp [kn,zf,jr7]
   rw [hH];simp only [jt,qA,List.length_set,List.length_cons] at*;omega
theorem jrO {T:Nat} (y:Yd) (id task tri:Int) (ht:jt y≤T):jt (jc0 y id task tri)≤T+2000:=by
 unfold jc0;split
 ·rename_i h
  obtain ⟨hok,hneg⟩:=joF h;obtain ⟨k,r,hrk,hr,hid,h8⟩:=qW hneg;rw [hrk,Int.toNat_natCast,hr,Option.getD_some];have h12:=(hok.right r (List.mem_of_getElem? hr)).le12;have:=jkA (r2:=qw r task) hr (jnI r task) (by rw [jdU];exact h12)
  omega
 ·omega
theorem jrN {T:Nat} (y:Yd) (id task tri:Int) (ht:jt y≤T):jt (jcZ y id task tri)≤T+2000:=by
 unfold jcZ;split
 ·rename_i h
  obtain ⟨hok,hneg⟩:=joF h;obtain ⟨k,r,hrk,hr,hid,h8⟩:=qW hneg;rw [hrk,Int.toNat_natCast,hr,Option.getD_some];have h12:=(hok.right r (List.mem_of_getElem? hr)).le12;have:=jkA (r2:=jE r task) hr (jgC r task) (by rw [qh];exact h12)
  omega
 ·omega
theorem jrJ {T:Nat} (y:Yd) (ht:jt y≤T):jt (jcV y)≤T+2000:=by
 unfold jcV;split
 ·rename_i h
  have hP:=yard_iff.1 h;have:=(StepI.restR hP y.runs.length).tot;have:=hP.eight;omega
 ·omega
theorem jrI {T:Nat} (y:Yd) (ht:jt y≤T):jt (jbN y)≤T+2000:=by
 unfold jbN;split
 ·rename_i h
  have hok:jD y=true:=by
   unfold jaS at h;split at h
   ·cases h
   ·rename_i h1;simpa using h1
  have hP:=yard_iff.1 hok;have h1:=(jcD hP (kN y).length).tot;have h2:=jod hP;have e:jt ⟨y.now+1,(vr y (kN y).length).seq,(vr y (kN y).length).shelf,(vr y (kN y).length).runs⟩=jt (vr y (kN y).length):=rfl;rw [e];omega
 ·omega
theorem juM {T:Nat} (y:Yd) (id:Int) (p:Pl) (ht:jt y≤T):jt (jej y id p)≤T+2000:=by
 unfold jej;split
 ·rename_i hc
  have hpf:jz p=0:=by
   unfold jdd at hc;split at hc
   ·cases hc
   split at hc
   ·cases hc
   split at hc
   ·cases hc
   split at hc
   ·exact hc
   ·rename_i h;omega
  obtain ⟨t0,ht0,-,h12,h30,-⟩:=jjh hpf;have h1:=jrL (y:=⟨y.now,y.seq,y.shelf,y.runs++[qS id p]⟩) (r:=qS id p) (ids:=zq 2 (qS id p).tasks);have h2:(zq 2 (qS id p).tasks).length≤12:=Nat.le_trans (zS _ _ _) (by rw [qS,jaZ];omega)
  have h3:kn (qS id p)≤42:=by
   have h5:(qS id p).tasks.length≤12:=by rw [qS,jaZ];omega
   have h6:(qS id p).plan.edges.length≤30:=h30;simp only [kn,zR];omega
  have h4:jt ⟨y.now,y.seq,y.shelf,y.runs++[qS id p]⟩=jt y+1+kn (qS id p):=by
   simp only [jt,qA,jac,List.length_append,List.length_cons,List.length_nil];simp only [kj,List.map_cons,List.map_nil,List.sum_cons,List.sum_nil];omega
  omega
 ·omega
noncomputable def doY (y:Yd) (d:Dd):Yd:=
 if kp d=false then y else if d.kind=1 then jej y d.run d.plan else if d.kind=2 then zV y d.worker d.draw else if d.kind=3 then jc0 y d.run d.task d.tri
 else if d.kind=4 then jcZ y d.run d.task d.tri else if d.kind=5 then jbN y else if d.kind=6 then kU y d.run else if d.kind=7 then jaw y d.run else jcV y
noncomputable def doQ (y:Yd) (d:Dd):Rp:=
 if kp d=false then ⟨5,0,0,0⟩ else if d.kind=1 then ⟨jdd y d.run d.plan,0,0,0⟩ else if d.kind=2 then jnR y d.worker d.draw else if d.kind=3 then ⟨jaJ y d.run d.task d.tri,0,0,0⟩
 else if d.kind=4 then ⟨jaJ y d.run d.task d.tri,0,0,0⟩ else if d.kind=5 then ⟨jaS y,0,0,0⟩ else if d.kind=6 then ⟨kV y d.run,0,0,0⟩ else if d.kind=7 then ⟨jal y d.run,0,0,0⟩
 else if jD y=true then ⟨0,0,0,0⟩ else ⟨8,0,0,0⟩
theorem jA4 {T:Nat} (y:Yd) (d:Dd) (h:jt y≤T):jt (doY y d)≤T+2000:=by
 have h1:=juM y d.run d.plan h;have h2:=jrK y d.worker d.draw h;have h3:=jrO y d.run d.task d.tri h;have h4:=jrN y d.run d.task d.tri h;have h5:=jrI y h;have h6:=jny y d.run h;have h7:=jrM y d.run h;have h8:=jrJ y h;unfold doY
 repeat' split
 all_goals omega
theorem jA5 (y:Yd) (d:Dd) (h:jD y=false):doY y d=y:=by
 unfold doY
 repeat' split
 ·rfl
 ·simp [jej,jdd,h]
 ·simp [zV,jaL,h]
 ·simp [jc0,jaJ,h]
 ·simp [jcZ,jaJ,h]
 ·simp [jbN,jaS,h]
 ·simp [kU,kV,h]
 ·simp [jaw,jal,h]
 ·simp [jcV,h]
theorem jwf (y:Yd) (d:Dd) (h:jt y≤1100000):jt (doY y d)≤1100000:=by
 cases hk:jD y
 ·rw [jA5 y d hk];exact h
 ·have h1:=(yard_iff.1 hk).small
  have:=jA4 y d h1;omega
def jni:C:=iS [iA 2 (.box 37 4 (.t 0)),iA 3 (.box 73 11 (.t 1)),iA 4 (.alloc 37 [.int .i64 0,.int .i64 0,.slice none 0 0,.slice none 0 0]),iA 5 (.alloc 65 [.int .i64 0,.int .i64 0,.int .i64 0,.int .i64 0])] (.seq (iS [iA 8 (iT 11 3),iA 9 (.call 117 [.t 8]),iA 10 (iU 9)] (iD 10 (iS [iA 11 (iT 4 2),iA 12 (.call 118 [.t 11]),iA 13 (.bld [.int .i64 0,.int .i64 0,.int .i64 0,.int .i64 0] [(0,1,.c (.int .i64 5))]),iC (.st 4 [none,none,some (1,102),some (8,108)] (.t 4) (.t 12)),iC (.st 4 [none,none,none,none] (.t 5) (.t 13))] .ret) .skip)) (iS [iA 6 (.alloc 37 [.int .i64 0,.int .i64 0,.slice none 0 0,.slice none 0 0])] (iS [iA 7 (.alloc 65 [.int .i64 0,.int .i64 0,.int .i64 0,.int .i64 0])] (.seq (iS [iA 14 (iF 0 3),iA 15 (iL 14)] (.blk 0 (iS [iA 23 (iQ .eql 3 15 1),iA 22 (iM 23)] (iD 22 (.reg [iA 25 (iT 4 2),iA 26 (iF 1 3),iA 27 (iL 26),iA 28 (iF 2 3),iA 29 (iT 5 28),iA 30 (.call 119 [.t 25,.t 27,.t 29]),iA 24 (iM 30),iA 31 (iE 24 0),iA 32 (iE 24 1),iC (.st 4 [none,none,some (1,102),some (8,108)] (.t 6) (.t 31)),iA 33 (iF 0 7),iC (.st 1 [none] (.t 33) (.t 32))]) (iS [iA 35 (iQ .eql 3 15 2),iA 34 (iM 35)] (iD 34 (iS [iA 36 (iT 4 2),iA 37 (iF 9 3),iA 38 (iL 37),iA 39 (iF 10 3),iA 40 (iL 39),iA 41 (.call 120 [.t 36,.t 38,.t 40]),iA 42 (iE 41 0),iA 43 (iE 41 1),iC (.st 4 [none,none,some (1,102),some (8,108)] (.t 4) (.t 42)),iC (.st 4 [none,none,none,none] (.t 5) (.t 43))] .ret) (iS [iA 45 (iQ .eql 3 15 3),iA 44 (iM 45)] (iD 44 (.reg [iA 47 (iT 4 2),iA 48 (iF 1 3),iA 49 (iL 48),iA 50 (iF 7 3),iA 51 (iL 50),iA 52 (iF 8 3),iA 53 (iL 52),iA 54 (.call 121 [.t 47,.t 49,.t 51,.t 53]),iA 46 (iM 54),iA 55 (iE 46 0),iA 56 (iE 46 1),iC (.st 4 [none,none,some (1,102),some (8,108)] (.t 6) (.t 55)),iA 57 (iF 0 7),iC (.st 1 [none] (.t 57) (.t 56))]) (iS [iA 59 (iQ .eql 3 15 4),iA 58 (iM 59)] (iD 58 (.reg [iA 61 (iT 4 2),iA 62 (iF 1 3),iA 63 (iL 62),iA 64 (iF 7 3),iA 65 (iL 64),iA 66 (iF 8 3),iA 67 (iL 66),iA 68 (.call 122 [.t 61,.t 63,.t 65,.t 67]),iA 60 (iM 68),iA 69 (iE 60 0),iA 70 (iE 60 1),iC (.st 4 [none,none,some (1,102),some (8,108)] (.t 6) (.t 69)),iA 71 (iF 0 7),iC (.st 1 [none] (.t 71) (.t 70))]) (iS [iA 73 (iQ .eql 3 15 5),iA 72 (iM 73)] (iD 72 (.reg [iA 75 (iT 4 2),iA 76 (.call 123 [.t 75]),iA 74 (iM 76),iA 77 (iE 74 0),iA 78 (iE 74 1),iC (.st 4 [none,none,some (1,102),some (8,108)] (.t 6) (.t 77)),iA 79 (iF 0 7),iC (.st 1 [none] (.t 79) (.t 78))]) (iS [iA 81 (iQ .eql 3 15 6),iA 80 (iM 81)] (iD 80 (.reg [iA 83 (iT 4 2),iA 84 (iF 1 3),iA 85 (iL 84),iA 86 (.call 67 [.t 83,.t 85]),iA 82 (iM 86),iA 87 (iE 82 0),iA 88 (iE 82 1),iC (.st 4 [none,none,some (1,102),some (8,108)] (.t 6) (.t 87)),iA 89 (iF 0 7),iC (.st 1 [none] (.t 89) (.t 88))]) (iS [iA 91 (iQ .eql 3 15 7),iA 90 (iM 91)] (iD 90 (.reg [iA 93 (iT 4 2),iA 94 (iF 1 3),iA 95 (iL 94),iA 96 (.call 68 [.t 93,.t 95]),iA 92 (iM 96),iA 97 (iE 92 0),iA 98 (iE 92 1),iC (.st 4 [none,none,some (1,102),some (8,108)] (.t 6) (.t 97)),iA 99 (iF 0 7),iC (.st 1 [none] (.t 99) (.t 98))]) (iS [iA 16 (iT 4 2),iA 17 (.call 124 [.t 16]),iC (.st 4 [none,none,some (1,102),some (8,108)] (.t 6) (.t 17))] (iS [iA 18 (iT 4 2),iA 19 (.call 59 [.t 18]),iA 20 (iU 19)] (iD 20 (.reg [iA 21 (iF 0 7),iC (.st 1 [none] (.t 21) (.c (.int .i64 8)))]) .skip))))))))))))))))))) (.seq (.dreg (T.pure 0 (iA 100 (iT 4 6)) (T.pure 1 (iA 101 (iT 4 7)) (T.alt (iC (.st 4 [none,none,some (1,102),some (8,108)] (.t 4) (.t 100))) [1] (T.alt (iC (.st 4 [none,none,none,none] (.t 5) (.t 101))) [] T.done T.stop) T.stop)))) .ret)))))
theorem jm6:fnC Tryz.prog Tryz.f33=some (jni,[.cell 4 true 4,.cell 5 true 4],102):=by kernel_rfl
def jng:C:=iS [iA 2 (.box 37 4 (.t 0)),iA 3 (.box 73 11 (.t 1)),iA 4 (.alloc 37 [.int .i64 0,.int .i64 0,.slice none 0 0,.slice none 0 0]),iA 5 (.alloc 65 [.int .i64 0,.int .i64 0,.int .i64 0,.int .i64 0])] (iS [iA 6 (iN 0)] (iS [iA 8 (.bld [.int .i64 0,.int .i64 0,.slice none 0 0,.slice none 0 0] []),iA 7 (.alloc 37 [.int .i64 0,.int .i64 0,.slice none 0 0,.slice none 0 0]),iC (.st 4 [none,none,some (1,102),some (8,108)] (.t 7) (.t 8))] (.seq (iS [iA 9 (iT 11 3),iA 10 (.call 104 [.t 9]),iA 11 (iU 10)] (iD 11 (iS [iA 12 (iT 4 2),iA 13 (.call 105 [.t 12]),iA 14 (.bld [.int .i64 0,.int .i64 0,.int .i64 0,.int .i64 0] [(0,1,.c (.int .i64 5))]),iC (.st 4 [none,none,some (1,102),some (8,108)] (.t 4) (.t 13)),iC (.st 4 [none,none,none,none] (.t 5) (.t 14))] .ret) .skip)) (.seq (iS [iA 15 (iF 0 3),iA 16 (iL 15)] (.blk 0 (iS [iA 23 (iQ .eql 3 16 1),iA 22 (iM 23)] (iD 22 (.reg [iA 25 (iT 4 2),iA 26 (iF 1 3),iA 27 (iL 26),iA 28 (iF 2 3),iA 29 (iT 5 28),iA 30 (.call 106 [.t 25,.t 27,.t 29]),iA 24 (iM 30),iA 31 (iE 24 0),iA 32 (iE 24 1),iC (.st 4 [none,none,some (1,102),some (8,108)] (.t 7) (.t 31)),iA 6 (iM 32)]) (iS [iA 34 (iQ .eql 3 16 2),iA 33 (iM 34)] (iD 33 (iS [iA 35 (iT 4 2),iA 36 (iF 9 3),iA 37 (iL 36),iA 38 (iF 10 3),iA 39 (iL 38),iA 40 (.call 107 [.t 35,.t 37,.t 39]),iA 41 (iE 40 0),iA 42 (iE 40 1),iC (.st 4 [none,none,some (1,102),some (8,108)] (.t 4) (.t 41)),iC (.st 4 [none,none,none,none] (.t 5) (.t 42))] .ret) (iS [iA 44 (iQ .eql 3 16 3),iA 43 (iM 44)] (iD 43 (.reg [iA 46 (iT 4 2),iA 47 (iF 1 3),iA 48 (iL 47),iA 49 (iF 7 3),iA 50 (iL 49),iA 51 (iF 8 3),iA 52 (iL 51),iA 53 (.call 108 [.t 46,.t 48,.t 50,.t 52]),iA 45 (iM 53),iA 54 (iE 45 0),iA 55 (iE 45 1),iC (.st 4 [none,none,some (1,102),some (8,108)] (.t 7) (.t 54)),iA 6 (iM 55)]) (iS [iA 57 (iQ .eql 3 16 4),iA 56 (iM 57)] (iD 56 (.reg [iA 59 (iT 4 2),iA 60 (iF 1 3),iA 61 (iL 60),iA 62 (iF 7 3),iA 63 (iL 62),iA 64 (iF 8 3),iA 65 (iL 64),iA 66 (.call 109 [.t 59,.t 61,.t 63,.t 65]),iA 58 (iM 66),iA 67 (iE 58 0),iA 68 (iE 58 1),iC (.st 4 [none,none,some (1,102),some (8,108)] (.t 7) (.t 67)),iA 6 (iM 68)]) (iS [iA 70 (iQ .eql 3 16 5),iA 69 (iM 70)] (iD 69 (.reg [iA 72 (iT 4 2),iA 73 (.call 110 [.t 72]),iA 71 (iM 73),iA 74 (iE 71 0),iA 75 (iE 71 1),iC (.st 4 [none,none,some (1,102),some (8,108)] (.t 7) (.t 74)),iA 6 (iM 75)]) (iS [iA 77 (iQ .eql 3 16 6),iA 76 (iM 77)] (iD 76 (.reg [iA 79 (iT 4 2),iA 80 (iF 1 3),iA 81 (iL 80),iA 82 (.call 111 [.t 79,.t 81]),iA 78 (iM 82),iA 83 (iE 78 0),iA 84 (iE 78 1),iC (.st 4 [none,none,some (1,102),some (8,108)] (.t 7) (.t 83)),iA 6 (iM 84)]) (iS [iA 86 (iQ .eql 3 16 7),iA 85 (iM 86)] (iD 85 (.reg [iA 88 (iT 4 2),iA 89 (iF 1 3),iA 90 (iL 89),iA 91 (.call 112 [.t 88,.t 90]),iA 87 (iM 91),iA 92 (iE 87 0),iA 93 (iE 87 1),iC (.st 4 [none,none,some (1,102),some (8,108)] (.t 7) (.t 92)),iA 6 (iM 93)]) (iS [iA 17 (iT 4 2),iA 18 (.call 113 [.t 17]),iC (.st 4 [none,none,some (1,102),some (8,108)] (.t 7) (.t 18))] (iS [iA 19 (iT 4 2),iA 20 (.call 72 [.t 19]),iA 21 (iU 20)] (iD 21 (.reg [iA 6 (iN 8)]) .skip))))))))))))))))))) (iS [iA 94 (iT 4 7),iA 95 (iM 6),iA 96 (.bld [.int .i64 0,.int .i64 0,.int .i64 0,.int .i64 0] [(0,1,.t 95)]),iC (.st 4 [none,none,some (1,102),some (8,108)] (.t 4) (.t 94)),iC (.st 4 [none,none,none,none] (.t 5) (.t 96))] .ret)))))
theorem jm5:fnC Tryz.prog Tryz.f30=some (jng,[.cell 4 true 4,.cell 5 true 4],97):=by kernel_rfl
theorem jsX (y:Yd) (d:Dd) (ht:jt y≤1900000) (hd:vQ d≤2000000):ka Tryz.prog 33 [.agg (jb y),.agg (jg d)] (.tup [(true,jb (doY y d)),(true,qP (doQ y d))]):=by
 refine jr Tryz.func33 jm6 (by simp) ?_
 unfold jni;have ht2:jt y≤2000000:=by omega
 have ht3:jt y≤1990000:=by omega
 have hpl:d.plan.edges.length≤4000000:=by simp only [vQ,zR] at hd;omega
 simp only [go_sem,jb,jg,ja];intro b2 b3 b4 b5;refine jc (jle d hd) (by simp only [go_sem,jb,jg,ja,List.cons_append,List.nil_append]) fun η=>?_
 simp only [go_sem,jb,jg,ja,List.cons_append,List.nil_append];cases hk:kp d
 ·have hy:doY y d=y:=by rw [doY,if_pos hk]
  have hq:doQ y d=⟨5,0,0,0⟩:=by rw [doQ,if_pos hk]
  rw [hy,hq];simp only [go_sem,Bool.not_false,jb,jg,ja];refine jc (jW y ht2) (by simp only [go_sem,jb,jg,ja]) fun η=>?_
  simp only [go_sem,jb,jg,ja];simp only [vd];refine js _ _ _ _ _ ?_;simp only [go_sem,jA,true_or];refine js _ _ _ _ _ ?_;simp only [go_sem,jA,jR,jL,true_or,jb]
 have hk0:¬kp d=false:=by rw [hk];decide
 simp only [go_sem,Bool.not_true,jb,jg,ja];intro b6 b7;by_cases h1:d.kind=1
 ·have hy:doY y d=jej y d.run d.plan:=by rw [doY,if_neg hk0,if_pos h1]
  have hq:doQ y d=⟨jdd y d.run d.plan,0,0,0⟩:=by rw [doQ,if_neg hk0,if_pos h1]
  have e1:(d.kind==1)=true:=by simp [h1]
  rw [hy,hq];simp only [go_sem,jb,jg,ja,e1];refine jc (jk8 y d.run d.plan ht2 hpl) (by simp only [go_sem,jb,jg,ja,e1]) fun η=>?_
  simp only [go_sem,jb,jg,ja,e1];simp only [vd];refine js _ _ _ _ _ ?_;simp only [go_sem,jA,true_or];refine js _ _ _ _ _ ?_;simp only [go_sem,jA,jR,jL,true_or,jb]
 have e1:(d.kind==1)=false:=by simp [h1]
 by_cases h2:d.kind=2
 ·have hy:doY y d=zV y d.worker d.draw:=by rw [doY,if_neg hk0,if_neg h1,if_pos h2]
  have hq:doQ y d=jnR y d.worker d.draw:=by rw [doQ,if_neg hk0,if_neg h1,if_pos h2]
  have e2:(d.kind==2)=true:=by simp [h2]
  rw [hy,hq];simp only [go_sem,jb,jg,ja,e1,e2];refine jc (jnY y d.worker d.draw ht2) (by simp only [go_sem,jb,jg,ja,e1,e2,qP]) fun η=>?_
  simp only [go_sem,jb,jg,ja,e1,e2,qP];simp only [vd];refine js _ _ _ _ _ ?_;simp only [go_sem,jA,true_or];refine js _ _ _ _ _ ?_;simp only [go_sem,jA,jR,jL,true_or,jb]
 have e2:(d.kind==2)=false:=by simp [h2]
 by_cases h3:d.kind=3
 ·have hy:doY y d=jc0 y d.run d.task d.tri:=by rw [doY,if_neg hk0,if_neg h1,if_neg h2,if_pos h3]
  have hq:doQ y d=⟨jaJ y d.run d.task d.tri,0,0,0⟩:=by rw [doQ,if_neg hk0,if_neg h1,if_neg h2,if_pos h3]
  have e3:(d.kind==3)=true:=by simp [h3]
  rw [hy,hq];simp only [go_sem,jb,jg,ja,e1,e2,e3];refine jc (jiq y d.run d.task d.tri ht2) (by simp only [go_sem,jb,jg,ja,e1,e2,e3]) fun η=>?_
  simp only [go_sem,jb,jg,ja,e1,e2,e3];simp only [vd];refine js _ _ _ _ _ ?_;simp only [go_sem,jA,true_or];refine js _ _ _ _ _ ?_;simp only [go_sem,jA,jR,jL,true_or,jb]
 have e3:(d.kind==3)=false:=by simp [h3]
 by_cases h4:d.kind=4
 ·have hy:doY y d=jcZ y d.run d.task d.tri:=by rw [doY,if_neg hk0,if_neg h1,if_neg h2,if_neg h3,if_pos h4]
  have hq:doQ y d=⟨jaJ y d.run d.task d.tri,0,0,0⟩:=by rw [doQ,if_neg hk0,if_neg h1,if_neg h2,if_neg h3,if_pos h4]
  have e4:(d.kind==4)=true:=by simp [h4]
  rw [hy,hq];simp only [go_sem,jb,jg,ja,e1,e2,e3,e4];refine jc (jnZ y d.run d.task d.tri ht2) (by simp only [go_sem,jb,jg,ja,e1,e2,e3,e4]) fun η=>?_
  simp only [go_sem,jb,jg,ja,e1,e2,e3,e4];simp only [vd];refine js _ _ _ _ _ ?_;simp only [go_sem,jA,true_or];refine js _ _ _ _ _ ?_;simp only [go_sem,jA,jR,jL,true_or,jb]
 have e4:(d.kind==4)=false:=by simp [h4]
 by_cases h5:d.kind=5
 ·have hy:doY y d=jbN y:=by rw [doY,if_neg hk0,if_neg h1,if_neg h2,if_neg h3,if_neg h4,if_pos h5]
  have hq:doQ y d=⟨jaS y,0,0,0⟩:=by rw [doQ,if_neg hk0,if_neg h1,if_neg h2,if_neg h3,if_neg h4,if_pos h5]
  have e5:(d.kind==5)=true:=by simp [h5]
  rw [hy,hq];simp only [go_sem,jb,jg,ja,e1,e2,e3,e4,e5];refine jc (jnX y ht3) (by simp only [go_sem,jb,jg,ja,e1,e2,e3,e4,e5]) fun η=>?_
  simp only [go_sem,jb,jg,ja,e1,e2,e3,e4,e5];simp only [vd];refine js _ _ _ _ _ ?_;simp only [go_sem,jA,true_or];refine js _ _ _ _ _ ?_;simp only [go_sem,jA,jR,jL,true_or,jb]
 have e5:(d.kind==5)=false:=by simp [h5]
 by_cases h6:d.kind=6
 ·have hy:doY y d=kU y d.run:=by rw [doY,if_neg hk0,if_neg h1,if_neg h2,if_neg h3,if_neg h4,if_neg h5,if_pos h6]
  have hq:doQ y d=⟨kV y d.run,0,0,0⟩:=by rw [doQ,if_neg hk0,if_neg h1,if_neg h2,if_neg h3,if_neg h4,if_neg h5,if_pos h6]
  have e6:(d.kind==6)=true:=by simp [h6]
  rw [hy,hq];simp only [go_sem,jb,jg,ja,e1,e2,e3,e4,e5,e6];refine jc (jlf y d.run ht2) (by simp only [go_sem,jb,jg,ja,e1,e2,e3,e4,e5,e6]) fun η=>?_
  simp only [go_sem,jb,jg,ja,e1,e2,e3,e4,e5,e6];simp only [vd];refine js _ _ _ _ _ ?_;simp only [go_sem,jA,true_or];refine js _ _ _ _ _ ?_;simp only [go_sem,jA,jR,jL,true_or,jb]
 have e6:(d.kind==6)=false:=by simp [h6]
 by_cases h7:d.kind=7
 ·have hy:doY y d=jaw y d.run:=by rw [doY,if_neg hk0,if_neg h1,if_neg h2,if_neg h3,if_neg h4,if_neg h5,if_neg h6,if_pos h7]
  have hq:doQ y d=⟨jal y d.run,0,0,0⟩:=by rw [doQ,if_neg hk0,if_neg h1,if_neg h2,if_neg h3,if_neg h4,if_neg h5,if_neg h6,if_pos h7]
  have e7:(d.kind==7)=true:=by simp [h7]
  rw [hy,hq];simp only [go_sem,jb,jg,ja,e1,e2,e3,e4,e5,e6,e7];refine jc (jld y d.run ht2) (by simp only [go_sem,jb,jg,ja,e1,e2,e3,e4,e5,e6,e7]) fun η=>?_
  simp only [go_sem,jb,jg,ja,e1,e2,e3,e4,e5,e6,e7];simp only [vd];refine js _ _ _ _ _ ?_;simp only [go_sem,jA,true_or];refine js _ _ _ _ _ ?_;simp only [go_sem,jA,jR,jL,true_or,jb]
 have e7:(d.kind==7)=false:=by simp [h7]
 have hy:doY y d=jcV y:=by rw [doY,if_neg hk0,if_neg h1,if_neg h2,if_neg h3,if_neg h4,if_neg h5,if_neg h6,if_neg h7]
 rw [hy];simp only [go_sem,jb,jg,ja,e1,e2,e3,e4,e5,e6,e7];refine jc (jjA y ht3) (by simp only [go_sem,jb,jg,ja,e1,e2,e3,e4,e5,e6,e7]) fun η=>?_
 simp only [go_sem,jb,jg,ja,e1,e2,e3,e4,e5,e6,e7];refine jc (ql y ht2) (by simp only [go_sem,jb,jg,ja,e1,e2,e3,e4,e5,e6,e7]) fun η=>?_
 simp only [go_sem,jb,jg,ja,e1,e2,e3,e4,e5,e6,e7];cases hok:jD y
 ·have hq:doQ y d=⟨8,0,0,0⟩:=by rw [doQ,if_neg hk0,if_neg h1,if_neg h2,if_neg h3,if_neg h4,if_neg h5,if_neg h6,if_neg h7,if_neg (by rw [hok];decide)]
  rw [hq];simp only [go_sem,Bool.not_false,jb];simp only [vd];refine js _ _ _ _ _ ?_;simp only [go_sem,jA,true_or];refine js _ _ _ _ _ ?_;simp only [go_sem,jA,jR,jL,true_or,jb]
 ·have hq:doQ y d=⟨0,0,0,0⟩:=by rw [doQ,if_neg hk0,if_neg h1,if_neg h2,if_neg h3,if_neg h4,if_neg h5,if_neg h6,if_neg h7,if_pos hok]
  rw [hq];simp only [go_sem,Bool.not_true,jb];simp only [vd];refine js _ _ _ _ _ ?_;simp only [go_sem,jA,true_or];refine js _ _ _ _ _ ?_;simp only [go_sem,jA,jR,jL,true_or,jb]
theorem jsV (y:Yd) (d:Dd) (ht:jt y≤1900000) (hd:vQ d≤2000000):ka Tryz.prog 30 [.agg (jb y),.agg (jg d)] (.tup [(true,jb (doY y d)),(true,qP (doQ y d))]):=by
 refine jr Tryz.func30 jm5 (by simp) ?_
 unfold jng;have ht2:jt y≤2000000:=by omega
 have ht3:jt y≤1990000:=by omega
 have hpl:d.plan.edges.length≤4000000:=by simp only [vQ,zR] at hd;omega
 simp only [go_sem,jb,jg,ja];intro b2 b3 b4 b5 b7;refine jc (jk3 d hd) (by simp only [go_sem,jb,jg,ja,List.cons_append,List.nil_append]) fun η=>?_
 simp only [go_sem,jb,jg,ja,List.cons_append,List.nil_append];cases hk:kp d
 ·have hy:doY y d=y:=by rw [doY,if_pos hk]
  have hq:doQ y d=⟨5,0,0,0⟩:=by rw [doQ,if_pos hk]
  rw [hy,hq];simp only [go_sem,Bool.not_false,jb,jg,ja];refine jc (kg y ht2) (by simp only [go_sem,jb,jg,ja]) fun η=>?_
  simp only [go_sem,jb,jg,ja];simp only [vd];refine js _ _ _ _ _ ?_;simp only [go_sem,jA,true_or];refine js _ _ _ _ _ ?_;simp only [go_sem,jA,jR,jL,true_or,jb]
 have hk0:¬kp d=false:=by rw [hk];decide
 simp only [go_sem,Bool.not_true,jb,jg,ja];by_cases h1:d.kind=1
 ·have hy:doY y d=jej y d.run d.plan:=by rw [doY,if_neg hk0,if_pos h1]
  have hq:doQ y d=⟨jdd y d.run d.plan,0,0,0⟩:=by rw [doQ,if_neg hk0,if_pos h1]
  have e1:(d.kind==1)=true:=by simp [h1]
  rw [hy,hq];simp only [go_sem,jb,jg,ja,e1];refine jc (jkX y d.run d.plan ht2 hpl) (by simp only [go_sem,jb,jg,ja,e1]) fun η=>?_
  simp only [go_sem,jb,jg,ja,e1];simp only [vd];refine js _ _ _ _ _ ?_;simp only [go_sem,jA,true_or];refine js _ _ _ _ _ ?_;simp only [go_sem,jA,jR,jL,true_or,jb]
 have e1:(d.kind==1)=false:=by simp [h1]
 by_cases h2:d.kind=2
 ·have hy:doY y d=zV y d.worker d.draw:=by rw [doY,if_neg hk0,if_neg h1,if_pos h2]
  have hq:doQ y d=jnR y d.worker d.draw:=by rw [doQ,if_neg hk0,if_neg h1,if_pos h2]
  have e2:(d.kind==2)=true:=by simp [h2]
  rw [hy,hq];simp only [go_sem,jb,jg,ja,e1,e2];refine jc (jnV y d.worker d.draw ht2) (by simp only [go_sem,jb,jg,ja,e1,e2,qP]) fun η=>?_
  simp only [go_sem,jb,jg,ja,e1,e2,qP];simp only [vd];refine js _ _ _ _ _ ?_;simp only [go_sem,jA,true_or];refine js _ _ _ _ _ ?_;simp only [go_sem,jA,jR,jL,true_or,jb]
 have e2:(d.kind==2)=false:=by simp [h2]
 by_cases h3:d.kind=3
 ·have hy:doY y d=jc0 y d.run d.task d.tri:=by rw [doY,if_neg hk0,if_neg h1,if_neg h2,if_pos h3]
  have hq:doQ y d=⟨jaJ y d.run d.task d.tri,0,0,0⟩:=by rw [doQ,if_neg hk0,if_neg h1,if_neg h2,if_pos h3]
  have e3:(d.kind==3)=true:=by simp [h3]
  rw [hy,hq];simp only [go_sem,jb,jg,ja,e1,e2,e3];refine jc (jio y d.run d.task d.tri ht2) (by simp only [go_sem,jb,jg,ja,e1,e2,e3]) fun η=>?_
  simp only [go_sem,jb,jg,ja,e1,e2,e3];simp only [vd];refine js _ _ _ _ _ ?_;simp only [go_sem,jA,true_or];refine js _ _ _ _ _ ?_;simp only [go_sem,jA,jR,jL,true_or,jb]
 have e3:(d.kind==3)=false:=by simp [h3]
 by_cases h4:d.kind=4
 ·have hy:doY y d=jcZ y d.run d.task d.tri:=by rw [doY,if_neg hk0,if_neg h1,if_neg h2,if_neg h3,if_pos h4]
  have hq:doQ y d=⟨jaJ y d.run d.task d.tri,0,0,0⟩:=by rw [doQ,if_neg hk0,if_neg h1,if_neg h2,if_neg h3,if_pos h4]
  have e4:(d.kind==4)=true:=by simp [h4]
  rw [hy,hq];simp only [go_sem,jb,jg,ja,e1,e2,e3,e4];refine jc (jnW y d.run d.task d.tri ht2) (by simp only [go_sem,jb,jg,ja,e1,e2,e3,e4]) fun η=>?_
  simp only [go_sem,jb,jg,ja,e1,e2,e3,e4];simp only [vd];refine js _ _ _ _ _ ?_;simp only [go_sem,jA,true_or];refine js _ _ _ _ _ ?_;simp only [go_sem,jA,jR,jL,true_or,jb]
 have e4:(d.kind==4)=false:=by simp [h4]
 by_cases h5:d.kind=5
 ·have hy:doY y d=jbN y:=by rw [doY,if_neg hk0,if_neg h1,if_neg h2,if_neg h3,if_neg h4,if_pos h5]
  have hq:doQ y d=⟨jaS y,0,0,0⟩:=by rw [doQ,if_neg hk0,if_neg h1,if_neg h2,if_neg h3,if_neg h4,if_pos h5]
  have e5:(d.kind==5)=true:=by simp [h5]
  rw [hy,hq];simp only [go_sem,jb,jg,ja,e1,e2,e3,e4,e5];refine jc (jnU y ht3) (by simp only [go_sem,jb,jg,ja,e1,e2,e3,e4,e5]) fun η=>?_
  simp only [go_sem,jb,jg,ja,e1,e2,e3,e4,e5];simp only [vd];refine js _ _ _ _ _ ?_;simp only [go_sem,jA,true_or];refine js _ _ _ _ _ ?_;simp only [go_sem,jA,jR,jL,true_or,jb]
 have e5:(d.kind==5)=false:=by simp [h5]
 by_cases h6:d.kind=6
 ·have hy:doY y d=kU y d.run:=by rw [doY,if_neg hk0,if_neg h1,if_neg h2,if_neg h3,if_neg h4,if_neg h5,if_pos h6]
  have hq:doQ y d=⟨kV y d.run,0,0,0⟩:=by rw [doQ,if_neg hk0,if_neg h1,if_neg h2,if_neg h3,if_neg h4,if_neg h5,if_pos h6]
  have e6:(d.kind==6)=true:=by simp [h6]
  rw [hy,hq];simp only [go_sem,jb,jg,ja,e1,e2,e3,e4,e5,e6];refine jc (jk4 y d.run ht2) (by simp only [go_sem,jb,jg,ja,e1,e2,e3,e4,e5,e6]) fun η=>?_
  simp only [go_sem,jb,jg,ja,e1,e2,e3,e4,e5,e6];simp only [vd];refine js _ _ _ _ _ ?_;simp only [go_sem,jA,true_or];refine js _ _ _ _ _ ?_;simp only [go_sem,jA,jR,jL,true_or,jb]
 have e6:(d.kind==6)=false:=by simp [h6]
 by_cases h7:d.kind=7
 ·have hy:doY y d=jaw y d.run:=by rw [doY,if_neg hk0,if_neg h1,if_neg h2,if_neg h3,if_neg h4,if_neg h5,if_neg h6,if_pos h7]
  have hq:doQ y d=⟨jal y d.run,0,0,0⟩:=by rw [doQ,if_neg hk0,if_neg h1,if_neg h2,if_neg h3,if_neg h4,if_neg h5,if_neg h6,if_pos h7]
  have e7:(d.kind==7)=true:=by simp [h7]
  rw [hy,hq];simp only [go_sem,jb,jg,ja,e1,e2,e3,e4,e5,e6,e7];refine jc (jk2 y d.run ht2) (by simp only [go_sem,jb,jg,ja,e1,e2,e3,e4,e5,e6,e7]) fun η=>?_
  simp only [go_sem,jb,jg,ja,e1,e2,e3,e4,e5,e6,e7];simp only [vd];refine js _ _ _ _ _ ?_;simp only [go_sem,jA,true_or];refine js _ _ _ _ _ ?_;simp only [go_sem,jA,jR,jL,true_or,jb]
 have e7:(d.kind==7)=false:=by simp [h7]
 have hy:doY y d=jcV y:=by rw [doY,if_neg hk0,if_neg h1,if_neg h2,if_neg h3,if_neg h4,if_neg h5,if_neg h6,if_neg h7]
 rw [hy];simp only [go_sem,jb,jg,ja,e1,e2,e3,e4,e5,e6,e7];refine jc (jjt y ht3) (by simp only [go_sem,jb,jg,ja,e1,e2,e3,e4,e5,e6,e7]) fun η=>?_
 simp only [go_sem,jb,jg,ja,e1,e2,e3,e4,e5,e6,e7];refine jc (qi y ht2) (by simp only [go_sem,jb,jg,ja,e1,e2,e3,e4,e5,e6,e7]) fun η=>?_
 simp only [go_sem,jb,jg,ja,e1,e2,e3,e4,e5,e6,e7];cases hok:jD y
 ·have hq:doQ y d=⟨8,0,0,0⟩:=by rw [doQ,if_neg hk0,if_neg h1,if_neg h2,if_neg h3,if_neg h4,if_neg h5,if_neg h6,if_neg h7,if_neg (by rw [hok];decide)]
  rw [hq];simp only [go_sem,Bool.not_false,jb];simp only [vd];refine js _ _ _ _ _ ?_;simp only [go_sem,jA,true_or];refine js _ _ _ _ _ ?_;simp only [go_sem,jA,jR,jL,true_or,jb]
 ·have hq:doQ y d=⟨0,0,0,0⟩:=by rw [doQ,if_neg hk0,if_neg h1,if_neg h2,if_neg h3,if_neg h4,if_neg h5,if_neg h6,if_neg h7,if_pos hok]
  rw [hq];simp only [go_sem,Bool.not_true,jb];simp only [vd];refine js _ _ _ _ _ ?_;simp only [go_sem,jA,true_or];refine js _ _ _ _ _ ?_;simp only [go_sem,jA,jR,jL,true_or,jb]
end Go.Proofs.YtmnpailnelmpiaaGreat
