/- Parts. -/
import Derived.Test.YtmnpailnelmpiaaGreatQForg
import Derived.Test.YtmnpailnelmpiaaGreatQLateOf
import Derived.Test.YtmnpailnelmpiaaGreatQPoll
set_option linter.unusedSimpArgs false
set_option linter.unusedVariables false
set_option maxHeartbeats 8000000
set_option maxRecDepth 100000
namespace Go.Proofs.YtmnpailnelmpiaaGreat
open Go.RowKit Go.Sort
def jd4:C:=iS [iA 1 (.box 108 8 (.t 0)),iA 2 (.alloc 108 [.int .i64 0,.int .i64 0,.int .i64 0,.int .i64 0,.int .i64 0,.slice none 0 0,.int .i64 0,.slice none 0 0])] (iS [iA 4 (iT 8 1),iA 5 (.call 185 [.t 4]),iA 3 (.alloc 108 [.int .i64 0,.int .i64 0,.int .i64 0,.int .i64 0,.int .i64 0,.slice none 0 0,.int .i64 0,.slice none 0 0]),iC (.st 8 [none,none,none,none,none,some (2,253),none,some (4,172)] (.t 3) (.t 5))] (.seq (iS [iA 6 (iT 8 1),iA 7 (.call 151 [.t 6]),iA 8 (iU 7),iA 9 (iM 8),iB 10 9 false (iF 6 1),iB 11 9 false (iL 10),iB 12 9 false (iQ .neq 3 11 1),iA 13 (.pick (.t 9) (.c (.bool true)) (.t 12))] (iD 13 (iS [iA 14 (iT 8 3),iC (.st 8 [none,none,none,none,none,some (2,253),none,some (4,172)] (.t 2) (.t 14))] .ret) .skip)) (iS [iA 15 (iT 8 3),iA 16 (.call 265 [.t 15,.c (.int .i64 4)]),iC (.st 8 [none,none,none,none,none,some (2,253),none,some (4,172)] (.t 2) (.t 16))] .ret)))
theorem jgK:fnC Tryz.prog Tryz.f201=some (jd4,[.cell 2 true 8],17):=by kernel_rfl
def jeg:C:=iS [iA 1 (.box 108 8 (.t 0)),iA 2 (.alloc 108 [.int .i64 0,.int .i64 0,.int .i64 0,.int .i64 0,.int .i64 0,.slice none 0 0,.int .i64 0,.slice none 0 0])] (iS [iA 4 (iT 8 1),iA 5 (.call 209 [.t 4]),iA 3 (.alloc 108 [.int .i64 0,.int .i64 0,.int .i64 0,.int .i64 0,.int .i64 0,.slice none 0 0,.int .i64 0,.slice none 0 0]),iC (.st 8 [none,none,none,none,none,some (2,253),none,some (4,172)] (.t 3) (.t 5))] (.seq (iS [iA 6 (iT 8 1),iA 7 (.call 138 [.t 6]),iA 8 (iM 7),iB 9 8 true (iF 6 1),iB 10 8 true (iL 9),iB 11 8 true (iQ .eql 3 10 1),iA 12 (.pick (.t 8) (.t 11) (.c (.bool false)))] (iD 12 (iS [iA 13 (.call 236 [.t 3,.c (.int .i64 (-1))])] (.reg [iA 14 (iF 6 3),iC (.st 1 [none] (.t 14) (.c (.int .i64 4)))])) .skip)) (iS [iA 15 (iT 8 3),iC (.st 8 [none,none,none,none,none,some (2,253),none,some (4,172)] (.t 2) (.t 15))] .ret)))
theorem jgW:fnC Tryz.prog Tryz.f145=some (jeg,[.cell 2 true 8],16):=by kernel_rfl
def jfN:C:=iS [iA 2 (.box 37 4 (.t 0)),iA 4 (.alloc 37 [.int .i64 0,.int .i64 0,.slice none 0 0,.slice none 0 0]),iA 5 (iN 0)] (iS [iA 8 (iT 4 2),iA 9 (.call 105 [.t 8]),iA 6 (.alloc 37 [.int .i64 0,.int .i64 0,.slice none 0 0,.slice none 0 0]),iC (.st 4 [none,none,some (1,102),some (8,108)] (.t 6) (.t 9))] (iS [iA 10 (iT 4 2),iA 11 (iM 1),iA 12 (.call 152 [.t 10,.t 11]),iA 7 (iM 12)] (.seq (.blk 0 (iS [iA 14 (iT 4 2),iA 15 (.call 72 [.t 14]),iA 16 (iU 15),iA 13 (iM 16)] (iD 13 (iS [iA 17 (iT 4 6),iC (.st 4 [none,none,some (1,102),some (8,108)] (.t 4) (.t 17)),iA 5 (iN 8)] .ret) (iS [iA 19 (iM 7),iA 20 (iQ .lss 3 19 0),iA 18 (iM 20)] (iD 18 (iS [iA 21 (iT 4 6),iC (.st 4 [none,none,some (1,102),some (8,108)] (.t 4) (.t 21)),iA 5 (iN 10)] .ret) (iS [iA 23 (iF 3 2),iA 24 (iL 23),iA 25 (iM 7),iA 26 (iI 8 24 25),iA 27 (iF 6 26),iA 28 (iL 27),iA 29 (iQ .neq 3 28 1),iA 22 (iM 29)] (iD 22 (iS [iA 30 (iT 4 6),iC (.st 4 [none,none,some (1,102),some (8,108)] (.t 4) (.t 30)),iA 5 (iN 12)] .ret) .skip))))))) (.seq (.dreg (T.pure 0 (iA 31 (iF 3 6)) (T.pure 1 (iA 32 (iL 31)) (T.pure 2 (iA 33 (iM 7)) (T.pure 3 (iA 34 (iF 3 6)) (T.pure 4 (iA 35 (iL 34)) (T.pure 5 (iA 36 (iM 7)) (T.pure 6 (iA 37 (iI 8 35 36)) (T.pure 7 (iA 38 (iT 8 37)) (T.alt (iA 39 (.call 201 [.t 38])) [2,1,0] (T.pure 9 (iA 40 (iI 8 32 33)) (T.alt (iC (.st 8 [none,none,none,none,none,some (2,253),none,some (4,172)] (.t 40) (.t 39))) [] T.done T.stop)) T.stop)))))))))) (iS [iA 41 (iT 4 6),iC (.st 4 [none,none,some (1,102),some (8,108)] (.t 4) (.t 41)),iA 5 (iN 0)] .ret)))))
theorem jhQ:fnC Tryz.prog Tryz.f111=some (jfN,[.cell 4 true 4,.t 5],42):=by kernel_rfl
def jf2:C:=iS [iA 2 (.box 37 4 (.t 0)),iA 4 (.alloc 37 [.int .i64 0,.int .i64 0,.slice none 0 0,.slice none 0 0]),iA 5 (iN 0)] (iS [iA 8 (iT 4 2),iA 9 (.call 118 [.t 8]),iA 6 (.alloc 37 [.int .i64 0,.int .i64 0,.slice none 0 0,.slice none 0 0]),iC (.st 4 [none,none,some (1,102),some (8,108)] (.t 6) (.t 9))] (iS [iA 10 (iT 4 2),iA 11 (iM 1),iA 12 (.call 56 [.t 10,.t 11]),iA 7 (iM 12)] (.seq (.blk 0 (iS [iA 14 (iT 4 2),iA 15 (.call 59 [.t 14]),iA 16 (iU 15),iA 13 (iM 16)] (iD 13 (iS [iA 17 (iT 4 6),iC (.st 4 [none,none,some (1,102),some (8,108)] (.t 4) (.t 17)),iA 5 (iN 8)] .ret) (iS [iA 19 (iM 7),iA 20 (iQ .lss 3 19 0),iA 18 (iM 20)] (iD 18 (iS [iA 21 (iT 4 6),iC (.st 4 [none,none,some (1,102),some (8,108)] (.t 4) (.t 21)),iA 5 (iN 10)] .ret) (iS [iA 23 (iF 3 2),iA 24 (iL 23),iA 25 (iM 7),iA 26 (iI 8 24 25),iA 27 (iF 6 26),iA 28 (iL 27),iA 29 (iQ .neq 3 28 1),iA 22 (iM 29)] (iD 22 (iS [iA 30 (iT 4 6),iC (.st 4 [none,none,some (1,102),some (8,108)] (.t 4) (.t 30)),iA 5 (iN 12)] .ret) .skip))))))) (.seq (.dreg (T.pure 0 (iA 31 (iF 3 6)) (T.pure 1 (iA 32 (iL 31)) (T.pure 2 (iA 33 (iM 7)) (T.pure 3 (iA 34 (iF 3 2)) (T.pure 4 (iA 35 (iL 34)) (T.pure 5 (iA 36 (iM 7)) (T.pure 6 (iA 37 (iI 8 35 36)) (T.pure 7 (iA 38 (iT 8 37)) (T.alt (iA 39 (.call 145 [.t 38])) [2,1,0] (T.pure 9 (iA 40 (iI 8 32 33)) (T.alt (iC (.st 8 [none,none,none,none,none,some (2,253),none,some (4,172)] (.t 40) (.t 39))) [] T.done T.stop)) T.stop)))))))))) (iS [iA 41 (iT 4 6),iC (.st 4 [none,none,some (1,102),some (8,108)] (.t 4) (.t 41)),iA 5 (iN 0)] .ret)))))
theorem jh6:fnC Tryz.prog Tryz.f67=some (jf2,[.cell 4 true 4,.t 5],42):=by kernel_rfl
theorem jjT (r:Rn) (hsz:r.plan.edges.length≤4000000) (ht:r.tasks.length≤4000000):kp Tryz.prog 201 [.agg (jd r)] (.agg (jd (jau r))):=by
 refine js Tryz.func201 jgK (by simp) ?_
 unfold jd4;simp only [go_sem,jd,ja];intro b1 b2;refine jc (vv r hsz ht) (by simp only [go_sem,jd,ja]) fun ηc=>?_
 simp only [go_sem,jd,ja];intro b3;refine jc (jcm r) (by simp only [go_sem,jd,ja]) fun η=>?_
 simp only [go_sem,jd,ja];cases h:kF r
 ·have hb:jau r=r:=jim (by simp [h])
  simp only [go_sem,jd,ja,h,hb]
 cases h1:r.state !=1;rotate_left
 ·have h1':(r.state==1)=false:=by have:=h1;simp only [bne,Bool.not_eq_true'] at this;exact this
  have hb:jau r=r:=jim (by simp [h,h1'])
  simp only [go_sem,jd,ja,h,h1,hb]
 have h1':(r.state==1)=true:=by have:=h1;simp only [bne,Bool.not_eq_false'] at this;exact this
 have hb:jau r=⟨r.id,r.plan,4,qV jA r.tasks r.tasks.length⟩:=jnm (by simp [h,h1'])
 rw [hb];simp only [go_sem,jd,ja,h,h1];generalize hts:r.tasks=ts0 at*;refine kS (ql (β:=7000000) Tryz.func265 jaK (by simp) ?_)
 unfold jam;simp only [go_sem,jd,ja];intro b72 b74;refine jp (fun i:Nat=>St.of [(1,Ni 4),(2,Bx 2 b72),(4,Bx 4 b74),(5,Ni i)] [(200,ZRn b2 tRn),(2,jap b72 tRn ⟨r.id,r.plan,r.state,qV jA ts0 i⟩ (ηc 5) (ηc 7)),(4,ZRn b74 tRn)]) (fun i=>i≤ts0.length) (fun i=>ts0.length-i) 0 (by (try dsimp only);first|omega|(simp;done)|(and_intros<;>first|omega|simp)) (jj [some 200,some 700000200,some 700000400] (by simp only [go_sem,jd,ja,jpY]<;>and_intros<;>first|rfl|assumption|trivial)) ?_
 rintro j hj;have hml:=vV (f:=jA) (ts:=ts0) (k:=j);by_cases hlt:j<ts0.length
 ·have hlt':(j:Int)<ts0.length:=by omega
  have h0j:(j:Int)≥0:=by omega
  obtain ⟨y,hy⟩:=je hlt;have hyk:=je1 (f:=jA) hy;have hset:=je0 (f:=jA) hy;generalize qV jA ts0 j=M at*;have hlm:j<M.length:=by omega
  have hw:IntKind.i64.wrap ((j:Int)+1)=((j+1:Nat):Int):=jg (by omega) (by omega)
  simp only [go_sem,jd,ja,hml,hlt',h0j,hlt,jr8 hyk,jhz hyk,jn];intro b6;cases hc4:y.state !=4
  ·have hst4:y.state=4:=by simpa using hc4
   have hg0:jA j y=y:=by simp [jA,hst4]
   have hg:jA j y=⟨y.state,y.need,y.tri,y.til⟩:=hg0;rw [hg] at hset;simp only [go_sem,jd,ja,Nat.add_zero,hml,hlt',h0j,hlt,hc4,jbu y.state y.need y.tri y.til hlm,hset,jhz hyk,hw];exact ⟨j+1,by (try dsimp only);first|omega|assumption|(and_intros<;>first|omega|assumption),(jj [some 200,some 2,some 4] (by simp only [go_sem,jd,ja]<;>and_intros<;>first|rfl|assumption|trivial)),by (try dsimp only);omega⟩
  cases hc5:y.state !=5
  ·have hst5:y.state=5:=by simpa using hc5
   have hg0:jA j y=y:=by simp [jA,hst5]
   have hg:jA j y=⟨y.state,y.need,y.tri,y.til⟩:=hg0;rw [hg] at hset;simp only [go_sem,jd,ja,Nat.add_zero,hml,hlt',h0j,hlt,hc4,hc5,jbu y.state y.need y.tri y.til hlm,hset,jhz hyk,hw];exact ⟨j+1,by (try dsimp only);first|omega|assumption|(and_intros<;>first|omega|assumption),(jj [some 200,some 2,some 4] (by simp only [go_sem,jd,ja]<;>and_intros<;>first|rfl|assumption|trivial)),by (try dsimp only);omega⟩
  ·have hg:jA j y=⟨6,y.need,y.tri,0⟩:=by
    have h1:¬y.state=4:=by simpa using hc4
    have h2:¬y.state=5:=by simpa using hc5
    simp [jA,h1,h2]
   rw [hg] at hset;simp only [go_sem,jd,ja,Nat.add_zero,hml,hlt',h0j,hlt,hc4,hc5,jbu 6 y.need y.tri 0 hlm,hset,jhz hyk,hw];exact ⟨j+1,by (try dsimp only);first|omega|assumption|(and_intros<;>first|omega|assumption),(jj [some 200,some 2,some 4] (by simp only [go_sem,jd,ja]<;>and_intros<;>first|rfl|assumption|trivial)),by (try dsimp only);omega⟩
 have hlt':¬(j:Int)<ts0.length:=by omega
 obtain rfl:j=ts0.length:=by omega
 generalize qV jA ts0 ts0.length=M at*;simp only [go_sem,jd,ja,Nat.add_zero,hml,hlt']
theorem jj0 (r:Rn) (hsz:r.plan.edges.length≤4000000) (ht:r.tasks.length≤4000000):kp Tryz.prog 145 [.agg (jd r)] (.agg (jd (jau r))):=by
 refine js Tryz.func145 jgW (by simp) ?_
 unfold jeg;simp only [go_sem,jd,ja];intro b1 b2;refine jc (jdH r hsz ht) (by simp only [go_sem,jd,ja]) fun ηc=>?_
 simp only [go_sem,jd,ja];intro b3;refine jc (jhe r hsz) (by simp only [go_sem,jd,ja]) fun η=>?_
 simp only [go_sem,jd,ja];cases h:kF r
 ·have hb:jau r=r:=jim (by simp [h])
  simp only [go_sem,jd,ja,h,hb]
 cases h1:r.state==1
 ·have hb:jau r=r:=jim (by simp [h,h1])
  simp only [go_sem,jd,ja,h,h1,hb]
 have hb:jau r=⟨r.id,r.plan,4,qV jA r.tasks r.tasks.length⟩:=jnm (by simp [h,h1])
 have h5:=jAt (runOk_iff.1 h) (by simpa using h1)
 rw [hb,←jrE h5];simp only [go_sem,jd,ja,h,h1];generalize hts:r.tasks=ts0 at*;refine kS (ql (β:=8000000) Tryz.func236 jcG (by simp) ?_)
 unfold jcT;simp only [go_sem,jd,ja,Nat.add_zero];refine jp (fun i:Nat=>St.of [(0,Bx 300 b3),(1,Ni (-1)),(10,Ni ts0.length),(11,Ni i)] [(200,ZRn b2 tRn),(300,jap b3 tRn ⟨r.id,r.plan,r.state,qV (qk (-1)) ts0 i⟩ (ηc 5) (ηc 7))]) (fun i=>i≤ts0.length) (fun i=>ts0.length-i) 0 (by (try dsimp only);first|omega|(simp;done)|(and_intros<;>first|omega|simp)) (jj [some 200,some 300] (by simp only [go_sem,jd,ja,jpY]<;>and_intros<;>first|rfl|assumption|trivial)) ?_
 rintro j hj;have hml:=vV (f:=qk (-1)) (ts:=ts0) (k:=j);by_cases hlt:j<ts0.length
 ·have hlt':(j:Int)<ts0.length:=by omega
  have h0j:(j:Int)≥0:=by omega
  obtain ⟨y,hy⟩:=je hlt;have hyk:=je1 (f:=qk (-1)) hy;have hset:=je0 (f:=qk (-1)) hy;have hsame:=jnj (f:=qk (-1)) hy;generalize qV (qk (-1)) ts0 j=M at*;have hw:IntKind.i64.wrap ((j:Int)+1)=((j+1:Nat):Int):=jg (by omega) (by omega)
  have hlm:j<M.length:=by omega
  have hne':¬(j:Int)=-1:=by omega
  have hne:((j:Int) !=-1)=true:=by simp only [bne,Bool.not_eq_true',beq_eq_false_iff_ne];exact hne'
  cases hc4:y.state !=4
  ·have hg:qk (-1) j y=y:=by have:y.state=4:=by simpa using hc4
                             simp [qk,this]
   have hq:=hsame hg;simp only [go_sem,jd,ja,Nat.add_zero,hml,hlt',h0j,hlt,hne,zP hyk,vY hyk,vn hyk,qy hyk,hc4,hw];exact ⟨j+1,by (try dsimp only);first|omega|assumption|(and_intros<;>first|omega|assumption),(jj [some 200,some 300] (by simp only [go_sem,jd,ja,hq]<;>and_intros<;>first|rfl|assumption|trivial)),by (try dsimp only);omega⟩
  ·have hg:qk (-1) j y=⟨6,y.need,y.tri,0⟩:=by
    have h1:¬y.state=4:=by simpa using hc4
    simp [qk,h1,hne']
   rw [hg] at hset;have hyk2:(M.set j ⟨6,y.need,y.tri,y.til⟩)[j]?=some ⟨6,y.need,y.tri,y.til⟩:=List.getElem?_set_self hlm;simp only [go_sem,jd,ja,Nat.add_zero,hml,hlt',h0j,hlt,hne,zP hyk,vY hyk,vn hyk,qy hyk,hc4,jaQ hyk,zu hyk,jes hyk2,ji7 hyk2,List.set_set,hset,hw];exact ⟨j+1,by (try dsimp only);first|omega|assumption|(and_intros<;>first|omega|assumption),(jj [some 200,some 300] (by simp only [go_sem,jd,ja]<;>and_intros<;>first|rfl|assumption|trivial)),by (try dsimp only);omega⟩
 have hlt':¬(j:Int)<ts0.length:=by omega
 obtain rfl:j=ts0.length:=by omega
 generalize qV (qk (-1)) ts0 ts0.length=M at*;simp only [go_sem,jd,ja,Nat.add_zero,hml,hlt']
theorem jlF (y:Yd) (id:Int) (ht:jK y≤2000000):kp Tryz.prog 111 [.agg (jb y),.c (.val (.int .i64 id))] (.tup [(true,jb (kT y id)),(false,[.val (.int .i64 (qb y id))])]):=by
 refine js Tryz.func111 jhQ (by simp) ?_
 unfold jfN;simp only [go_sem,jb];intro b2 b4;refine jc (ku y ht) (by simp only [go_sem,jb]) fun ηc=>?_
 simp only [go_sem,jb];intro b6;refine jc (qi y id) (by simp only [go_sem,jb]) fun η=>?_
 simp only [go_sem,jb];refine jc (qh y ht) (by simp only [go_sem,jb]) fun η=>?_
 simp only [go_sem,jb];cases hok:jC y
 ·have hc:qb y id=8:=by simp [qb,hok]
  have hy:kT y id=y:=by simp [kT,hc]
  simp only [go_sem,jb,hok,hc,hy];refine qg _ _ _ _ _ ?_;simp only [go_sem,jb]
 by_cases hneg:runAt y id<0
 ·have hc:qb y id=10:=by simp [qb,hok,hneg]
  have hy:kT y id=y:=by simp [kT,hc]
  simp only [go_sem,jb,hok,hneg,hc,hy];refine qg _ _ _ _ _ ?_;simp only [go_sem,jb]
 obtain ⟨k,r,hrk,hr,hid,h8⟩:=qN hneg;have hk:=(List.getElem?_eq_some_iff.1 hr).1;have h0k:(k:Int)≥0:=by omega
 have hk0:¬(k:Int)<0:=by omega
 have hget:(y.runs[(runAt y id).toNat]?).getD default=r:=by rw [hrk,Int.toNat_natCast,hr];rfl
 cases hst:r.state !=1;rotate_left
 ·have hs1:¬r.state=1:=by simpa using hst
  have hc:qb y id=12:=by unfold qb;rw [if_neg (by simp [hok]),if_neg hneg,hget,if_neg hs1]
  have hy:kT y id=y:=by simp [kT,hc]
  simp only [go_sem,jb,hok,hrk,hk0,h0k,hk,jY hr,jd,ja,hst,hc,hy];refine qg _ _ _ _ _ ?_;simp only [go_sem,jb]
 have hs1:r.state=1:=by simpa using hst
 have hc:qb y id=0:=by unfold qb;rw [if_neg (by simp [hok]),if_neg hneg,hget,if_pos hs1]
 have hy:kT y id=jg8 y k (jau r):=by rw [kT,if_pos hc,hget,hrk,Int.toNat_natCast]
 have hrb:=jcj ht (List.mem_of_getElem? hr);rw [hc,hy,jg8];simp only [go_sem,jb,hok,hrk,hk0,h0k,hk,jY hr,jg3 hr,jcv hr,jd,ja,hst];refine jc (jjT r hrb.1 hrb.2) (by simp only [go_sem,jb,jd,ja,kb hr,kn hr]) fun η=>?_
 simp only [go_sem,jb,jd,ja,kb hr,kn hr];simp only [go_sem,hk,jow (jau r) hk];refine ⟨jcv hr,fun η' hη=>qg _ _ _ _ _ ?_⟩
 simp only [go_sem,jb]
theorem jlQ (y:Yd) (id:Int) (ht:jK y≤2000000):kp Tryz.prog 67 [.agg (jb y),.c (.val (.int .i64 id))] (.tup [(true,jb (kT y id)),(false,[.val (.int .i64 (qb y id))])]):=by
 refine js Tryz.func67 jh6 (by simp) ?_
 unfold jf2;simp only [go_sem,jb];intro b2 b4;refine jc (kj y ht) (by simp only [go_sem,jb]) fun ηc=>?_
 simp only [go_sem,jb];intro b6;refine jc (kW y id) (by simp only [go_sem,jb]) fun η=>?_
 simp only [go_sem,jb];refine jc (kI y ht) (by simp only [go_sem,jb]) fun η=>?_
 simp only [go_sem,jb];cases hok:jC y
 ·have hc:qb y id=8:=by simp [qb,hok]
  have hy:kT y id=y:=by simp [kT,hc]
  simp only [go_sem,jb,hok,hc,hy];refine qg _ _ _ _ _ ?_;simp only [go_sem,jb]
 by_cases hneg:runAt y id<0
 ·have hc:qb y id=10:=by simp [qb,hok,hneg]
  have hy:kT y id=y:=by simp [kT,hc]
  simp only [go_sem,jb,hok,hneg,hc,hy];refine qg _ _ _ _ _ ?_;simp only [go_sem,jb]
 obtain ⟨k,r,hrk,hr,hid,h8⟩:=qN hneg;have hk:=(List.getElem?_eq_some_iff.1 hr).1;have h0k:(k:Int)≥0:=by omega
 have hk0:¬(k:Int)<0:=by omega
 have hget:(y.runs[(runAt y id).toNat]?).getD default=r:=by rw [hrk,Int.toNat_natCast,hr];rfl
 cases hst:r.state !=1;rotate_left
 ·have hs1:¬r.state=1:=by simpa using hst
  have hc:qb y id=12:=by unfold qb;rw [if_neg (by simp [hok]),if_neg hneg,hget,if_neg hs1]
  have hy:kT y id=y:=by simp [kT,hc]
  simp only [go_sem,jb,hok,hrk,hk0,h0k,hk,jY hr,jd,ja,hst,hc,hy];refine qg _ _ _ _ _ ?_;simp only [go_sem,jb]
 have hs1:r.state=1:=by simpa using hst
 have hc:qb y id=0:=by unfold qb;rw [if_neg (by simp [hok]),if_neg hneg,hget,if_pos hs1]
 have hy:kT y id=jg8 y k (jau r):=by rw [kT,if_pos hc,hget,hrk,Int.toNat_natCast]
 have hrb:=jcj ht (List.mem_of_getElem? hr);rw [hc,hy,jg8];simp only [go_sem,jb,hok,hrk,hk0,h0k,hk,jY hr,jg3 hr,jcv hr,jd,ja,hst];refine jc (jj0 r hrb.1 hrb.2) (by simp only [go_sem,jb,jd,ja,kb hr,kn hr]) fun η=>?_
 simp only [go_sem,jb,jd,ja,kb hr,kn hr];simp only [go_sem,hk,jow (jau r) hk];refine ⟨jcv hr,fun η' hη=>qg _ _ _ _ _ ?_⟩
 simp only [go_sem,jb]
noncomputable def jdn (y:Yd) (id task tri:Int):Yd:=if jaO y id task tri=0 then kL y (runAt y id).toNat (jE ((y.runs[(runAt y id).toNat]?).getD default) task) else y
def jjy:C:=iS [iA 4 (.box 37 4 (.t 0)),iA 8 (.alloc 37 [.int .i64 0,.int .i64 0,.slice none 0 0,.slice none 0 0]),iA 9 (iN 0)] (iS [iA 13 (iT 4 4),iA 14 (.call 105 [.t 13]),iA 10 (.alloc 37 [.int .i64 0,.int .i64 0,.slice none 0 0,.slice none 0 0]),iC (.st 4 [none,none,some (1,102),some (8,108)] (.t 10) (.t 14))] (iS [iA 15 (iT 4 4),iA 16 (iM 1),iA 17 (iM 2),iA 18 (iM 3),iA 19 (.call 196 [.t 15,.t 16,.t 17,.t 18]),iA 11 (iM 19)] (.seq (iS [iA 20 (iM 11),iA 21 (iQ .neq 3 20 0)] (iD 21 (iS [iA 22 (iT 4 10),iA 23 (iM 11),iC (.st 4 [none,none,some (1,102),some (8,108)] (.t 8) (.t 22)),iA 9 (iM 23)] .ret) .skip)) (iS [iA 24 (iT 4 4),iA 25 (iM 1),iA 26 (.call 152 [.t 24,.t 25]),iA 12 (iM 26)] (.seq (.dreg (T.pure 0 (iA 27 (iT 4 10)) (T.pure 1 (iA 28 (iM 12)) (T.pure 2 (iA 29 (iF 3 10)) (T.pure 3 (iA 30 (iL 29)) (T.pure 4 (iA 31 (iM 12)) (T.pure 5 (iA 32 (iI 8 30 31)) (T.pure 6 (iA 33 (iT 8 32)) (T.pure 7 (iA 34 (iM 2)) (T.alt (iA 35 (.call 199 [.t 33,.t 34])) [1,0] (T.alt (iA 36 (.call 197 [.t 27,.t 28,.t 35])) [] (T.alt (iC (.st 4 [none,none,some (1,102),some (8,108)] (.t 8) (.t 36))) [] (T.pure 11 (iA 9 (iN 0)) T.done) T.stop) T.stop) T.stop)))))))))) .ret)))))
theorem jkc:fnC Tryz.prog Tryz.f109=some (jjy,[.cell 8 true 4,.t 9],37):=by kernel_rfl
theorem joB (y:Yd) (id task tri:Int) (ht:jK y≤2000000):kp Tryz.prog 109 [.agg (jb y),.c (.val (.int .i64 id)),.c (.val (.int .i64 task)),.c (.val (.int .i64 tri))] (.tup [(true,jb (jdn y id task tri)),(false,[.val (.int .i64 (jaO y id task tri))])]):=by
 refine zh [[1,1,1,1,1,0]] Tryz.func109 jkc (by simp) ?_
 unfold jjy;simp only [C.ghs,C.ghAt,List.foldr];simp only [go_sem,jb];intro b4 b8;refine jc (ku y ht) (by simp only [go_sem,jb]) fun ηc=>?_
 simp only [go_sem,jb];intro b10;refine jc (jeZ y id task tri ht) (by simp only [go_sem,jb]) fun η=>?_
 simp only [go_sem,jb];cases h0:jaO y id task tri !=0;rotate_left
 ·have hy:jdn y id task tri=y:=by rw [jdn,if_neg (by simpa using h0)]
  simp only [go_sem,jb,h0,hy];refine qg _ _ _ _ _ ?_;simp only [go_sem,jb]
 have h0':jaO y id task tri=0:=by simpa using h0
 obtain ⟨hok,hneg⟩:=jn6 h0';obtain ⟨k,r,hrk,hr,hid,h8⟩:=qN hneg;have hk:=(List.getElem?_eq_some_iff.1 hr).1;have h0k:(k:Int)≥0:=by omega
 have hk0:¬(k:Int)<0:=by omega
 have hY:jdn y id task tri=kL y k (jE r task):=by rw [jdn,if_pos h0',hrk,Int.toNat_natCast,hr,Option.getD_some]
 rw [hY,h0'];simp only [go_sem,jb,h0];refine jc (qi y id) (by simp only [go_sem,jb]) fun η=>?_
 simp only [go_sem,jb];refine kX ?_;refine WkK.wk (s':=St.of [(2,Ni task),(8,Bx 92 b8),(10,Bx 90 b10),(12,Ni k)] [(92,ZYd b8 tYd),(90,kt b10 tYd y.now y.seq y.shelf (ηc 2) y.runs (ηc 3))]) (jj [some 800,some 1000] (by simp only [go_sem,jb,hrk]<;>and_intros<;>first|rfl|assumption|trivial)) ?_
 refine WkK.of ?_;have hrb:=jcj ht (List.mem_of_getElem? hr);simp only [go_sem,jb,hk0,h0k,hk,jg3 hr,jcv hr,jd,ja];refine jc (jah r task hrb.1 hrb.2) (by simp only [go_sem,jb,jd,ja,kb hr,kn hr]) fun ηr=>?_
 simp only [go_sem,jb,jd,ja,kb hr,kn hr];have hrl:(jE r task).tasks.length=r.tasks.length:=kV r task;have hr12:r.tasks.length≤12:=(hok.right r (List.mem_of_getElem? hr)).le12;generalize jE r task=r2 at*;refine jaf [some 90,some 92,some 3505,some 3507] [(90,kt b10 tYd y.now y.seq y.shelf (ηc 2) y.runs (ηc 3)),(92,ZYd b8 tYd),(97,.loose (jy r2.plan.edges) (ηr 5)),(98,.loose (jI r2.tasks) (ηr 7))] [.agg [.v (.int .i64 y.now),.v (.int .i64 y.seq),.h 90 2 [] (ηc 2 []),.h 90 3 [] (ηc 3 [])],Ni k,.agg [.v (.int .i64 r2.id),.v (.int .i64 r2.plan.prio),.v (.int .i64 r2.plan.most),.v (.int .i64 r2.plan.wait),.v (.int .i64 r2.plan.tasks),.h 97 0 [] (ηr 5 []),.v (.int .i64 r2.state),.h 98 0 [] (ηr 7 [])]] (by simp only [go_sem]<;>and_intros<;>rfl) (by simp only [go_sem]<;>and_intros<;>rfl) (je8 hr hrl hr12 hok.four (by have:=hok.seq;omega) ht rfl rfl rfl) ?_
 rintro _ o1 ⟨c,g2,g3,x2,x3,rfl,j99,j90,j91,j92,j93,j94,j95,j96⟩;have j92':o1 92=ZYd b8 tYd:=j92;generalize kL y k r2=z2 at*;simp only [go_sem,j99,j90,j92'];refine qg _ _ _ _ _ ?_;simp only [go_sem,jb,j99,j90,j92']
def jjC:C:=iS [iA 4 (.box 37 4 (.t 0)),iA 6 (.box 3 1 (.t 2)),iA 8 (.alloc 37 [.int .i64 0,.int .i64 0,.slice none 0 0,.slice none 0 0]),iA 9 (iN 0)] (iS [iA 12 (iT 4 4),iA 13 (.call 118 [.t 12]),iA 10 (.alloc 37 [.int .i64 0,.int .i64 0,.slice none 0 0,.slice none 0 0]),iC (.st 4 [none,none,some (1,102),some (8,108)] (.t 10) (.t 13))] (iS [iA 14 (iT 4 4),iA 15 (iM 1),iA 16 (iL 6),iA 17 (iM 3),iA 18 (.call 220 [.t 14,.t 15,.t 16,.t 17]),iA 11 (iM 18)] (.seq (iS [iA 19 (iM 11),iA 20 (iQ .eql 3 19 0)] (iD 20 (.reg [iA 21 (iT 4 4),iA 22 (iM 1),iA 23 (.call 56 [.t 21,.t 22]),iA 24 (.mkf 224 [.t 6]),iA 25 (.call 221 [.t 10,.t 23,.t 24])]) .skip)) (iS [iA 26 (iT 4 10),iA 27 (iM 11),iC (.st 4 [none,none,some (1,102),some (8,108)] (.t 8) (.t 26)),iA 9 (iM 27)] .ret))))
theorem jkh:fnC Tryz.prog Tryz.f122=some (jjC,[.cell 8 true 4,.t 9],28):=by kernel_rfl
def jf1:C:=.reg [iA 3 (iM 0),iA 4 (iL 1),iA 5 (.call 225 [.t 3,.t 4])]
theorem jh4:fnC Tryz.prog Tryz.f224=some (jf1,[],6):=by kernel_rfl
theorem juv {k t b6:Nat} {y:Yd} {r:Rn} (hr:y.runs[k]?=some r) (hrun:vu r t=true):juX Tryz.prog 224 [.bp 91 0 b6] (.box b6 jf5 [.a (.v (.int .i64 t))]) k y (jE r t):=by
 intro o b e2 e3 h90 h91;refine jia (β:=6000000) Tryz.func224 jh4 (by simp) ?_
 unfold jf1;simp only [go_sem,h91];refine kM (by simp only [go_sem]) (jmb hr hrun _ b e2 e3 (by simp only [go_sem];exact h90)) ?_
 rintro _ o1 ⟨rfl,j90,j91,j92,j93,j94,j95,j96,j97⟩;simp only [go_sem] at j91 j92 j93 j94 j95 j96 j97;rw [h91] at j91;exact ⟨.tup [],⟨by decide,rfl⟩,rfl,rfl,j90,j91,j92,j93,j94,j95,j96,j97⟩
theorem joE (y:Yd) (id task tri:Int) (ht:jK y≤2000000):kp Tryz.prog 122 [.agg (jb y),.c (.val (.int .i64 id)),.c (.val (.int .i64 task)),.c (.val (.int .i64 tri))] (.tup [(true,jb (jdn y id task tri)),(false,[.val (.int .i64 (jaO y id task tri))])]):=by
 refine zh [[1,1,1,0,1,0]] Tryz.func122 jkh (by simp) ?_
 unfold jjC;simp only [C.ghs,C.ghAt,List.foldr];simp only [go_sem,jb];intro b4 b6 b8;refine jc (kj y ht) (by simp only [go_sem,jb]) fun ηc=>?_
 simp only [go_sem,jb];intro b10;refine jc (jiT y id task tri ht) (by simp only [go_sem,jb]) fun η=>?_
 simp only [go_sem,jb];cases h0:jaO y id task tri==0
 ·have hy:jdn y id task tri=y:=by rw [jdn,if_neg (by simpa using h0)]
  simp only [go_sem,jb,h0,hy];refine qg _ _ _ _ _ ?_;simp only [go_sem,jb]
 have h0':jaO y id task tri=0:=by simpa using h0
 obtain ⟨hok,hneg⟩:=jn6 h0';obtain ⟨k,r,hrk,hr,hid,h8⟩:=qN hneg;obtain ⟨t,rfl,hrun⟩:=jp9 h0' hrk hr;have hY:jdn y id t tri=kL y k (jE r t):=by rw [jdn,if_pos h0',hrk,Int.toNat_natCast,hr,Option.getD_some]
 have hr12:r.tasks.length≤12:=(hok.right r (List.mem_of_getElem? hr)).le12;rw [hY,h0'];simp only [go_sem,jb,h0];refine kX ?_;generalize ηc 2=η2 at*;generalize ηc 3=η3 at*;refine WkK.wk (s':=St.of [(1,Ni id),(4,Bx 93 b4),(6,Bx 91 b6),(8,Bx 92 b8),(10,Bx 90 b10),(11,Ni 0)] [(93,Bi b4 tYd (jb y)),(91,.box b6 jf5 [.a (.v (.int .i64 t))]),(92,ZYd b8 tYd),(90,kt b10 tYd y.now y.seq y.shelf η2 y.runs η3)]) (jj [some 400,some 600,some 800,some 1000] (by simp only [go_sem,jb]<;>and_intros<;>first|rfl|assumption|trivial)) ?_
 refine WkK.of ?_;simp only [go_sem,jb];refine jc (kW y id) (by simp only [go_sem,jb]) fun η=>?_
 simp only [go_sem,jb];rw [hrk];refine kM (vs:=[Bx 90 b10,Ni k,.fn 224 [.bp 91 0 b6]]) (by simp only [go_sem]) (jdf hr (kV r t) hr12 hok.four (by have:=hok.seq;omega) ht (juv hr hrun) (e2:=η2) (e3:=η3) (by simp only [go_sem]) (by simp only [go_sem])) ?_
 rintro _ o1 ⟨rfl,⟨e2',e3',j90⟩,j91,j92,j93,j94,j95,j96⟩;simp only [go_sem] at j92;generalize kL y k (jE r t)=y2 at*;simp only [go_sem,j90,j92];refine qg _ _ _ _ _ ?_;simp only [go_sem,jb]
theorem jbp {α:Type} (f:α→Nat) (m:Nat):∀l:List α,(∀x∈l,f x≤m)→vM f l≤m*l.length
 |[],_=>by simp [vM]
 |x::l,h=>by
  have h1:=h x (by simp)
  have h2:=jbp f m l fun x hx=>h x (by simp [hx])
  simp only [vM,List.map_cons,List.sum_cons,List.length_cons,Nat.mul_succ] at h2⊢;omega
theorem YardOkP.small {y:Yd} (h:YardOkP y):jK y≤700:=by
 have h1:=jbp jbH 80 y.shelf fun l hl=>(h.shelves l hl).most
 have h2:=jbp vq 42 y.runs fun r hr=>by
  have hR:=h.right r hr;obtain ⟨n,hn,_,h12,h30,_⟩:=jck hR.plan;have:=hR.len;have h30':r.plan.edges.length≤30:=h30;simp only [vq,jjN];omega
 have h3:=h.four;have h4:=h.eight;simp only [jK,jb9,jca];omega
noncomputable def doY (y:Yd) (d:Dd):Yd:=
 if kf d=false then y else if d.kind=1 then jeK y d.run d.plan else if d.kind=2 then zV y d.worker d.draw else if d.kind=3 then jdo y d.run d.task d.tri
 else if d.kind=4 then jdn y d.run d.task d.tri else if d.kind=5 then jb1 y else if d.kind=6 then kT y d.run else if d.kind=7 then jaw y d.run else jdj y
noncomputable def doQ (y:Yd) (d:Dd):Rp:=
 if kf d=false then ⟨5,0,0,0⟩ else if d.kind=1 then ⟨jdB y d.run d.plan,0,0,0⟩ else if d.kind=2 then joy y d.worker d.draw else if d.kind=3 then ⟨jaO y d.run d.task d.tri,0,0,0⟩
 else if d.kind=4 then ⟨jaO y d.run d.task d.tri,0,0,0⟩ else if d.kind=5 then ⟨ja1 y,0,0,0⟩ else if d.kind=6 then ⟨qb y d.run,0,0,0⟩ else if d.kind=7 then ⟨jal y d.run,0,0,0⟩
 else if jC y=true then ⟨0,0,0,0⟩ else ⟨8,0,0,0⟩
theorem zk {sh:List (List En)} {n:Nat} {l:List En} (h:sh[n]?=some l) (l':List En):∃rest,sh.flatten.Perm (l++rest)∧(sh.set n l').flatten.Perm (l'++rest):=by
 have hn:=(List.getElem?_eq_some_iff.1 h).1
 have key:∀m:List En,(sh.set n m).flatten.Perm (m++((sh.take n).flatten++(sh.drop (n+1)).flatten)):=fun m=>by
  rw [List.set_eq_take_append_cons_drop,if_pos hn,List.flatten_append,List.flatten_cons];exact List.perm_append_comm_assoc _ _ _
 have e:sh.set n l=sh:=by
  obtain ⟨h1,rfl⟩:=List.getElem?_eq_some_iff.1 h;exact List.set_getElem_self h1
 exact ⟨_,by have:=key l;rwa [e] at this,key l'⟩
theorem jjJ {a b c:En} (h1:kr a b=true) (h2:kr b c=true):kr a c=true:=by
 simp only [kr,decide_eq_true_eq] at*;omega
theorem jwB {a b:En} (h:a.seq≠b.seq) (h1:kr a b=false):kr b a=true:=by
 simp only [kr,decide_eq_true_eq,decide_eq_false_iff_not] at*;omega
def SrtP (l:List En):Prop:=l.Pairwise fun a b=>kr a b=true
theorem SrtP.ahead {l:List En} (h:SrtP l) (k:Nat) (a b:En) (ha:l[k]?=some a) (hb:l[k+1]?=some b):kr a b=true:=by
 obtain ⟨h1,rfl⟩:=List.getElem?_eq_some_iff.1 ha;obtain ⟨h2,rfl⟩:=List.getElem?_eq_some_iff.1 hb;exact List.pairwise_iff_getElem.1 h k (k+1) h1 h2 (by omega)
theorem jiN (l:List En) (e:En):(jb2 l e).Perm (e::l):=by
 rw [jb2,jkP];have:=List.perm_middle (a:=e) (l₁:=l.take (jjM l e)) (l₂:=l.drop (jjM l e))
 rwa [List.take_append_drop] at this
theorem jpJ {l:List En} {e:En} (h:SrtP l) (hs:∀x∈l,x.seq≠e.seq):SrtP (jb2 l e):=by
 have hd:(∀x∈l.take (jjM l e),kr x e=true)∧∀x∈l.drop (jjM l e),kr e x=true:=by
  rcases zl (fun x=>!kr x e) l with ⟨hf,hn⟩|⟨k,x,hk,hx,hp,hn⟩
  ·have hK:jjM l e=l.length:=by rw [jjM,if_pos (by omega)]
   rw [hK,List.take_length,List.drop_length];exact ⟨fun x hx=>by have:=hn x hx;simpa using this,by simp⟩
  ·have hK:jjM l e=k:=by rw [jjM,if_neg (by omega),hk];simp
   rw [hK];refine ⟨fun z hz=>by have:=hn z hz;simpa using this,?_⟩
   have hxe:kr e x=true:=jwB (hs x (List.mem_of_getElem? hx)) (by simpa using hp)
   have hkl:=(List.getElem?_eq_some_iff.1 hx).1
   have e1:l.drop k=x::l.drop (k+1):=by
    rw [List.drop_eq_getElem_cons hkl];congr 1;exact (List.getElem?_eq_some_iff.1 hx).2
   intro z hz;have hp2:SrtP (l.drop k):=h.sublist (List.drop_sublist _ _);rw [e1] at hz hp2;rcases List.mem_cons.1 hz with rfl|hz
   ·exact hxe
   ·exact jjJ hxe ((List.pairwise_cons.1 hp2).1 z hz)
 rw [jb2,jkP];refine List.pairwise_append.2 ⟨h.sublist (List.take_sublist _ _),List.pairwise_cons.2 ⟨hd.2,h.sublist (List.drop_sublist _ _)⟩,fun a ha b hb=>?_⟩
 rcases List.mem_cons.1 hb with rfl|hb
 ·exact hd.1 a ha
 ·exact jjJ (hd.1 a ha) (hd.2 b hb)
theorem jiO:∀(b a:List En),(b.foldl jb2 a).Perm (a++b)
 |[],a=>by simp
 |e::b,a=>by
  rw [List.foldl_cons];exact (jiO b (jb2 a e)).trans (((jiN a e).append_right b).trans (by simpa using (List.perm_middle (a:=e) (l₁:=a) (l₂:=b)).symm))
theorem jpN:∀{b a:List En},SrtP a→((a++b).map (·.seq)).Nodup→SrtP (b.foldl jb2 a)
 |[],a,h,_=>h
 |e::b,a,h,hn=>by
  rw [List.foldl_cons]
  have hp:((jb2 a e++b).map (·.seq)).Nodup:=by
   refine ((List.Perm.map _ (((jiN a e).append_right b).trans ?_)).nodup_iff).2 hn;simpa using (List.perm_middle (a:=e) (l₁:=a) (l₂:=b)).symm
  refine jpN (jpJ h fun x hx hxe=>?_) hp
  rw [List.map_append,List.map_cons] at hn;exact (List.nodup_append.1 hn).2.2 _ (List.mem_map_of_mem hx) _ (by rw [hxe];simp) rfl
def jkL (prio id:Int):Int→List Int→List En
 |_,[]=>[]
 |q,t::ids=>⟨prio,q,id,t⟩::jkL prio id (q+1) ids
theorem jlT (prio id:Int):∀(ids:List Int) (q:Int),(jkL prio id q ids).length=ids.length
 |[],_=>rfl
 |_::ids,q=>by simp [jkL,jlT prio id ids]
theorem jdc {prio id:Int}:∀{ids:List Int} {q:Int} {e:En},e∈jkL prio id q ids→e.prio=prio∧e.run=id∧e.task∈ids∧q≤e.seq∧e.seq<q+ids.length
 |[],_,_,h=>by simp [jkL] at h
 |t::ids,q,e,h=>by
  rcases List.mem_cons.1 h with rfl|h
  ·refine ⟨rfl,rfl,by simp,?_,?_⟩<;>(try dsimp only)<;>(try simp only [List.length_cons])<;>omega
  ·obtain ⟨h1,h2,h3,h4,h5⟩:=jdc h
   refine ⟨h1,h2,by simp [h3],?_,?_⟩<;>(try simp only [List.length_cons])<;>omega
theorem jkK (prio id:Int):∀(ids:List Int) (q:Int),((jkL prio id q ids).map (·.seq)).Nodup
 |[],_=>by simp [jkL]
 |t::ids,q=>by
  simp only [jkL,List.map_cons];refine List.nodup_cons.2 ⟨fun h=>?_,jkK prio id ids (q+1)⟩
  obtain ⟨e,he,hq⟩:=List.mem_map.1 h;have:=(jdc he).2.2.2.1;omega
theorem jpW (prio id:Int) (t:Int):∀(ids:List Int) (q:Int),zD id t (jkL prio id q ids)=ids.count t
 |[],_=>by simp [jkL,zD]
 |u::ids,q=>by
  have ih:=jpW prio id t ids (q+1);simp only [zD] at ih;simp only [jkL,zD,List.filter_cons,beq_self_eq_true,Bool.true_and,List.count_cons];cases h:u==t<;>simp [ih]
theorem ji3 (prio id:Int):∀(ids:List Int) (l:List En) (q:Int),(vP prio id ids (l,q)).1.Perm (jkL prio id q ids++l)
 |[],l,q=>by simp [vP,jkL]
 |t::ids,l,q=>by
  have ih:=ji3 prio id ids (jb2 l ⟨prio,q,id,t⟩) (q+1);simp only [vP,List.foldl_cons,jkL] at ih⊢;refine ih.trans (((jiN l ⟨prio,q,id,t⟩).append_left _).trans ?_);exact List.perm_middle
theorem jlV (prio id:Int):∀(ids:List Int) {l:List En} {q:Int},SrtP l→(∀x∈l,x.seq<q)→SrtP (vP prio id ids (l,q)).1
 |[],_,_,h,_=>h
 |t::ids,l,q,h,hq=>by
  have:=jlV prio id ids (l:=jb2 l ⟨prio,q,id,t⟩) (q:=q+1) (jpJ h fun x hx=>by have:=hq x hx;dsimp only;omega) (fun x hx=>by
   rcases jpK hx with hx|rfl
   ·have:=hq x hx;omega
   ·dsimp only;omega)
  simpa only [vP,List.foldl_cons] using this
structure RnsI (now:Int) (rs:List Rn):Prop where
 eight:rs.length≤8
 right:∀r∈rs,RunOkP r
 ids:(rs.map (·.id)).Nodup
 til:∀r∈rs,∀(t:Nat) (x:Tk),r.tasks[t]?=some x→x.state=3→now+1≤x.til∧x.til≤now+r.plan.wait
 tri:∀r∈rs,∀x∈r.tasks,x.state=1→x.tri=0
structure EnsI (rs:List Rn) (q:Int) (L:List En):Prop where
 range:∀e∈L,1≤e.seq∧e.seq≤q-1
 apart:(L.map (·.seq)).Nodup
 own:∀e∈L,∃r∈rs,∃(t:Nat) (x:Tk),e.run=r.id∧e.task=t∧r.tasks[t]?=some x∧(x.state=2∧e.prio=r.plan.prio∨x.state=6)
 one:∀r∈rs,∀(t:Nat) (x:Tk),r.tasks[t]?=some x→x.state=2→zD r.id t L=1
def qr (rs:List Rn):Nat:=vM (fun r=>cS 2 r.tasks) rs
structure YdI (y:Yd):Prop where
 now:0≤y.now∧y.now≤999999980
 seq:1≤y.seq
 four:y.shelf.length=4
 sorted:∀l∈y.shelf,SrtP l
 rns:RnsI y.now y.runs
 ens:EnsI y.runs y.seq y.shelf.flatten
 room:vM kJ y.runs+y.shelf.flatten.length≤40+qr y.runs
theorem jus {L M:List En} (h:L.Perm M) (id t:Int):zD id t L=zD id t M:=by
 simp only [zD];exact (h.filter _).length_eq
theorem EnsI.perm {rs:List Rn} {q:Int} {L M:List En} (h:EnsI rs q L) (hp:L.Perm M):EnsI rs q M:=
 ⟨fun e he=>h.range e (hp.mem_iff.2 he),((hp.map _).nodup_iff).1 h.apart,fun e he=>h.own e (hp.mem_iff.2 he),fun r hr t x hx hs=>by rw [←jus hp];exact h.one r hr t x hx hs⟩
theorem jyU {L:List En} {e:En} {id t:Int} (he:e∈L) (h1:e.run=id) (h2:e.task=t):1≤zD id t L:=by
 have:e∈L.filter fun e=>e.run==id&&e.task==t:=List.mem_filter.2 ⟨he,by simp [h1,h2]⟩
 exact List.length_pos_of_mem this
theorem jmi {L:List En} {id t:Int} (h:∀e∈L,¬(e.run=id∧e.task=t)):zD id t L=0:=by
 have:L.filter (fun e=>e.run==id&&e.task==t)=[]:=List.filter_eq_nil_iff.2 fun e he=>by
  have:=h e he;simp;intro h1 h2;exact this ⟨h1,h2⟩
 simp [zD,this]
theorem jg0 (id t:Int) (L M:List En):zD id t (L++M)=zD id t L+zD id t M:=by simp [zD]
theorem jp8 {rs:List Rn} (h:(rs.map (·.id)).Nodup) {j k:Nat} {r r':Rn} (h1:rs[j]?=some r) (h2:rs[k]?=some r') (he:r.id=r'.id):j=k:=by
 have hj:=(List.getElem?_eq_some_iff.1 h1).1;have hk:=(List.getElem?_eq_some_iff.1 h2).1;refine Classical.byContradiction fun hne=>?_
 have e1:(rs.map (·.id))[j]?=some r.id:=by rw [List.getElem?_map,h1];rfl
 have e2:(rs.map (·.id))[k]?=some r.id:=by rw [List.getElem?_map,h2,he];rfl
 exact hne ((List.getElem?_inj (by simpa using hj) h).1 (e1.trans e2.symm))
theorem jl1 {rs:List Rn} (h:(rs.map (·.id)).Nodup) {r r':Rn} (h1:r∈rs) (h2:r'∈rs) (he:r.id=r'.id):r=r':=by
 obtain ⟨j,hj⟩:=List.getElem?_of_mem h1;obtain ⟨k,hk⟩:=List.getElem?_of_mem h2;have:=jp8 h hj hk he;subst this;rw [hj] at hk;exact Option.some.inj hk
theorem jqF {y:Yd} (h8:y.runs.length≤8) (h:(y.runs.map (·.id)).Nodup) {k:Nat} {r:Rn} (hr:y.runs[k]?=some r):runAt y r.id=k:=by
 unfold runAt;rw [if_neg (by omega)]
 refine jbs hr rfl fun j hj z hz he=>?_
 have:=jp8 h hz hr he;omega
theorem jip {y:Yd} (h8:y.runs.length≤8) (h:(y.runs.map (·.id)).Nodup) {e:En} {r:Rn} {t:Nat} {x:Tk} (hr:r∈y.runs) (h1:e.run=r.id) (h2:e.task=t) (hx:r.tasks[t]?=some x):jN y e=(x.state==2):=by
 obtain ⟨k,hk⟩:=List.getElem?_of_mem hr;have:=jqF h8 h hk;rw [←h1] at this
 have ht:jad y e.run e.task=some x:=by
  unfold jad;simp only [this,h2,Int.toNat_natCast,hk];simp [hx]
 simp [jN,ht]
theorem tinL_mem {s:Int} {ts:List Tk} {v:Int}:v∈qB s ts↔∃(t:Nat) (x:Tk),v=t∧ts[t]?=some x∧x.state=s:=by
 simp only [qB,vN,List.mem_map,List.mem_filter,List.mem_range];constructor
 ·rintro ⟨j,⟨hj,hs⟩,rfl⟩
  have hx:ts[j]?=some ts[j]:=List.getElem?_eq_getElem hj;rw [kv hx] at hs;exact ⟨j,_,rfl,hx,by simpa using hs⟩
 ·rintro ⟨t,x,rfl,hx,hs⟩
  exact ⟨t,⟨(List.getElem?_eq_some_iff.1 hx).1,by rw [kv hx,hs];simp⟩,rfl⟩
theorem jbI (p:Nat→Bool) (n:Nat):(((List.range n).filter p).map fun (j:Nat)=>(j:Int)).Nodup:=by
 have h:((List.range n).filter p).Pairwise (· ≠ ·):=List.Pairwise.filter _ (List.nodup_range (n:=n))
 exact List.pairwise_map.2 (h.imp fun hab e=>hab (by omega))
theorem jkn (s:Int) (ts:List Tk):(qB s ts).Nodup:=jbI _ _
def jdC (rs:List Rn):List (Int×Int):=rs.flatMap fun r=>(qB 2 r.tasks).map fun t=>(r.id,t)
theorem jrd (rs:List Rn):(jdC rs).length=qr rs:=by
 induction rs with
 |nil=>rfl
 |cons r rs ih=>simp only [jdC,qr,vM,List.flatMap_cons,List.length_append,List.length_map,List.map_cons,List.sum_cons,cS] at ih⊢;rw [ih]
theorem readyK_mem {rs:List Rn} {a b:Int}:(a,b)∈jdC rs↔∃r∈rs,∃(t:Nat) (x:Tk),a=r.id∧b=t∧r.tasks[t]?=some x∧x.state=2:=by
 simp only [jdC,List.mem_flatMap,List.mem_map,tinL_mem,Prod.mk.injEq];constructor
 ·rintro ⟨r,hr,v,⟨t,x,rfl,hx,hs⟩,rfl,rfl⟩;exact ⟨r,hr,t,x,rfl,rfl,hx,hs⟩
 ·rintro ⟨r,hr,t,x,rfl,rfl,hx,hs⟩;exact ⟨r,hr,_,⟨t,x,rfl,hx,hs⟩,rfl,rfl⟩
theorem jg9:∀{rs:List Rn},(rs.map (·.id)).Nodup→(jdC rs).Nodup
 |[],_=>by simp [jdC]
 |r::rs,h=>by
  obtain ⟨h1,h2⟩:=List.nodup_cons.1 h;have ih:=jg9 h2;simp only [jdC,List.flatMap_cons] at ih⊢;refine List.nodup_append.2 ⟨?_,ih,fun a ha b hb e=>?_⟩
  ·have:(qB 2 r.tasks).Pairwise (· ≠ ·):=jkn 2 r.tasks
   exact List.pairwise_map.2 (this.imp fun hab e=>hab (by simpa using e))
  ·subst e
   obtain ⟨t,_,rfl⟩:=List.mem_map.1 ha;obtain ⟨r',hr',_,_,he,_⟩:=readyK_mem.1 hb;exact h1 (List.mem_map.2 ⟨r',hr',he.symm⟩)
theorem jja {y:Yd} {q:Int} {L:List En} (h8:y.runs.length≤8) (hi:(y.runs.map (·.id)).Nodup) (h:EnsI y.runs q L):(L.filter (jN y)).length=qr y.runs:=by
 have hmem:∀a b:Int,(a,b)∈(L.filter (jN y)).map (fun e=>(e.run,e.task))↔(a,b)∈jdC y.runs:=by
  intro a b;rw [readyK_mem];constructor
  ·intro hm
   obtain ⟨e,he,hab⟩:=List.mem_map.1 hm;obtain ⟨he1,he2⟩:=List.mem_filter.1 he;simp only [Prod.mk.injEq] at hab;obtain ⟨rfl,rfl⟩:=hab;obtain ⟨r,hr,t,x,h1,h2,h3,h4⟩:=h.own e he1;rw [jip h8 hi hr h1 h2 h3] at he2;exact ⟨r,hr,t,x,h1,h2,h3,by simpa using he2⟩
  ·rintro ⟨r,hr,t,x,rfl,rfl,hx,hs⟩
   have h1:=h.one r hr t x hx hs;have:0<(L.filter fun e=>e.run==r.id&&e.task==(t:Int)).length:=by simp only [zD] at h1;omega
   obtain ⟨e,he⟩:=List.exists_mem_of_length_pos this;obtain ⟨he1,he2⟩:=List.mem_filter.1 he;simp only [Bool.and_eq_true,beq_iff_eq] at he2;refine List.mem_map.2 ⟨e,List.mem_filter.2 ⟨he1,?_⟩,by simp [he2.1,he2.2]⟩
   rw [jip h8 hi hr he2.1 he2.2 hx,hs];rfl
 have hnd:((L.filter (jN y)).map fun e=>(e.run,e.task)).Nodup:=by
  rw [List.nodup_iff_count];rintro ⟨a,b⟩;by_cases hm:(a,b)∈jdC y.runs
  ·obtain ⟨r,hr,t,x,rfl,rfl,hx,hs⟩:=readyK_mem.1 hm
   have h1:=h.one r hr t x hx hs;rw [List.count_eq_countP,List.countP_map,List.countP_filter,List.countP_eq_length_filter];refine Nat.le_trans (Nat.le_of_eq ?_) (Nat.le_of_eq h1);simp only [zD]
   congr 1
   refine List.filter_congr fun e he=>?_
   simp only [Function.comp];by_cases h2:e.run=r.id∧e.task=t
   ·have:jN y e=true:=by rw [jip h8 hi hr h2.1 h2.2 hx,hs];rfl
    simp [h2.1,h2.2,this]
   ·have e1:((e.run,e.task)==(r.id,(t:Int)))=false:=by
     simp only [beq_eq_false_iff_ne,ne_eq,Prod.mk.injEq];exact h2
    have e2:(e.run==r.id&&e.task==(t:Int))=false:=by
     simp only [Bool.and_eq_false_iff,beq_eq_false_iff_ne,ne_eq];by_cases h3:e.run=r.id
     ·exact .inr fun h4=>h2 ⟨h3,h4⟩
     ·exact .inl h3
    rw [e1,e2];rfl
  ·rw [List.count_eq_zero.2 fun hm2=>hm ((hmem a b).1 hm2)];omega
 have hp:((L.filter (jN y)).map fun e=>(e.run,e.task)).Perm (jdC y.runs):=
  (List.perm_ext_iff_of_nodup hnd (jg9 hi)).2 fun ⟨a,b⟩=>hmem a b
 have:=hp.length_eq;rw [List.length_map,jrd] at this;exact this
theorem jba {r:Rn} (h:RunOkP r):cS 2 r.tasks≤kJ r:=by
 by_cases h0:cS 2 r.tasks=0
 ·omega
 ·have hsum:=jcb h.st _ (Nat.le_refl _)
  change cS 1 _+cS 2 _+cS 3 _+cS 4 _+cS 5 _+cS 6 _=_ at hsum;have hst:=h.state;have hl:=h.live
  have h1:r.state=1:=by
   rw [hst] at hl⊢;unfold jf6 at hl⊢;rw [if_neg (by omega),if_neg (by omega),if_neg (by omega)] at hl⊢
   split at hl
   ·rename_i h;rw [if_pos h]
   ·exact absurd rfl hl
  rw [kJ,if_pos h1];omega
theorem jc6:∀{rs:List Rn},(∀r∈rs,RunOkP r)→qr rs≤vM kJ rs
 |[],_=>by simp [qr,vM]
 |r::rs,h=>by
  have h1:=jba (h r (by simp))
  have h2:=jc6 (rs:=rs) fun x hx=>h x (by simp [hx])
  simp only [qr,vM,List.map_cons,List.sum_cons] at h2⊢;omega
theorem YdI.ok {y:Yd} (h:YdI y) (hq:y.seq≤1000000000):YardOkP y:=by
 have hf:=jja h.rns.eight h.rns.ids h.ens;have hrl:=jc6 h.rns.right;have hroom:=h.room;have hlen:y.shelf.flatten.length≤40:=by omega
 refine ⟨h.now,⟨h.seq,hq⟩,h.four,h.rns.eight,fun l hl=>⟨?_,(h.sorted l hl).ahead⟩,⟨h.ens.range,h.ens.apart⟩,h.rns.right,fun k r hr=>jqF h.rns.eight h.rns.ids hr,fun r hr t x hx=>⟨fun hs=>⟨fun e he h1 h2=>?_,h.ens.one r hr t x hx hs⟩,h.rns.til r hr t x hx⟩,?_⟩
 ·have:l.length≤y.shelf.flatten.length:=(List.sublist_flatten_of_mem hl).length_le
  omega
 ·obtain ⟨r',hr',t',x',h3,h4,h5,h6⟩:=h.ens.own e he
  have:r=r':=jl1 h.rns.ids hr hr' (h1.symm.trans h3);subst this;obtain rfl:t=t':=by omega
  rw [hx] at h5;obtain rfl:=Option.some.inj h5;rcases h6 with h6|h6
  ·exact h6.2
  ·omega
 ·have hst:qq y (zZ y)+(y.shelf.flatten.filter (jN y)).length=y.shelf.flatten.length:=by
   simp only [qq,zZ,List.countP_eq_length_filter];have:=List.length_eq_countP_add_countP (jN y) (l:=y.shelf.flatten);simp only [List.countP_eq_length_filter] at this;have e:y.shelf.flatten.filter (fun e=>!jN y e)=y.shelf.flatten.filter (fun a=>decide ¬jN y a=true):=List.filter_congr fun a _=>by cases jN y a<;>rfl
   rw [e];omega
  simp only [kZ];omega
end Go.Proofs.YtmnpailnelmpiaaGreat
