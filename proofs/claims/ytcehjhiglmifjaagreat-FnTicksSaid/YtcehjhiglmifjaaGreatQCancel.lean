/- Parts. -/
import Derived.Test.YtcehjhiglmifjaaGreatQLateOf
import Derived.Test.YtcehjhiglmifjaaGreatQPoll
set_option linter.unusedSimpArgs false
set_option linter.unusedVariables false
set_option maxHeartbeats 8000000
set_option maxRecDepth 100000
namespace Go.Proofs.YtcehjhiglmifjaaGreat
open Go.RowKit Go.Sort
def jea:C:=iS [iA 1 (.box 52 8 (.t 0)),iA 2 (.alloc 52 [.int .i64 0,.int .i64 0,.int .i64 0,.int .i64 0,.int .i64 0,.slice none 0 0,.int .i64 0,.slice none 0 0])] (iS [iA 4 (iT 8 1),iA 5 (.call 133 [.t 4]),iA 3 (.alloc 52 [.int .i64 0,.int .i64 0,.int .i64 0,.int .i64 0,.int .i64 0,.slice none 0 0,.int .i64 0,.slice none 0 0]),iC (.st 8 [none,none,none,none,none,some (2,161),none,some (4,46)] (.t 3) (.t 5))] (.seq (iS [iA 6 (iT 8 1),iA 7 (.call 130 [.t 6]),iA 8 (iU 7),iA 9 (iM 8),iB 10 9 false (iF 6 1),iB 11 9 false (iL 10),iB 12 9 false (iQ .neq 3 11 1),iA 13 (.pick (.t 9) (.c (.bool true)) (.t 12))] (iD 13 (iS [iA 14 (iT 8 3),iC (.st 8 [none,none,none,none,none,some (2,161),none,some (4,46)] (.t 2) (.t 14))] .ret) .skip)) (iS [iA 15 (iT 8 3),iA 16 (.call 173 [.t 15,.c (.int .i64 4)]),iC (.st 8 [none,none,none,none,none,some (2,161),none,some (4,46)] (.t 2) (.t 16))] .ret)))
theorem jg3:fnC Tryz.prog Tryz.f191=some (jea,[.cell 2 true 8],17):=by kernel_rfl
def jem:C:=iS [iA 1 (.box 52 8 (.t 0)),iA 2 (.alloc 52 [.int .i64 0,.int .i64 0,.int .i64 0,.int .i64 0,.int .i64 0,.slice none 0 0,.int .i64 0,.slice none 0 0])] (iS [iA 4 (iT 8 1),iA 5 (.call 127 [.t 4]),iA 3 (.alloc 52 [.int .i64 0,.int .i64 0,.int .i64 0,.int .i64 0,.int .i64 0,.slice none 0 0,.int .i64 0,.slice none 0 0]),iC (.st 8 [none,none,none,none,none,some (2,161),none,some (4,46)] (.t 3) (.t 5))] (.seq (iS [iA 6 (iT 8 1),iA 7 (.call 81 [.t 6]),iA 8 (iM 7),iB 9 8 true (iF 6 1),iB 10 8 true (iL 9),iB 11 8 true (iQ .eql 3 10 1),iA 12 (.pick (.t 8) (.t 11) (.c (.bool false)))] (iD 12 (iS [iA 13 (.call 171 [.t 3,.c (.int .i64 (-1))])] (.reg [iA 14 (iF 6 3),iC (.st 1 [none] (.t 14) (.c (.int .i64 4)))])) .skip)) (iS [iA 15 (iT 8 3),iC (.st 8 [none,none,none,none,none,some (2,161),none,some (4,46)] (.t 2) (.t 15))] .ret)))
theorem jhf:fnC Tryz.prog Tryz.f143=some (jem,[.cell 2 true 8],16):=by kernel_rfl
def jf5:C:=iS [iA 2 (.box 27 4 (.t 0)),iA 4 (.alloc 27 [.int .i64 0,.int .i64 0,.slice none 0 0,.slice none 0 0]),iA 5 (iN 0)] (iS [iA 8 (iT 4 2),iA 9 (.call 67 [.t 8]),iA 6 (.alloc 27 [.int .i64 0,.int .i64 0,.slice none 0 0,.slice none 0 0]),iC (.st 4 [none,none,some (1,35),some (8,52)] (.t 6) (.t 9))] (iS [iA 10 (iT 4 2),iA 11 (iM 1),iA 12 (.call 26 [.t 10,.t 11]),iA 7 (iM 12)] (.seq (.blk 0 (iS [iA 14 (iT 4 2),iA 15 (.call 66 [.t 14]),iA 16 (iU 15),iA 13 (iM 16)] (iD 13 (iS [iA 17 (iT 4 6),iC (.st 4 [none,none,some (1,35),some (8,52)] (.t 4) (.t 17)),iA 5 (iN 8)] .ret) (iS [iA 19 (iM 7),iA 20 (iQ .lss 3 19 0),iA 18 (iM 20)] (iD 18 (iS [iA 21 (iT 4 6),iC (.st 4 [none,none,some (1,35),some (8,52)] (.t 4) (.t 21)),iA 5 (iN 10)] .ret) (iS [iA 23 (iF 3 2),iA 24 (iL 23),iA 25 (iM 7),iA 26 (iI 8 24 25),iA 27 (iF 6 26),iA 28 (iL 27),iA 29 (iQ .neq 3 28 1),iA 22 (iM 29)] (iD 22 (iS [iA 30 (iT 4 6),iC (.st 4 [none,none,some (1,35),some (8,52)] (.t 4) (.t 30)),iA 5 (iN 12)] .ret) .skip))))))) (.seq (.dreg (T.pure 0 (iA 31 (iF 3 6)) (T.pure 1 (iA 32 (iL 31)) (T.pure 2 (iA 33 (iM 7)) (T.pure 3 (iA 34 (iF 3 6)) (T.pure 4 (iA 35 (iL 34)) (T.pure 5 (iA 36 (iM 7)) (T.pure 6 (iA 37 (iI 8 35 36)) (T.pure 7 (iA 38 (iT 8 37)) (T.alt (iA 39 (.call 191 [.t 38])) [2,1,0] (T.pure 9 (iA 40 (iI 8 32 33)) (T.alt (iC (.st 8 [none,none,none,none,none,some (2,161),none,some (4,46)] (.t 40) (.t 39))) [] T.done T.stop)) T.stop)))))))))) (iS [iA 41 (iT 4 6),iC (.st 4 [none,none,some (1,35),some (8,52)] (.t 4) (.t 41)),iA 5 (iN 0)] .ret)))))
theorem jh9:fnC Tryz.prog Tryz.f150=some (jf5,[.cell 4 true 4,.t 5],42):=by kernel_rfl
def jgk:C:=iS [iA 2 (.box 27 4 (.t 0)),iA 4 (.alloc 27 [.int .i64 0,.int .i64 0,.slice none 0 0,.slice none 0 0]),iA 5 (iN 0)] (iS [iA 8 (iT 4 2),iA 9 (.call 61 [.t 8]),iA 6 (.alloc 27 [.int .i64 0,.int .i64 0,.slice none 0 0,.slice none 0 0]),iC (.st 4 [none,none,some (1,35),some (8,52)] (.t 6) (.t 9))] (iS [iA 10 (iT 4 2),iA 11 (iM 1),iA 12 (.call 25 [.t 10,.t 11]),iA 7 (iM 12)] (.seq (.blk 0 (iS [iA 14 (iT 4 2),iA 15 (.call 18 [.t 14]),iA 16 (iU 15),iA 13 (iM 16)] (iD 13 (iS [iA 17 (iT 4 6),iC (.st 4 [none,none,some (1,35),some (8,52)] (.t 4) (.t 17)),iA 5 (iN 8)] .ret) (iS [iA 19 (iM 7),iA 20 (iQ .lss 3 19 0),iA 18 (iM 20)] (iD 18 (iS [iA 21 (iT 4 6),iC (.st 4 [none,none,some (1,35),some (8,52)] (.t 4) (.t 21)),iA 5 (iN 10)] .ret) (iS [iA 23 (iF 3 2),iA 24 (iL 23),iA 25 (iM 7),iA 26 (iI 8 24 25),iA 27 (iF 6 26),iA 28 (iL 27),iA 29 (iQ .neq 3 28 1),iA 22 (iM 29)] (iD 22 (iS [iA 30 (iT 4 6),iC (.st 4 [none,none,some (1,35),some (8,52)] (.t 4) (.t 30)),iA 5 (iN 12)] .ret) .skip))))))) (.seq (.dreg (T.pure 0 (iA 31 (iF 3 6)) (T.pure 1 (iA 32 (iL 31)) (T.pure 2 (iA 33 (iM 7)) (T.pure 3 (iA 34 (iF 3 2)) (T.pure 4 (iA 35 (iL 34)) (T.pure 5 (iA 36 (iM 7)) (T.pure 6 (iA 37 (iI 8 35 36)) (T.pure 7 (iA 38 (iT 8 37)) (T.alt (iA 39 (.call 143 [.t 38])) [2,1,0] (T.pure 9 (iA 40 (iI 8 32 33)) (T.alt (iC (.st 8 [none,none,none,none,none,some (2,161),none,some (4,46)] (.t 40) (.t 39))) [] T.done T.stop)) T.stop)))))))))) (iS [iA 41 (iT 4 6),iC (.st 4 [none,none,some (1,35),some (8,52)] (.t 4) (.t 41)),iA 5 (iN 0)] .ret)))))
theorem jip:fnC Tryz.prog Tryz.f90=some (jgk,[.cell 4 true 4,.t 5],42):=by kernel_rfl
theorem jkf (r:Rn) (hsz:r.plan.edges.length≤4000000) (ht:r.tasks.length≤4000000):kj Tryz.prog 191 [.agg (jd r)] (.agg (jd (jaE r))):=by
 refine jq Tryz.func191 jg3 (by simp) ?_
 unfold jea;simp only [go_sem,jd,ja];intro b1 b2;refine jc (vr r hsz ht) (by simp only [go_sem,jd,ja]) fun ηc=>?_
 simp only [go_sem,jd,ja];intro b3;refine jc (jcq r) (by simp only [go_sem,jd,ja]) fun η=>?_
 simp only [go_sem,jd,ja];cases h:kF r
 ·have hb:jaE r=r:=jiF (by simp [h])
  simp only [go_sem,jd,ja,h,hb]
 cases h1:r.state !=1;rotate_left
 ·have h1':(r.state==1)=false:=by have:=h1;simp only [bne,Bool.not_eq_true'] at this;exact this
  have hb:jaE r=r:=jiF (by simp [h,h1'])
  simp only [go_sem,jd,ja,h,h1,hb]
 have h1':(r.state==1)=true:=by have:=h1;simp only [bne,Bool.not_eq_false'] at this;exact this
 have hb:jaE r=⟨r.id,r.plan,4,qU jA r.tasks r.tasks.length⟩:=jnP (by simp [h,h1'])
 rw [hb];simp only [go_sem,jd,ja,h,h1];generalize hts:r.tasks=ts0 at*;refine kV (qn (β:=7000000) Tryz.func173 jaR (by simp) ?_)
 unfold jaw;simp only [go_sem,jd,ja];intro b72 b74;refine jn (fun i:Nat=>St.of [(1,Ni 4),(2,Bx 2 b72),(4,Bx 4 b74),(5,Ni i)] [(200,ZRn b2 tRn),(2,jaz b72 tRn ⟨r.id,r.plan,r.state,qU jA ts0 i⟩ (ηc 5) (ηc 7)),(4,ZRn b74 tRn)]) (fun i=>i≤ts0.length) (fun i=>ts0.length-i) 0 (by (try dsimp only);first|omega|(simp;done)|(and_intros<;>first|omega|simp)) (jg [some 200,some 700000200,some 700000400] (by simp only [go_sem,jd,ja,jqD]<;>and_intros<;>first|rfl|assumption|trivial)) ?_
 rintro j hj;have hml:=vX (f:=jA) (ts:=ts0) (k:=j);by_cases hlt:j<ts0.length
 ·have hlt':(j:Int)<ts0.length:=by omega
  have h0j:(j:Int)≥0:=by omega
  obtain ⟨y,hy⟩:=je hlt;have hyk:=jfg (f:=jA) hy;have hset:=jff (f:=jA) hy;generalize qU jA ts0 j=M at*;have hlm:j<M.length:=by omega
  have hw:IntKind.i64.wrap ((j:Int)+1)=((j+1:Nat):Int):=jf (by omega) (by omega)
  simp only [go_sem,jd,ja,hml,hlt',h0j,hlt,jsJ hyk,jhR hyk,jo];intro b6;cases hc4:y.state !=4
  ·have hst4:y.state=4:=by simpa using hc4
   have hg0:jA j y=y:=by simp [jA,hst4]
   have hg:jA j y=⟨y.state,y.need,y.tri,y.til⟩:=hg0;rw [hg] at hset;simp only [go_sem,jd,ja,Nat.add_zero,hml,hlt',h0j,hlt,hc4,jbz y.state y.need y.tri y.til hlm,hset,jhR hyk,hw];exact ⟨j+1,by (try dsimp only);first|omega|assumption|(and_intros<;>first|omega|assumption),(jg [some 200,some 2,some 4] (by simp only [go_sem,jd,ja]<;>and_intros<;>first|rfl|assumption|trivial)),by (try dsimp only);omega⟩
  cases hc5:y.state !=5
  ·have hst5:y.state=5:=by simpa using hc5
   have hg0:jA j y=y:=by simp [jA,hst5]
   have hg:jA j y=⟨y.state,y.need,y.tri,y.til⟩:=hg0;rw [hg] at hset;simp only [go_sem,jd,ja,Nat.add_zero,hml,hlt',h0j,hlt,hc4,hc5,jbz y.state y.need y.tri y.til hlm,hset,jhR hyk,hw];exact ⟨j+1,by (try dsimp only);first|omega|assumption|(and_intros<;>first|omega|assumption),(jg [some 200,some 2,some 4] (by simp only [go_sem,jd,ja]<;>and_intros<;>first|rfl|assumption|trivial)),by (try dsimp only);omega⟩
  ·have hg:jA j y=⟨6,y.need,y.tri,0⟩:=by
    have h1:¬y.state=4:=by simpa using hc4
    have h2:¬y.state=5:=by simpa using hc5
    simp [jA,h1,h2]
   rw [hg] at hset;simp only [go_sem,jd,ja,Nat.add_zero,hml,hlt',h0j,hlt,hc4,hc5,jbz 6 y.need y.tri 0 hlm,hset,jhR hyk,hw];exact ⟨j+1,by (try dsimp only);first|omega|assumption|(and_intros<;>first|omega|assumption),(jg [some 200,some 2,some 4] (by simp only [go_sem,jd,ja]<;>and_intros<;>first|rfl|assumption|trivial)),by (try dsimp only);omega⟩
 have hlt':¬(j:Int)<ts0.length:=by omega
 obtain rfl:j=ts0.length:=by omega
 generalize qU jA ts0 ts0.length=M at*;simp only [go_sem,jd,ja,Nat.add_zero,hml,hlt']
theorem jkl (r:Rn) (hsz:r.plan.edges.length≤4000000) (ht:r.tasks.length≤4000000):kj Tryz.prog 143 [.agg (jd r)] (.agg (jd (jaE r))):=by
 refine jq Tryz.func143 jhf (by simp) ?_
 unfold jem;simp only [go_sem,jd,ja];intro b1 b2;refine jc (jdM r hsz ht) (by simp only [go_sem,jd,ja]) fun ηc=>?_
 simp only [go_sem,jd,ja];intro b3;refine jc (jhv r hsz) (by simp only [go_sem,jd,ja]) fun η=>?_
 simp only [go_sem,jd,ja];cases h:kF r
 ·have hb:jaE r=r:=jiF (by simp [h])
  simp only [go_sem,jd,ja,h,hb]
 cases h1:r.state==1
 ·have hb:jaE r=r:=jiF (by simp [h,h1])
  simp only [go_sem,jd,ja,h,h1,hb]
 have hb:jaE r=⟨r.id,r.plan,4,qU jA r.tasks r.tasks.length⟩:=jnP (by simp [h,h1])
 have h5:=jBf (runOk_iff.1 h) (by simpa using h1)
 rw [hb,←jsf h5];simp only [go_sem,jd,ja,h,h1];generalize hts:r.tasks=ts0 at*;refine kV (qn (β:=8000000) Tryz.func171 jcJ (by simp) ?_)
 unfold jcZ;simp only [go_sem,jd,ja,Nat.add_zero];refine jn (fun i:Nat=>St.of [(0,Bx 300 b3),(1,Ni (-1)),(10,Ni ts0.length),(11,Ni i)] [(200,ZRn b2 tRn),(300,jaz b3 tRn ⟨r.id,r.plan,r.state,qU (qm (-1)) ts0 i⟩ (ηc 5) (ηc 7))]) (fun i=>i≤ts0.length) (fun i=>ts0.length-i) 0 (by (try dsimp only);first|omega|(simp;done)|(and_intros<;>first|omega|simp)) (jg [some 200,some 300] (by simp only [go_sem,jd,ja,jqD]<;>and_intros<;>first|rfl|assumption|trivial)) ?_
 rintro j hj;have hml:=vX (f:=qm (-1)) (ts:=ts0) (k:=j);by_cases hlt:j<ts0.length
 ·have hlt':(j:Int)<ts0.length:=by omega
  have h0j:(j:Int)≥0:=by omega
  obtain ⟨y,hy⟩:=je hlt;have hyk:=jfg (f:=qm (-1)) hy;have hset:=jff (f:=qm (-1)) hy;have hsame:=jnM (f:=qm (-1)) hy;generalize qU (qm (-1)) ts0 j=M at*;have hw:IntKind.i64.wrap ((j:Int)+1)=((j+1:Nat):Int):=jf (by omega) (by omega)
  have hlm:j<M.length:=by omega
  have hne':¬(j:Int)=-1:=by omega
  have hne:((j:Int) !=-1)=true:=by simp only [bne,Bool.not_eq_true',beq_eq_false_iff_ne];exact hne'
  cases hc4:y.state !=4
  ·have hg:qm (-1) j y=y:=by have:y.state=4:=by simpa using hc4
                             simp [qm,this]
   have hq:=hsame hg;simp only [go_sem,jd,ja,Nat.add_zero,hml,hlt',h0j,hlt,hne,jaa hyk,zb hyk,vl hyk,qz hyk,hc4,hw];exact ⟨j+1,by (try dsimp only);first|omega|assumption|(and_intros<;>first|omega|assumption),(jg [some 200,some 300] (by simp only [go_sem,jd,ja,hq]<;>and_intros<;>first|rfl|assumption|trivial)),by (try dsimp only);omega⟩
  ·have hg:qm (-1) j y=⟨6,y.need,y.tri,0⟩:=by
    have h1:¬y.state=4:=by simpa using hc4
    simp [qm,h1,hne']
   rw [hg] at hset;have hyk2:(M.set j ⟨6,y.need,y.tri,y.til⟩)[j]?=some ⟨6,y.need,y.tri,y.til⟩:=List.getElem?_set_self hlm;simp only [go_sem,jd,ja,Nat.add_zero,hml,hlt',h0j,hlt,hne,jaa hyk,zb hyk,vl hyk,qz hyk,hc4,jaW hyk,zA hyk,jeA hyk2,jjt hyk2,List.set_set,hset,hw];exact ⟨j+1,by (try dsimp only);first|omega|assumption|(and_intros<;>first|omega|assumption),(jg [some 200,some 300] (by simp only [go_sem,jd,ja]<;>and_intros<;>first|rfl|assumption|trivial)),by (try dsimp only);omega⟩
 have hlt':¬(j:Int)<ts0.length:=by omega
 obtain rfl:j=ts0.length:=by omega
 generalize qU (qm (-1)) ts0 ts0.length=M at*;simp only [go_sem,jd,ja,Nat.add_zero,hml,hlt']
theorem jlY (y:Yd) (id:Int) (ht:jJ y≤2000000):kj Tryz.prog 150 [.agg (jb y),.c (.val (.int .i64 id))] (.tup [(true,jb (kQ y id)),(false,[.val (.int .i64 (qc y id))])]):=by
 refine jq Tryz.func150 jh9 (by simp) ?_
 unfold jf5;simp only [go_sem,jb];intro b2 b4;refine jc (kx y ht) (by simp only [go_sem,jb]) fun ηc=>?_
 simp only [go_sem,jb];intro b6;refine jc (qj y id) (by simp only [go_sem,jb]) fun η=>?_
 simp only [go_sem,jb];refine jc (qi y ht) (by simp only [go_sem,jb]) fun η=>?_
 simp only [go_sem,jb];cases hok:jD y
 ·have hc:qc y id=8:=by simp [qc,hok]
  have hy:kQ y id=y:=by simp [kQ,hc]
  simp only [go_sem,jb,hok,hc,hy];refine qh _ _ _ _ _ ?_;simp only [go_sem,jb]
 by_cases hneg:runAt y id<0
 ·have hc:qc y id=10:=by simp [qc,hok,hneg]
  have hy:kQ y id=y:=by simp [kQ,hc]
  simp only [go_sem,jb,hok,hneg,hc,hy];refine qh _ _ _ _ _ ?_;simp only [go_sem,jb]
 obtain ⟨k,r,hrk,hr,hid,h8⟩:=qP hneg;have hk:=(List.getElem?_eq_some_iff.1 hr).1;have h0k:(k:Int)≥0:=by omega
 have hk0:¬(k:Int)<0:=by omega
 have hget:(y.runs[(runAt y id).toNat]?).getD default=r:=by rw [hrk,Int.toNat_natCast,hr];rfl
 cases hst:r.state !=1;rotate_left
 ·have hs1:¬r.state=1:=by simpa using hst
  have hc:qc y id=12:=by unfold qc;rw [if_neg (by simp [hok]),if_neg hneg,hget,if_neg hs1]
  have hy:kQ y id=y:=by simp [kQ,hc]
  simp only [go_sem,jb,hok,hrk,hk0,h0k,hk,jV hr,jd,ja,hst,hc,hy];refine qh _ _ _ _ _ ?_;simp only [go_sem,jb]
 have hs1:r.state=1:=by simpa using hst
 have hc:qc y id=0:=by unfold qc;rw [if_neg (by simp [hok]),if_neg hneg,hget,if_pos hs1]
 have hy:kQ y id=jhq y k (jaE r):=by rw [kQ,if_pos hc,hget,hrk,Int.toNat_natCast]
 have hrb:=jco ht (List.mem_of_getElem? hr);rw [hc,hy,jhq];simp only [go_sem,jb,hok,hrk,hk0,h0k,hk,jV hr,jhl hr,jcy hr,jd,ja,hst];refine jc (jkf r hrb.1 hrb.2) (by simp only [go_sem,jb,jd,ja,jZ hr,ke hr]) fun η=>?_
 simp only [go_sem,jb,jd,ja,jZ hr,ke hr];simp only [go_sem,hk,jo7 (jaE r) hk];refine ⟨jcy hr,fun η' hη=>qh _ _ _ _ _ ?_⟩
 simp only [go_sem,jb]
theorem jl9 (y:Yd) (id:Int) (ht:jJ y≤2000000):kj Tryz.prog 90 [.agg (jb y),.c (.val (.int .i64 id))] (.tup [(true,jb (kQ y id)),(false,[.val (.int .i64 (qc y id))])]):=by
 refine jq Tryz.func90 jip (by simp) ?_
 unfold jgk;simp only [go_sem,jb];intro b2 b4;refine jc (kn y ht) (by simp only [go_sem,jb]) fun ηc=>?_
 simp only [go_sem,jb];intro b6;refine jc (ql y id) (by simp only [go_sem,jb]) fun η=>?_
 simp only [go_sem,jb];refine jc (kI y ht) (by simp only [go_sem,jb]) fun η=>?_
 simp only [go_sem,jb];cases hok:jD y
 ·have hc:qc y id=8:=by simp [qc,hok]
  have hy:kQ y id=y:=by simp [kQ,hc]
  simp only [go_sem,jb,hok,hc,hy];refine qh _ _ _ _ _ ?_;simp only [go_sem,jb]
 by_cases hneg:runAt y id<0
 ·have hc:qc y id=10:=by simp [qc,hok,hneg]
  have hy:kQ y id=y:=by simp [kQ,hc]
  simp only [go_sem,jb,hok,hneg,hc,hy];refine qh _ _ _ _ _ ?_;simp only [go_sem,jb]
 obtain ⟨k,r,hrk,hr,hid,h8⟩:=qP hneg;have hk:=(List.getElem?_eq_some_iff.1 hr).1;have h0k:(k:Int)≥0:=by omega
 have hk0:¬(k:Int)<0:=by omega
 have hget:(y.runs[(runAt y id).toNat]?).getD default=r:=by rw [hrk,Int.toNat_natCast,hr];rfl
 cases hst:r.state !=1;rotate_left
 ·have hs1:¬r.state=1:=by simpa using hst
  have hc:qc y id=12:=by unfold qc;rw [if_neg (by simp [hok]),if_neg hneg,hget,if_neg hs1]
  have hy:kQ y id=y:=by simp [kQ,hc]
  simp only [go_sem,jb,hok,hrk,hk0,h0k,hk,jV hr,jd,ja,hst,hc,hy];refine qh _ _ _ _ _ ?_;simp only [go_sem,jb]
 have hs1:r.state=1:=by simpa using hst
 have hc:qc y id=0:=by unfold qc;rw [if_neg (by simp [hok]),if_neg hneg,hget,if_pos hs1]
 have hy:kQ y id=jhq y k (jaE r):=by rw [kQ,if_pos hc,hget,hrk,Int.toNat_natCast]
 have hrb:=jco ht (List.mem_of_getElem? hr);rw [hc,hy,jhq];simp only [go_sem,jb,hok,hrk,hk0,h0k,hk,jV hr,jhl hr,jcy hr,jd,ja,hst];refine jc (jkl r hrb.1 hrb.2) (by simp only [go_sem,jb,jd,ja,jZ hr,ke hr]) fun η=>?_
 simp only [go_sem,jb,jd,ja,jZ hr,ke hr];simp only [go_sem,hk,jo7 (jaE r) hk];refine ⟨jcy hr,fun η' hη=>qh _ _ _ _ _ ?_⟩
 simp only [go_sem,jb]
noncomputable def jcD (y:Yd) (id task tri:Int):Yd:=if jaV y id task tri=0 then kM y (runAt y id).toNat (jG ((y.runs[(runAt y id).toNat]?).getD default) task) else y
def jjT:C:=iS [iA 4 (.box 27 4 (.t 0)),iA 8 (.alloc 27 [.int .i64 0,.int .i64 0,.slice none 0 0,.slice none 0 0]),iA 9 (iN 0)] (iS [iA 13 (iT 4 4),iA 14 (.call 67 [.t 13]),iA 10 (.alloc 27 [.int .i64 0,.int .i64 0,.slice none 0 0,.slice none 0 0]),iC (.st 4 [none,none,some (1,35),some (8,52)] (.t 10) (.t 14))] (iS [iA 15 (iT 4 4),iA 16 (iM 1),iA 17 (iM 2),iA 18 (iM 3),iA 19 (.call 189 [.t 15,.t 16,.t 17,.t 18]),iA 11 (iM 19)] (.seq (iS [iA 20 (iM 11),iA 21 (iQ .neq 3 20 0)] (iD 21 (iS [iA 22 (iT 4 10),iA 23 (iM 11),iC (.st 4 [none,none,some (1,35),some (8,52)] (.t 8) (.t 22)),iA 9 (iM 23)] .ret) .skip)) (iS [iA 24 (iT 4 4),iA 25 (iM 1),iA 26 (.call 26 [.t 24,.t 25]),iA 12 (iM 26)] (.seq (.dreg (T.pure 0 (iA 27 (iT 4 10)) (T.pure 1 (iA 28 (iM 12)) (T.pure 2 (iA 29 (iF 3 10)) (T.pure 3 (iA 30 (iL 29)) (T.pure 4 (iA 31 (iM 12)) (T.pure 5 (iA 32 (iI 8 30 31)) (T.pure 6 (iA 33 (iT 8 32)) (T.pure 7 (iA 34 (iM 2)) (T.alt (iA 35 (.call 120 [.t 33,.t 34])) [1,0] (T.alt (iA 36 (.call 119 [.t 27,.t 28,.t 35])) [] (T.alt (iC (.st 4 [none,none,some (1,35),some (8,52)] (.t 8) (.t 36))) [] (T.pure 11 (iA 9 (iN 0)) T.done) T.stop) T.stop) T.stop)))))))))) .ret)))))
theorem jkv:fnC Tryz.prog Tryz.f149=some (jjT,[.cell 8 true 4,.t 9],37):=by kernel_rfl
theorem jpb (y:Yd) (id task tri:Int) (ht:jJ y≤2000000):kj Tryz.prog 149 [.agg (jb y),.c (.val (.int .i64 id)),.c (.val (.int .i64 task)),.c (.val (.int .i64 tri))] (.tup [(true,jb (jcD y id task tri)),(false,[.val (.int .i64 (jaV y id task tri))])]):=by
 refine zn [[1,1,1,1,1,0]] Tryz.func149 jkv (by simp) ?_
 unfold jjT;simp only [C.ghs,C.ghAt,List.foldr];simp only [go_sem,jb];intro b4 b8;refine jc (kx y ht) (by simp only [go_sem,jb]) fun ηc=>?_
 simp only [go_sem,jb];intro b10;refine jc (jfc y id task tri ht) (by simp only [go_sem,jb]) fun η=>?_
 simp only [go_sem,jb];cases h0:jaV y id task tri !=0;rotate_left
 ·have hy:jcD y id task tri=y:=by rw [jcD,if_neg (by simpa using h0)]
  simp only [go_sem,jb,h0,hy];refine qh _ _ _ _ _ ?_;simp only [go_sem,jb]
 have h0':jaV y id task tri=0:=by simpa using h0
 obtain ⟨hok,hneg⟩:=joG h0';obtain ⟨k,r,hrk,hr,hid,h8⟩:=qP hneg;have hk:=(List.getElem?_eq_some_iff.1 hr).1;have h0k:(k:Int)≥0:=by omega
 have hk0:¬(k:Int)<0:=by omega
 have hY:jcD y id task tri=kM y k (jG r task):=by rw [jcD,if_pos h0',hrk,Int.toNat_natCast,hr,Option.getD_some]
 rw [hY,h0'];simp only [go_sem,jb,h0];refine jc (qj y id) (by simp only [go_sem,jb]) fun η=>?_
 simp only [go_sem,jb];refine kY ?_;refine WkK.wk (s':=St.of [(2,Ni task),(8,Bx 92 b8),(10,Bx 90 b10),(12,Ni k)] [(92,ZYd b8 tYd),(90,kq b10 tYd y.now y.seq y.shelf (ηc 2) y.runs (ηc 3))]) (jg [some 800,some 1000] (by simp only [go_sem,jb,hrk]<;>and_intros<;>first|rfl|assumption|trivial)) ?_
 refine WkK.of ?_;have hrb:=jco ht (List.mem_of_getElem? hr);simp only [go_sem,jb,hk0,h0k,hk,jhl hr,jcy hr,jd,ja];refine jc (jap r task hrb.1 hrb.2) (by simp only [go_sem,jb,jd,ja,jZ hr,ke hr]) fun ηr=>?_
 simp only [go_sem,jb,jd,ja,jZ hr,ke hr];have hrl:(jG r task).tasks.length=r.tasks.length:=kX r task;have hr12:r.tasks.length≤12:=(hok.right r (List.mem_of_getElem? hr)).le12;generalize jG r task=r2 at*;refine jan [some 90,some 92,some 3505,some 3507] [(90,kq b10 tYd y.now y.seq y.shelf (ηc 2) y.runs (ηc 3)),(92,ZYd b8 tYd),(97,.loose (jy r2.plan.edges) (ηr 5)),(98,.loose (jB r2.tasks) (ηr 7))] [.agg [.v (.int .i64 y.now),.v (.int .i64 y.seq),.h 90 2 [] (ηc 2 []),.h 90 3 [] (ηc 3 [])],Ni k,.agg [.v (.int .i64 r2.id),.v (.int .i64 r2.plan.prio),.v (.int .i64 r2.plan.most),.v (.int .i64 r2.plan.wait),.v (.int .i64 r2.plan.tasks),.h 97 0 [] (ηr 5 []),.v (.int .i64 r2.state),.h 98 0 [] (ηr 7 [])]] (by simp only [go_sem]<;>and_intros<;>rfl) (by simp only [go_sem]<;>and_intros<;>rfl) (jfn hr hrl hr12 hok.four (by have:=hok.seq;omega) ht rfl rfl rfl) ?_
 rintro _ o1 ⟨c,g2,g3,x2,x3,rfl,j99,j90,j91,j92,j93,j94,j95,j96⟩;have j92':o1 92=ZYd b8 tYd:=j92;generalize kM y k r2=z2 at*;simp only [go_sem,j99,j90,j92'];refine qh _ _ _ _ _ ?_;simp only [go_sem,jb,j99,j90,j92']
def jjX:C:=iS [iA 4 (.box 27 4 (.t 0)),iA 6 (.box 3 1 (.t 2)),iA 8 (.alloc 27 [.int .i64 0,.int .i64 0,.slice none 0 0,.slice none 0 0]),iA 9 (iN 0)] (iS [iA 12 (iT 4 4),iA 13 (.call 61 [.t 12]),iA 10 (.alloc 27 [.int .i64 0,.int .i64 0,.slice none 0 0,.slice none 0 0]),iC (.st 4 [none,none,some (1,35),some (8,52)] (.t 10) (.t 13))] (iS [iA 14 (iT 4 4),iA 15 (iM 1),iA 16 (iL 6),iA 17 (iM 3),iA 18 (.call 122 [.t 14,.t 15,.t 16,.t 17]),iA 11 (iM 18)] (.seq (iS [iA 19 (iM 11),iA 20 (iQ .eql 3 19 0)] (iD 20 (.reg [iA 21 (iT 4 4),iA 22 (iM 1),iA 23 (.call 25 [.t 21,.t 22]),iA 24 (.mkf 125 [.t 6]),iA 25 (.call 116 [.t 10,.t 23,.t 24])]) .skip)) (iS [iA 26 (iT 4 10),iA 27 (iM 11),iC (.st 4 [none,none,some (1,35),some (8,52)] (.t 8) (.t 26)),iA 9 (iM 27)] .ret))))
theorem jkA:fnC Tryz.prog Tryz.f56=some (jjX,[.cell 8 true 4,.t 9],28):=by kernel_rfl
def jgj:C:=.reg [iA 3 (iM 0),iA 4 (iL 1),iA 5 (.call 118 [.t 3,.t 4])]
theorem jin:fnC Tryz.prog Tryz.f125=some (jgj,[],6):=by kernel_rfl
theorem ju8 {k t b6:Nat} {y:Yd} {r:Rn} (hr:y.runs[k]?=some r) (hrun:vq r t=true):jvz Tryz.prog 125 [.bp 91 0 b6] (.box b6 jgn [.a (.v (.int .i64 t))]) k y (jG r t):=by
 intro o b e2 e3 h90 h91;refine jit (β:=6000000) Tryz.func125 jin (by simp) ?_
 unfold jgj;simp only [go_sem,h91];refine kN (by simp only [go_sem]) (jmu hr hrun _ b e2 e3 (by simp only [go_sem];exact h90)) ?_
 rintro _ o1 ⟨rfl,j90,j91,j92,j93,j94,j95,j96,j97⟩;simp only [go_sem] at j91 j92 j93 j94 j95 j96 j97;rw [h91] at j91;exact ⟨.tup [],⟨by decide,rfl⟩,rfl,rfl,j90,j91,j92,j93,j94,j95,j96,j97⟩
theorem jpf (y:Yd) (id task tri:Int) (ht:jJ y≤2000000):kj Tryz.prog 56 [.agg (jb y),.c (.val (.int .i64 id)),.c (.val (.int .i64 task)),.c (.val (.int .i64 tri))] (.tup [(true,jb (jcD y id task tri)),(false,[.val (.int .i64 (jaV y id task tri))])]):=by
 refine zn [[1,1,1,0,1,0]] Tryz.func56 jkA (by simp) ?_
 unfold jjX;simp only [C.ghs,C.ghAt,List.foldr];simp only [go_sem,jb];intro b4 b6 b8;refine jc (kn y ht) (by simp only [go_sem,jb]) fun ηc=>?_
 simp only [go_sem,jb];intro b10;refine jc (jjh y id task tri ht) (by simp only [go_sem,jb]) fun η=>?_
 simp only [go_sem,jb];cases h0:jaV y id task tri==0
 ·have hy:jcD y id task tri=y:=by rw [jcD,if_neg (by simpa using h0)]
  simp only [go_sem,jb,h0,hy];refine qh _ _ _ _ _ ?_;simp only [go_sem,jb]
 have h0':jaV y id task tri=0:=by simpa using h0
 obtain ⟨hok,hneg⟩:=joG h0';obtain ⟨k,r,hrk,hr,hid,h8⟩:=qP hneg;obtain ⟨t,rfl,hrun⟩:=jqO h0' hrk hr;have hY:jcD y id t tri=kM y k (jG r t):=by rw [jcD,if_pos h0',hrk,Int.toNat_natCast,hr,Option.getD_some]
 have hr12:r.tasks.length≤12:=(hok.right r (List.mem_of_getElem? hr)).le12;rw [hY,h0'];simp only [go_sem,jb,h0];refine kY ?_;generalize ηc 2=η2 at*;generalize ηc 3=η3 at*;refine WkK.wk (s':=St.of [(1,Ni id),(4,Bx 93 b4),(6,Bx 91 b6),(8,Bx 92 b8),(10,Bx 90 b10),(11,Ni 0)] [(93,Bi b4 tYd (jb y)),(91,.box b6 jgn [.a (.v (.int .i64 t))]),(92,ZYd b8 tYd),(90,kq b10 tYd y.now y.seq y.shelf η2 y.runs η3)]) (jg [some 400,some 600,some 800,some 1000] (by simp only [go_sem,jb]<;>and_intros<;>first|rfl|assumption|trivial)) ?_
 refine WkK.of ?_;simp only [go_sem,jb];refine jc (ql y id) (by simp only [go_sem,jb]) fun η=>?_
 simp only [go_sem,jb];rw [hrk];refine kN (vs:=[Bx 90 b10,Ni k,.fn 125 [.bp 91 0 b6]]) (by simp only [go_sem]) (jdm hr (kX r t) hr12 hok.four (by have:=hok.seq;omega) ht (ju8 hr hrun) (e2:=η2) (e3:=η3) (by simp only [go_sem]) (by simp only [go_sem])) ?_
 rintro _ o1 ⟨rfl,⟨e2',e3',j90⟩,j91,j92,j93,j94,j95,j96⟩;simp only [go_sem] at j92;generalize kM y k (jG r t)=y2 at*;simp only [go_sem,j90,j92];refine qh _ _ _ _ _ ?_;simp only [go_sem,jb]
theorem jes {α:Type} (f:α→Nat) (m:Nat):∀l:List α,(∀x∈l,f x≤m)→vT f l≤m*l.length
 |[],_=>by simp [vT]
 |x::l,h=>by
  have h1:=h x (by simp)
  have h2:=jes f m l fun x hx=>h x (by simp [hx])
  simp only [vT,List.map_cons,List.sum_cons,List.length_cons,Nat.mul_succ] at h2⊢;omega
theorem YardOkP.small {y:Yd} (h:YardOkP y):jJ y≤700:=by
 have h1:=jes zW 80 y.shelf fun l hl=>(h.shelves l hl).most
 have h2:=jes qO 42 y.runs fun r hr=>by
  have hR:=h.right r hr;obtain ⟨n,hn,_,h12,h30,_⟩:=jcb hR.plan;have:=hR.len;have h30':r.plan.edges.length≤30:=h30;simp only [qO,jhL];omega
 have h3:=h.four;have h4:=h.eight;simp only [jJ,jbv,ja5];omega
noncomputable def doY (y:Yd) (d:Dd):Yd:=
 if kf d=false then y else if d.kind=1 then jeu y d.run d.plan else if d.kind=2 then zQ y d.worker d.draw else if d.kind=3 then jcF y d.run d.task d.tri
 else if d.kind=4 then jcD y d.run d.task d.tri else if d.kind=5 then vE y else if d.kind=6 then kQ y d.run else if d.kind=7 then jau y d.run else zG y
noncomputable def doQ (y:Yd) (d:Dd):Rp:=
 if kf d=false then ⟨5,0,0,0⟩ else if d.kind=1 then ⟨jdG y d.run d.plan,0,0,0⟩ else if d.kind=2 then jo9 y d.worker d.draw else if d.kind=3 then ⟨jaV y d.run d.task d.tri,0,0,0⟩
 else if d.kind=4 then ⟨jaV y d.run d.task d.tri,0,0,0⟩ else if d.kind=5 then ⟨zE y,0,0,0⟩ else if d.kind=6 then ⟨qc y d.run,0,0,0⟩ else if d.kind=7 then ⟨jav y d.run,0,0,0⟩
 else if jD y=true then ⟨0,0,0,0⟩ else ⟨8,0,0,0⟩
theorem zp {sh:List (List En)} {n:Nat} {l:List En} (h:sh[n]?=some l) (l':List En):∃rest,sh.flatten.Perm (l++rest)∧(sh.set n l').flatten.Perm (l'++rest):=by
 have hn:=(List.getElem?_eq_some_iff.1 h).1
 have key:∀m:List En,(sh.set n m).flatten.Perm (m++((sh.take n).flatten++(sh.drop (n+1)).flatten)):=fun m=>by
  rw [List.set_eq_take_append_cons_drop,if_pos hn,List.flatten_append,List.flatten_cons];exact List.perm_append_comm_assoc _ _ _
 have e:sh.set n l=sh:=by
  obtain ⟨h1,rfl⟩:=List.getElem?_eq_some_iff.1 h;exact List.set_getElem_self h1
 exact ⟨_,by have:=key l;rwa [e] at this,key l'⟩
theorem jj4 {a b c:En} (h1:kt a b=true) (h2:kt b c=true):kt a c=true:=by
 simp only [kt,decide_eq_true_eq] at*;omega
theorem jxg {a b:En} (h:a.seq≠b.seq) (h1:kt a b=false):kt b a=true:=by
 simp only [kt,decide_eq_true_eq,decide_eq_false_iff_not] at*;omega
def SrtP (l:List En):Prop:=l.Pairwise fun a b=>kt a b=true
theorem SrtP.ahead {l:List En} (h:SrtP l) (k:Nat) (a b:En) (ha:l[k]?=some a) (hb:l[k+1]?=some b):kt a b=true:=by
 obtain ⟨h1,rfl⟩:=List.getElem?_eq_some_iff.1 ha;obtain ⟨h2,rfl⟩:=List.getElem?_eq_some_iff.1 hb;exact List.pairwise_iff_getElem.1 h k (k+1) h1 h2 (by omega)
theorem jjb (l:List En) (e:En):(jb8 l e).Perm (e::l):=by
 rw [jb8,jk8];have:=List.perm_middle (a:=e) (l₁:=l.take (jj7 l e)) (l₂:=l.drop (jj7 l e))
 rwa [List.take_append_drop] at this
theorem jqo {l:List En} {e:En} (h:SrtP l) (hs:∀x∈l,x.seq≠e.seq):SrtP (jb8 l e):=by
 have hd:(∀x∈l.take (jj7 l e),kt x e=true)∧∀x∈l.drop (jj7 l e),kt e x=true:=by
  rcases zq (fun x=>!kt x e) l with ⟨hf,hn⟩|⟨k,x,hk,hx,hp,hn⟩
  ·have hK:jj7 l e=l.length:=by rw [jj7,if_pos (by omega)]
   rw [hK,List.take_length,List.drop_length];exact ⟨fun x hx=>by have:=hn x hx;simpa using this,by simp⟩
  ·have hK:jj7 l e=k:=by rw [jj7,if_neg (by omega),hk];simp
   rw [hK];refine ⟨fun z hz=>by have:=hn z hz;simpa using this,?_⟩
   have hxe:kt e x=true:=jxg (hs x (List.mem_of_getElem? hx)) (by simpa using hp)
   have hkl:=(List.getElem?_eq_some_iff.1 hx).1
   have e1:l.drop k=x::l.drop (k+1):=by
    rw [List.drop_eq_getElem_cons hkl];congr 1;exact (List.getElem?_eq_some_iff.1 hx).2
   intro z hz;have hp2:SrtP (l.drop k):=h.sublist (List.drop_sublist _ _);rw [e1] at hz hp2;rcases List.mem_cons.1 hz with rfl|hz
   ·exact hxe
   ·exact jj4 hxe ((List.pairwise_cons.1 hp2).1 z hz)
 rw [jb8,jk8];refine List.pairwise_append.2 ⟨h.sublist (List.take_sublist _ _),List.pairwise_cons.2 ⟨hd.2,h.sublist (List.drop_sublist _ _)⟩,fun a ha b hb=>?_⟩
 rcases List.mem_cons.1 hb with rfl|hb
 ·exact hd.1 a ha
 ·exact jj4 (hd.1 a ha) (hd.2 b hb)
theorem jjc:∀(b a:List En),(b.foldl jb8 a).Perm (a++b)
 |[],a=>by simp
 |e::b,a=>by
  rw [List.foldl_cons];exact (jjc b (jb8 a e)).trans (((jjb a e).append_right b).trans (by simpa using (List.perm_middle (a:=e) (l₁:=a) (l₂:=b)).symm))
theorem jqs:∀{b a:List En},SrtP a→((a++b).map (·.seq)).Nodup→SrtP (b.foldl jb8 a)
 |[],a,h,_=>h
 |e::b,a,h,hn=>by
  rw [List.foldl_cons]
  have hp:((jb8 a e++b).map (·.seq)).Nodup:=by
   refine ((List.Perm.map _ (((jjb a e).append_right b).trans ?_)).nodup_iff).2 hn;simpa using (List.perm_middle (a:=e) (l₁:=a) (l₂:=b)).symm
  refine jqs (jqo h fun x hx hxe=>?_) hp
  rw [List.map_append,List.map_cons] at hn;exact (List.nodup_append.1 hn).2.2 _ (List.mem_map_of_mem hx) _ (by rw [hxe];simp) rfl
def jk4 (prio id:Int):Int→List Int→List En
 |_,[]=>[]
 |q,t::ids=>⟨prio,q,id,t⟩::jk4 prio id (q+1) ids
theorem jmc (prio id:Int):∀(ids:List Int) (q:Int),(jk4 prio id q ids).length=ids.length
 |[],_=>rfl
 |_::ids,q=>by simp [jk4,jmc prio id ids]
theorem jdh {prio id:Int}:∀{ids:List Int} {q:Int} {e:En},e∈jk4 prio id q ids→e.prio=prio∧e.run=id∧e.task∈ids∧q≤e.seq∧e.seq<q+ids.length
 |[],_,_,h=>by simp [jk4] at h
 |t::ids,q,e,h=>by
  rcases List.mem_cons.1 h with rfl|h
  ·refine ⟨rfl,rfl,by simp,?_,?_⟩<;>(try dsimp only)<;>(try simp only [List.length_cons])<;>omega
  ·obtain ⟨h1,h2,h3,h4,h5⟩:=jdh h
   refine ⟨h1,h2,by simp [h3],?_,?_⟩<;>(try simp only [List.length_cons])<;>omega
theorem jk3 (prio id:Int):∀(ids:List Int) (q:Int),((jk4 prio id q ids).map (·.seq)).Nodup
 |[],_=>by simp [jk4]
 |t::ids,q=>by
  simp only [jk4,List.map_cons];refine List.nodup_cons.2 ⟨fun h=>?_,jk3 prio id ids (q+1)⟩
  obtain ⟨e,he,hq⟩:=List.mem_map.1 h;have:=(jdh he).2.2.2.1;omega
theorem jqB (prio id:Int) (t:Int):∀(ids:List Int) (q:Int),zM id t (jk4 prio id q ids)=ids.count t
 |[],_=>by simp [jk4,zM]
 |u::ids,q=>by
  have ih:=jqB prio id t ids (q+1);simp only [zM] at ih;simp only [jk4,zM,List.filter_cons,beq_self_eq_true,Bool.true_and,List.count_cons];cases h:u==t<;>simp [ih]
theorem jjp (prio id:Int):∀(ids:List Int) (l:List En) (q:Int),(vQ prio id ids (l,q)).1.Perm (jk4 prio id q ids++l)
 |[],l,q=>by simp [vQ,jk4]
 |t::ids,l,q=>by
  have ih:=jjp prio id ids (jb8 l ⟨prio,q,id,t⟩) (q+1);simp only [vQ,List.foldl_cons,jk4] at ih⊢;refine ih.trans (((jjb l ⟨prio,q,id,t⟩).append_left _).trans ?_);exact List.perm_middle
theorem jme (prio id:Int):∀(ids:List Int) {l:List En} {q:Int},SrtP l→(∀x∈l,x.seq<q)→SrtP (vQ prio id ids (l,q)).1
 |[],_,_,h,_=>h
 |t::ids,l,q,h,hq=>by
  have:=jme prio id ids (l:=jb8 l ⟨prio,q,id,t⟩) (q:=q+1) (jqo h fun x hx=>by have:=hq x hx;dsimp only;omega) (fun x hx=>by
   rcases jqp hx with hx|rfl
   ·have:=hq x hx;omega
   ·dsimp only;omega)
  simpa only [vQ,List.foldl_cons] using this
structure RnsI (now:Int) (rs:List Rn):Prop where
 eight:rs.length≤8
 right:∀r∈rs,RunOkP r
 ids:(rs.map (·.id)).Nodup
 til:∀r∈rs,∀(t:Nat) (x:Tk),r.tasks[t]?=some x→x.state=3→now+1≤x.til∧x.til≤now+r.plan.wait
 tri:∀r∈rs,∀x∈r.tasks,x.state=1→x.tri=0
structure EnsI (rs:List Rn) (q:Int) (L:List En):Prop where
 range:∀e∈L,1≤e.seq∧e.seq≤q-1
 apart:(L.map (·.seq)).Nodup
 own:∀e∈L,∃r∈rs,∃(t:Nat) (x:Tk),e.run=r.id∧e.task=t∧r.tasks[t]?=some x∧(x.state=2∧e.prio=r.plan.prio∨x.state=6)
 one:∀r∈rs,∀(t:Nat) (x:Tk),r.tasks[t]?=some x→x.state=2→zM r.id t L=1
def jbL (rs:List Rn):Nat:=vT (fun r=>cS 2 r.tasks) rs
structure YdI (y:Yd):Prop where
 now:0≤y.now∧y.now≤999999980
 seq:1≤y.seq
 four:y.shelf.length=4
 sorted:∀l∈y.shelf,SrtP l
 rns:RnsI y.now y.runs
 ens:EnsI y.runs y.seq y.shelf.flatten
 room:vT kK y.runs+y.shelf.flatten.length≤40+jbL y.runs
theorem ju5 {L M:List En} (h:L.Perm M) (id t:Int):zM id t L=zM id t M:=by
 simp only [zM];exact (h.filter _).length_eq
theorem EnsI.perm {rs:List Rn} {q:Int} {L M:List En} (h:EnsI rs q L) (hp:L.Perm M):EnsI rs q M:=
 ⟨fun e he=>h.range e (hp.mem_iff.2 he),((hp.map _).nodup_iff).1 h.apart,fun e he=>h.own e (hp.mem_iff.2 he),fun r hr t x hx hs=>by rw [←ju5 hp];exact h.one r hr t x hx hs⟩
theorem jzF {L:List En} {e:En} {id t:Int} (he:e∈L) (h1:e.run=id) (h2:e.task=t):1≤zM id t L:=by
 have:e∈L.filter fun e=>e.run==id&&e.task==t:=List.mem_filter.2 ⟨he,by simp [h1,h2]⟩
 exact List.length_pos_of_mem this
theorem jmB {L:List En} {id t:Int} (h:∀e∈L,¬(e.run=id∧e.task=t)):zM id t L=0:=by
 have:L.filter (fun e=>e.run==id&&e.task==t)=[]:=List.filter_eq_nil_iff.2 fun e he=>by
  have:=h e he;simp;intro h1 h2;exact this ⟨h1,h2⟩
 simp [zM,this]
theorem jhi (id t:Int) (L M:List En):zM id t (L++M)=zM id t L+zM id t M:=by simp [zM]
theorem jqN {rs:List Rn} (h:(rs.map (·.id)).Nodup) {j k:Nat} {r r':Rn} (h1:rs[j]?=some r) (h2:rs[k]?=some r') (he:r.id=r'.id):j=k:=by
 have hj:=(List.getElem?_eq_some_iff.1 h1).1;have hk:=(List.getElem?_eq_some_iff.1 h2).1;refine Classical.byContradiction fun hne=>?_
 have e1:(rs.map (·.id))[j]?=some r.id:=by rw [List.getElem?_map,h1];rfl
 have e2:(rs.map (·.id))[k]?=some r.id:=by rw [List.getElem?_map,h2,he];rfl
 exact hne ((List.getElem?_inj (by simpa using hj) h).1 (e1.trans e2.symm))
theorem jiI {rs:List Rn} (h:(rs.map (·.id)).Nodup) {r r':Rn} (h1:r∈rs) (h2:r'∈rs) (he:r.id=r'.id):r=r':=by
 obtain ⟨j,hj⟩:=List.getElem?_of_mem h1;obtain ⟨k,hk⟩:=List.getElem?_of_mem h2;have:=jqN h hj hk he;subst this;rw [hj] at hk;exact Option.some.inj hk
theorem joC {y:Yd} (h8:y.runs.length≤8) (h:(y.runs.map (·.id)).Nodup) {k:Nat} {r:Rn} (hr:y.runs[k]?=some r):runAt y r.id=k:=by
 unfold runAt;rw [if_neg (by omega)]
 refine jbx hr rfl fun j hj z hz he=>?_
 have:=jqN h hz hr he;omega
theorem jiJ {y:Yd} (h8:y.runs.length≤8) (h:(y.runs.map (·.id)).Nodup) {e:En} {r:Rn} {t:Nat} {x:Tk} (hr:r∈y.runs) (h1:e.run=r.id) (h2:e.task=t) (hx:r.tasks[t]?=some x):jU y e=(x.state==2):=by
 obtain ⟨k,hk⟩:=List.getElem?_of_mem hr;have:=joC h8 h hk;rw [←h1] at this
 have ht:zF y e.run e.task=some x:=by
  unfold zF;simp only [this,h2,Int.toNat_natCast,hk];simp [hx]
 simp [jU,ht]
theorem tinL_mem {s:Int} {ts:List Tk} {v:Int}:v∈qM s ts↔∃(t:Nat) (x:Tk),v=t∧ts[t]?=some x∧x.state=s:=by
 simp only [qM,vO,List.mem_map,List.mem_filter,List.mem_range];constructor
 ·rintro ⟨j,⟨hj,hs⟩,rfl⟩
  have hx:ts[j]?=some ts[j]:=List.getElem?_eq_getElem hj;rw [kw hx] at hs;exact ⟨j,_,rfl,hx,by simpa using hs⟩
 ·rintro ⟨t,x,rfl,hx,hs⟩
  exact ⟨t,⟨(List.getElem?_eq_some_iff.1 hx).1,by rw [kw hx,hs];simp⟩,rfl⟩
theorem jbM (p:Nat→Bool) (n:Nat):(((List.range n).filter p).map fun (j:Nat)=>(j:Int)).Nodup:=by
 have h:((List.range n).filter p).Pairwise (· ≠ ·):=List.Pairwise.filter _ (List.nodup_range (n:=n))
 exact List.pairwise_map.2 (h.imp fun hab e=>hab (by omega))
theorem jkG (s:Int) (ts:List Tk):(qM s ts).Nodup:=jbM _ _
def jdH (rs:List Rn):List (Int×Int):=rs.flatMap fun r=>(qM 2 r.tasks).map fun t=>(r.id,t)
theorem jrQ (rs:List Rn):(jdH rs).length=jbL rs:=by
 induction rs with
 |nil=>rfl
 |cons r rs ih=>simp only [jdH,jbL,vT,List.flatMap_cons,List.length_append,List.length_map,List.map_cons,List.sum_cons,cS] at ih⊢;rw [ih]
theorem readyK_mem {rs:List Rn} {a b:Int}:(a,b)∈jdH rs↔∃r∈rs,∃(t:Nat) (x:Tk),a=r.id∧b=t∧r.tasks[t]?=some x∧x.state=2:=by
 simp only [jdH,List.mem_flatMap,List.mem_map,tinL_mem,Prod.mk.injEq];constructor
 ·rintro ⟨r,hr,v,⟨t,x,rfl,hx,hs⟩,rfl,rfl⟩;exact ⟨r,hr,t,x,rfl,rfl,hx,hs⟩
 ·rintro ⟨r,hr,t,x,rfl,rfl,hx,hs⟩;exact ⟨r,hr,_,⟨t,x,rfl,hx,hs⟩,rfl,rfl⟩
theorem jhr:∀{rs:List Rn},(rs.map (·.id)).Nodup→(jdH rs).Nodup
 |[],_=>by simp [jdH]
 |r::rs,h=>by
  obtain ⟨h1,h2⟩:=List.nodup_cons.1 h;have ih:=jhr h2;simp only [jdH,List.flatMap_cons] at ih⊢;refine List.nodup_append.2 ⟨?_,ih,fun a ha b hb e=>?_⟩
  ·have:(qM 2 r.tasks).Pairwise (· ≠ ·):=jkG 2 r.tasks
   exact List.pairwise_map.2 (this.imp fun hab e=>hab (by simpa using e))
  ·subst e
   obtain ⟨t,_,rfl⟩:=List.mem_map.1 ha;obtain ⟨r',hr',_,_,he,_⟩:=readyK_mem.1 hb;exact h1 (List.mem_map.2 ⟨r',hr',he.symm⟩)
theorem jn6 {y:Yd} {q:Int} {L:List En} (h8:y.runs.length≤8) (hi:(y.runs.map (·.id)).Nodup) (h:EnsI y.runs q L):(L.filter (jU y)).length=jbL y.runs:=by
 have hmem:∀a b:Int,(a,b)∈(L.filter (jU y)).map (fun e=>(e.run,e.task))↔(a,b)∈jdH y.runs:=by
  intro a b;rw [readyK_mem];constructor
  ·intro hm
   obtain ⟨e,he,hab⟩:=List.mem_map.1 hm;obtain ⟨he1,he2⟩:=List.mem_filter.1 he;simp only [Prod.mk.injEq] at hab;obtain ⟨rfl,rfl⟩:=hab;obtain ⟨r,hr,t,x,h1,h2,h3,h4⟩:=h.own e he1;rw [jiJ h8 hi hr h1 h2 h3] at he2;exact ⟨r,hr,t,x,h1,h2,h3,by simpa using he2⟩
  ·rintro ⟨r,hr,t,x,rfl,rfl,hx,hs⟩
   have h1:=h.one r hr t x hx hs;have:0<(L.filter fun e=>e.run==r.id&&e.task==(t:Int)).length:=by simp only [zM] at h1;omega
   obtain ⟨e,he⟩:=List.exists_mem_of_length_pos this;obtain ⟨he1,he2⟩:=List.mem_filter.1 he;simp only [Bool.and_eq_true,beq_iff_eq] at he2;refine List.mem_map.2 ⟨e,List.mem_filter.2 ⟨he1,?_⟩,by simp [he2.1,he2.2]⟩
   rw [jiJ h8 hi hr he2.1 he2.2 hx,hs];rfl
 have hnd:((L.filter (jU y)).map fun e=>(e.run,e.task)).Nodup:=by
  rw [List.nodup_iff_count];rintro ⟨a,b⟩;by_cases hm:(a,b)∈jdH y.runs
  ·obtain ⟨r,hr,t,x,rfl,rfl,hx,hs⟩:=readyK_mem.1 hm
   have h1:=h.one r hr t x hx hs;rw [List.count_eq_countP,List.countP_map,List.countP_filter,List.countP_eq_length_filter];refine Nat.le_trans (Nat.le_of_eq ?_) (Nat.le_of_eq h1);simp only [zM]
   congr 1
   refine List.filter_congr fun e he=>?_
   simp only [Function.comp];by_cases h2:e.run=r.id∧e.task=t
   ·have:jU y e=true:=by rw [jiJ h8 hi hr h2.1 h2.2 hx,hs];rfl
    simp [h2.1,h2.2,this]
   ·have e1:((e.run,e.task)==(r.id,(t:Int)))=false:=by
     simp only [beq_eq_false_iff_ne,ne_eq,Prod.mk.injEq];exact h2
    have e2:(e.run==r.id&&e.task==(t:Int))=false:=by
     simp only [Bool.and_eq_false_iff,beq_eq_false_iff_ne,ne_eq];by_cases h3:e.run=r.id
     ·exact .inr fun h4=>h2 ⟨h3,h4⟩
     ·exact .inl h3
    rw [e1,e2];rfl
  ·rw [List.count_eq_zero.2 fun hm2=>hm ((hmem a b).1 hm2)];omega
 have hp:((L.filter (jU y)).map fun e=>(e.run,e.task)).Perm (jdH y.runs):=
  (List.perm_ext_iff_of_nodup hnd (jhr hi)).2 fun ⟨a,b⟩=>hmem a b
 have:=hp.length_eq;rw [List.length_map,jrQ] at this;exact this
theorem jbf {r:Rn} (h:RunOkP r):cS 2 r.tasks≤kK r:=by
 by_cases h0:cS 2 r.tasks=0
 ·omega
 ·have hsum:=jcg h.st _ (Nat.le_refl _)
  change cS 1 _+cS 2 _+cS 3 _+cS 4 _+cS 5 _+cS 6 _=_ at hsum;have hst:=h.state;have hl:=h.live
  have h1:r.state=1:=by
   rw [hst] at hl⊢;unfold jgo at hl⊢;rw [if_neg (by omega),if_neg (by omega),if_neg (by omega)] at hl⊢
   split at hl
   ·rename_i h;rw [if_pos h]
   ·exact absurd rfl hl
  rw [kK,if_pos h1];omega
theorem jdb:∀{rs:List Rn},(∀r∈rs,RunOkP r)→jbL rs≤vT kK rs
 |[],_=>by simp [jbL,vT]
 |r::rs,h=>by
  have h1:=jbf (h r (by simp))
  have h2:=jdb (rs:=rs) fun x hx=>h x (by simp [hx])
  simp only [jbL,vT,List.map_cons,List.sum_cons] at h2⊢;omega
theorem YdI.ok {y:Yd} (h:YdI y) (hq:y.seq≤1000000000):YardOkP y:=by
 have hf:=jn6 h.rns.eight h.rns.ids h.ens;have hrl:=jdb h.rns.right;have hroom:=h.room;have hlen:y.shelf.flatten.length≤40:=by omega
 refine ⟨h.now,⟨h.seq,hq⟩,h.four,h.rns.eight,fun l hl=>⟨?_,(h.sorted l hl).ahead⟩,⟨h.ens.range,h.ens.apart⟩,h.rns.right,fun k r hr=>joC h.rns.eight h.rns.ids hr,fun r hr t x hx=>⟨fun hs=>⟨fun e he h1 h2=>?_,h.ens.one r hr t x hx hs⟩,h.rns.til r hr t x hx⟩,?_⟩
 ·have:l.length≤y.shelf.flatten.length:=(List.sublist_flatten_of_mem hl).length_le
  omega
 ·obtain ⟨r',hr',t',x',h3,h4,h5,h6⟩:=h.ens.own e he
  have:r=r':=jiI h.rns.ids hr hr' (h1.symm.trans h3);subst this;obtain rfl:t=t':=by omega
  rw [hx] at h5;obtain rfl:=Option.some.inj h5;rcases h6 with h6|h6
  ·exact h6.2
  ·omega
 ·have hst:qs y (jaj y)+(y.shelf.flatten.filter (jU y)).length=y.shelf.flatten.length:=by
   simp only [qs,jaj,List.countP_eq_length_filter];have:=List.length_eq_countP_add_countP (jU y) (l:=y.shelf.flatten);simp only [List.countP_eq_length_filter] at this;have e:y.shelf.flatten.filter (fun e=>!jU y e)=y.shelf.flatten.filter (fun a=>decide ¬jU y a=true):=List.filter_congr fun a _=>by cases jU y a<;>rfl
   rw [e];omega
  simp only [kZ];omega
def jov:C:=iS [iA 2 (.box 27 4 (.t 0)),iA 3 (.box 60 11 (.t 1)),iA 4 (.alloc 27 [.int .i64 0,.int .i64 0,.slice none 0 0,.slice none 0 0]),iA 5 (.alloc 32 [.int .i64 0,.int .i64 0,.int .i64 0,.int .i64 0])] (.seq (iS [iA 8 (iT 11 3),iA 9 (.call 30 [.t 8]),iA 10 (iU 9)] (iD 10 (iS [iA 11 (iT 4 2),iA 12 (.call 61 [.t 11]),iA 13 (.bld [.int .i64 0,.int .i64 0,.int .i64 0,.int .i64 0] [(0,1,.c (.int .i64 5))]),iC (.st 4 [none,none,some (1,35),some (8,52)] (.t 4) (.t 12)),iC (.st 4 [none,none,none,none] (.t 5) (.t 13))] .ret) .skip)) (iS [iA 6 (.alloc 27 [.int .i64 0,.int .i64 0,.slice none 0 0,.slice none 0 0])] (iS [iA 7 (.alloc 32 [.int .i64 0,.int .i64 0,.int .i64 0,.int .i64 0])] (.seq (iS [iA 14 (iF 0 3),iA 15 (iL 14)] (.blk 0 (iS [iA 23 (iQ .eql 3 15 1),iA 22 (iM 23)] (iD 22 (.reg [iA 25 (iT 4 2),iA 26 (iF 1 3),iA 27 (iL 26),iA 28 (iF 2 3),iA 29 (iT 5 28),iA 30 (.call 44 [.t 25,.t 27,.t 29]),iA 24 (iM 30),iA 31 (iE 24 0),iA 32 (iE 24 1),iC (.st 4 [none,none,some (1,35),some (8,52)] (.t 6) (.t 31)),iA 33 (iF 0 7),iC (.st 1 [none] (.t 33) (.t 32))]) (iS [iA 35 (iQ .eql 3 15 2),iA 34 (iM 35)] (iD 34 (iS [iA 36 (iT 4 2),iA 37 (iF 9 3),iA 38 (iL 37),iA 39 (iF 10 3),iA 40 (iL 39),iA 41 (.call 14 [.t 36,.t 38,.t 40]),iA 42 (iE 41 0),iA 43 (iE 41 1),iC (.st 4 [none,none,some (1,35),some (8,52)] (.t 4) (.t 42)),iC (.st 4 [none,none,none,none] (.t 5) (.t 43))] .ret) (iS [iA 45 (iQ .eql 3 15 3),iA 44 (iM 45)] (iD 44 (.reg [iA 47 (iT 4 2),iA 48 (iF 1 3),iA 49 (iL 48),iA 50 (iF 7 3),iA 51 (iL 50),iA 52 (iF 8 3),iA 53 (iL 52),iA 54 (.call 55 [.t 47,.t 49,.t 51,.t 53]),iA 46 (iM 54),iA 55 (iE 46 0),iA 56 (iE 46 1),iC (.st 4 [none,none,some (1,35),some (8,52)] (.t 6) (.t 55)),iA 57 (iF 0 7),iC (.st 1 [none] (.t 57) (.t 56))]) (iS [iA 59 (iQ .eql 3 15 4),iA 58 (iM 59)] (iD 58 (.reg [iA 61 (iT 4 2),iA 62 (iF 1 3),iA 63 (iL 62),iA 64 (iF 7 3),iA 65 (iL 64),iA 66 (iF 8 3),iA 67 (iL 66),iA 68 (.call 56 [.t 61,.t 63,.t 65,.t 67]),iA 60 (iM 68),iA 69 (iE 60 0),iA 70 (iE 60 1),iC (.st 4 [none,none,some (1,35),some (8,52)] (.t 6) (.t 69)),iA 71 (iF 0 7),iC (.st 1 [none] (.t 71) (.t 70))]) (iS [iA 73 (iQ .eql 3 15 5),iA 72 (iM 73)] (iD 72 (.reg [iA 75 (iT 4 2),iA 76 (.call 51 [.t 75]),iA 74 (iM 76),iA 77 (iE 74 0),iA 78 (iE 74 1),iC (.st 4 [none,none,some (1,35),some (8,52)] (.t 6) (.t 77)),iA 79 (iF 0 7),iC (.st 1 [none] (.t 79) (.t 78))]) (iS [iA 81 (iQ .eql 3 15 6),iA 80 (iM 81)] (iD 80 (.reg [iA 83 (iT 4 2),iA 84 (iF 1 3),iA 85 (iL 84),iA 86 (.call 90 [.t 83,.t 85]),iA 82 (iM 86),iA 87 (iE 82 0),iA 88 (iE 82 1),iC (.st 4 [none,none,some (1,35),some (8,52)] (.t 6) (.t 87)),iA 89 (iF 0 7),iC (.st 1 [none] (.t 89) (.t 88))]) (iS [iA 91 (iQ .eql 3 15 7),iA 90 (iM 91)] (iD 90 (.reg [iA 93 (iT 4 2),iA 94 (iF 1 3),iA 95 (iL 94),iA 96 (.call 91 [.t 93,.t 95]),iA 92 (iM 96),iA 97 (iE 92 0),iA 98 (iE 92 1),iC (.st 4 [none,none,some (1,35),some (8,52)] (.t 6) (.t 97)),iA 99 (iF 0 7),iC (.st 1 [none] (.t 99) (.t 98))]) (iS [iA 16 (iT 4 2),iA 17 (.call 48 [.t 16]),iC (.st 4 [none,none,some (1,35),some (8,52)] (.t 6) (.t 17))] (iS [iA 18 (iT 4 2),iA 19 (.call 18 [.t 18]),iA 20 (iU 19)] (iD 20 (.reg [iA 21 (iF 0 7),iC (.st 1 [none] (.t 21) (.c (.int .i64 8)))]) .skip))))))))))))))))))) (.seq (.dreg (T.pure 0 (iA 100 (iT 4 6)) (T.pure 1 (iA 101 (iT 4 7)) (T.alt (iC (.st 4 [none,none,some (1,35),some (8,52)] (.t 4) (.t 100))) [1] (T.alt (iC (.st 4 [none,none,none,none] (.t 5) (.t 101))) [] T.done T.stop) T.stop)))) .ret)))))
theorem jok:fnC Tryz.prog Tryz.f29=some (jov,[.cell 4 true 4,.cell 5 true 4],102):=by kernel_rfl
def jot:C:=iS [iA 2 (.box 27 4 (.t 0)),iA 3 (.box 60 11 (.t 1)),iA 4 (.alloc 27 [.int .i64 0,.int .i64 0,.slice none 0 0,.slice none 0 0]),iA 5 (.alloc 32 [.int .i64 0,.int .i64 0,.int .i64 0,.int .i64 0])] (iS [iA 6 (iN 0)] (iS [iA 8 (.bld [.int .i64 0,.int .i64 0,.slice none 0 0,.slice none 0 0] []),iA 7 (.alloc 27 [.int .i64 0,.int .i64 0,.slice none 0 0,.slice none 0 0]),iC (.st 4 [none,none,some (1,35),some (8,52)] (.t 7) (.t 8))] (.seq (iS [iA 9 (iT 11 3),iA 10 (.call 147 [.t 9]),iA 11 (iU 10)] (iD 11 (iS [iA 12 (iT 4 2),iA 13 (.call 67 [.t 12]),iA 14 (.bld [.int .i64 0,.int .i64 0,.int .i64 0,.int .i64 0] [(0,1,.c (.int .i64 5))]),iC (.st 4 [none,none,some (1,35),some (8,52)] (.t 4) (.t 13)),iC (.st 4 [none,none,none,none] (.t 5) (.t 14))] .ret) .skip)) (.seq (iS [iA 15 (iF 0 3),iA 16 (iL 15)] (.blk 0 (iS [iA 23 (iQ .eql 3 16 1),iA 22 (iM 23)] (iD 22 (.reg [iA 25 (iT 4 2),iA 26 (iF 1 3),iA 27 (iL 26),iA 28 (iF 2 3),iA 29 (iT 5 28),iA 30 (.call 45 [.t 25,.t 27,.t 29]),iA 24 (iM 30),iA 31 (iE 24 0),iA 32 (iE 24 1),iC (.st 4 [none,none,some (1,35),some (8,52)] (.t 7) (.t 31)),iA 6 (iM 32)]) (iS [iA 34 (iQ .eql 3 16 2),iA 33 (iM 34)] (iD 33 (iS [iA 35 (iT 4 2),iA 36 (iF 9 3),iA 37 (iL 36),iA 38 (iF 10 3),iA 39 (iL 38),iA 40 (.call 15 [.t 35,.t 37,.t 39]),iA 41 (iE 40 0),iA 42 (iE 40 1),iC (.st 4 [none,none,some (1,35),some (8,52)] (.t 4) (.t 41)),iC (.st 4 [none,none,none,none] (.t 5) (.t 42))] .ret) (iS [iA 44 (iQ .eql 3 16 3),iA 43 (iM 44)] (iD 43 (.reg [iA 46 (iT 4 2),iA 47 (iF 1 3),iA 48 (iL 47),iA 49 (iF 7 3),iA 50 (iL 49),iA 51 (iF 8 3),iA 52 (iL 51),iA 53 (.call 148 [.t 46,.t 48,.t 50,.t 52]),iA 45 (iM 53),iA 54 (iE 45 0),iA 55 (iE 45 1),iC (.st 4 [none,none,some (1,35),some (8,52)] (.t 7) (.t 54)),iA 6 (iM 55)]) (iS [iA 57 (iQ .eql 3 16 4),iA 56 (iM 57)] (iD 56 (.reg [iA 59 (iT 4 2),iA 60 (iF 1 3),iA 61 (iL 60),iA 62 (iF 7 3),iA 63 (iL 62),iA 64 (iF 8 3),iA 65 (iL 64),iA 66 (.call 149 [.t 59,.t 61,.t 63,.t 65]),iA 58 (iM 66),iA 67 (iE 58 0),iA 68 (iE 58 1),iC (.st 4 [none,none,some (1,35),some (8,52)] (.t 7) (.t 67)),iA 6 (iM 68)]) (iS [iA 70 (iQ .eql 3 16 5),iA 69 (iM 70)] (iD 69 (.reg [iA 72 (iT 4 2),iA 73 (.call 52 [.t 72]),iA 71 (iM 73),iA 74 (iE 71 0),iA 75 (iE 71 1),iC (.st 4 [none,none,some (1,35),some (8,52)] (.t 7) (.t 74)),iA 6 (iM 75)]) (iS [iA 77 (iQ .eql 3 16 6),iA 76 (iM 77)] (iD 76 (.reg [iA 79 (iT 4 2),iA 80 (iF 1 3),iA 81 (iL 80),iA 82 (.call 150 [.t 79,.t 81]),iA 78 (iM 82),iA 83 (iE 78 0),iA 84 (iE 78 1),iC (.st 4 [none,none,some (1,35),some (8,52)] (.t 7) (.t 83)),iA 6 (iM 84)]) (iS [iA 86 (iQ .eql 3 16 7),iA 85 (iM 86)] (iD 85 (.reg [iA 88 (iT 4 2),iA 89 (iF 1 3),iA 90 (iL 89),iA 91 (.call 151 [.t 88,.t 90]),iA 87 (iM 91),iA 92 (iE 87 0),iA 93 (iE 87 1),iC (.st 4 [none,none,some (1,35),some (8,52)] (.t 7) (.t 92)),iA 6 (iM 93)]) (iS [iA 17 (iT 4 2),iA 18 (.call 49 [.t 17]),iC (.st 4 [none,none,some (1,35),some (8,52)] (.t 7) (.t 18))] (iS [iA 19 (iT 4 2),iA 20 (.call 66 [.t 19]),iA 21 (iU 20)] (iD 21 (.reg [iA 6 (iN 8)]) .skip))))))))))))))))))) (iS [iA 94 (iT 4 7),iA 95 (iM 6),iA 96 (.bld [.int .i64 0,.int .i64 0,.int .i64 0,.int .i64 0] [(0,1,.t 95)]),iC (.st 4 [none,none,some (1,35),some (8,52)] (.t 4) (.t 94)),iC (.st 4 [none,none,none,none] (.t 5) (.t 96))] .ret)))))
theorem joj:fnC Tryz.prog Tryz.f95=some (jot,[.cell 4 true 4,.cell 5 true 4],97):=by kernel_rfl
theorem jAY (y:Yd) (d:Dd) (ht:jJ y≤1900000) (hd:jhM d≤2000000):kj Tryz.prog 29 [.agg (jb y),.agg (jp d)] (.tup [(true,jb (doY y d)),(true,jgJ (doQ y d))]):=by
 refine jq Tryz.func29 jok (by simp) ?_
 unfold jov;have ht2:jJ y≤2000000:=by omega
 have ht3:jJ y≤1990000:=by omega
 have hpl:d.plan.edges.length≤4000000:=by simp only [jhM,jhL] at hd;omega
 simp only [go_sem,jb,jp,ja];intro b2 b3 b4 b5;refine jc (jl8 d hd) (by simp only [go_sem,jb,jp,ja,List.cons_append,List.nil_append]) fun η=>?_
 simp only [go_sem,jb,jp,ja,List.cons_append,List.nil_append];cases hk:kf d
 ·have hy:doY y d=y:=by rw [doY,if_pos hk]
  have hq:doQ y d=⟨5,0,0,0⟩:=by rw [doQ,if_pos hk]
  rw [hy,hq];simp only [go_sem,Bool.not_false,jb,jp,ja];refine jc (kn y ht2) (by simp only [go_sem,jb,jp,ja]) fun η=>?_
  simp only [go_sem,jb,jp,ja];simp only [ve];refine jt _ _ _ _ _ ?_;simp only [go_sem,jC,true_or];refine jt _ _ _ _ _ ?_;simp only [go_sem,jC,jW,jN,true_or,jb]
 have hk0:¬kf d=false:=by rw [hk];decide
 simp only [go_sem,Bool.not_true,jb,jp,ja];intro b6 b7;by_cases h1:d.kind=1
 ·have hy:doY y d=jeu y d.run d.plan:=by rw [doY,if_neg hk0,if_pos h1]
  have hq:doQ y d=⟨jdG y d.run d.plan,0,0,0⟩:=by rw [doQ,if_neg hk0,if_pos h1]
  have e1:(d.kind==1)=true:=by simp [h1]
  rw [hy,hq];simp only [go_sem,jb,jp,ja,e1];refine jc (jl3 y d.run d.plan ht2 hpl) (by simp only [go_sem,jb,jp,ja,e1]) fun η=>?_
  simp only [go_sem,jb,jp,ja,e1];simp only [ve];refine jt _ _ _ _ _ ?_;simp only [go_sem,jC,true_or];refine jt _ _ _ _ _ ?_;simp only [go_sem,jC,jW,jN,true_or,jb]
 have e1:(d.kind==1)=false:=by simp [h1]
 by_cases h2:d.kind=2
 ·have hy:doY y d=zQ y d.worker d.draw:=by rw [doY,if_neg hk0,if_neg h1,if_pos h2]
  have hq:doQ y d=jo9 y d.worker d.draw:=by rw [doQ,if_neg hk0,if_neg h1,if_pos h2]
  have e2:(d.kind==2)=true:=by simp [h2]
  rw [hy,hq];simp only [go_sem,jb,jp,ja,e1,e2];refine jc (jpe y d.worker d.draw ht2) (by simp only [go_sem,jb,jp,ja,e1,e2,jgJ]) fun η=>?_
  simp only [go_sem,jb,jp,ja,e1,e2,jgJ];simp only [ve];refine jt _ _ _ _ _ ?_;simp only [go_sem,jC,true_or];refine jt _ _ _ _ _ ?_;simp only [go_sem,jC,jW,jN,true_or,jb]
 have e2:(d.kind==2)=false:=by simp [h2]
 by_cases h3:d.kind=3
 ·have hy:doY y d=jcF y d.run d.task d.tri:=by rw [doY,if_neg hk0,if_neg h1,if_neg h2,if_pos h3]
  have hq:doQ y d=⟨jaV y d.run d.task d.tri,0,0,0⟩:=by rw [doQ,if_neg hk0,if_neg h1,if_neg h2,if_pos h3]
  have e3:(d.kind==3)=true:=by simp [h3]
  rw [hy,hq];simp only [go_sem,jb,jp,ja,e1,e2,e3];refine jc (jji y d.run d.task d.tri ht2) (by simp only [go_sem,jb,jp,ja,e1,e2,e3]) fun η=>?_
  simp only [go_sem,jb,jp,ja,e1,e2,e3];simp only [ve];refine jt _ _ _ _ _ ?_;simp only [go_sem,jC,true_or];refine jt _ _ _ _ _ ?_;simp only [go_sem,jC,jW,jN,true_or,jb]
 have e3:(d.kind==3)=false:=by simp [h3]
 by_cases h4:d.kind=4
 ·have hy:doY y d=jcD y d.run d.task d.tri:=by rw [doY,if_neg hk0,if_neg h1,if_neg h2,if_neg h3,if_pos h4]
  have hq:doQ y d=⟨jaV y d.run d.task d.tri,0,0,0⟩:=by rw [doQ,if_neg hk0,if_neg h1,if_neg h2,if_neg h3,if_pos h4]
  have e4:(d.kind==4)=true:=by simp [h4]
  rw [hy,hq];simp only [go_sem,jb,jp,ja,e1,e2,e3,e4];refine jc (jpf y d.run d.task d.tri ht2) (by simp only [go_sem,jb,jp,ja,e1,e2,e3,e4]) fun η=>?_
  simp only [go_sem,jb,jp,ja,e1,e2,e3,e4];simp only [ve];refine jt _ _ _ _ _ ?_;simp only [go_sem,jC,true_or];refine jt _ _ _ _ _ ?_;simp only [go_sem,jC,jW,jN,true_or,jb]
 have e4:(d.kind==4)=false:=by simp [h4]
 by_cases h5:d.kind=5
 ·have hy:doY y d=vE y:=by rw [doY,if_neg hk0,if_neg h1,if_neg h2,if_neg h3,if_neg h4,if_pos h5]
  have hq:doQ y d=⟨zE y,0,0,0⟩:=by rw [doQ,if_neg hk0,if_neg h1,if_neg h2,if_neg h3,if_neg h4,if_pos h5]
  have e5:(d.kind==5)=true:=by simp [h5]
  rw [hy,hq];simp only [go_sem,jb,jp,ja,e1,e2,e3,e4,e5];refine jc (jeD y ht3) (by simp only [go_sem,jb,jp,ja,e1,e2,e3,e4,e5]) fun η=>?_
  simp only [go_sem,jb,jp,ja,e1,e2,e3,e4,e5];simp only [ve];refine jt _ _ _ _ _ ?_;simp only [go_sem,jC,true_or];refine jt _ _ _ _ _ ?_;simp only [go_sem,jC,jW,jN,true_or,jb]
 have e5:(d.kind==5)=false:=by simp [h5]
 by_cases h6:d.kind=6
 ·have hy:doY y d=kQ y d.run:=by rw [doY,if_neg hk0,if_neg h1,if_neg h2,if_neg h3,if_neg h4,if_neg h5,if_pos h6]
  have hq:doQ y d=⟨qc y d.run,0,0,0⟩:=by rw [doQ,if_neg hk0,if_neg h1,if_neg h2,if_neg h3,if_neg h4,if_neg h5,if_pos h6]
  have e6:(d.kind==6)=true:=by simp [h6]
  rw [hy,hq];simp only [go_sem,jb,jp,ja,e1,e2,e3,e4,e5,e6];refine jc (jl9 y d.run ht2) (by simp only [go_sem,jb,jp,ja,e1,e2,e3,e4,e5,e6]) fun η=>?_
  simp only [go_sem,jb,jp,ja,e1,e2,e3,e4,e5,e6];simp only [ve];refine jt _ _ _ _ _ ?_;simp only [go_sem,jC,true_or];refine jt _ _ _ _ _ ?_;simp only [go_sem,jC,jW,jN,true_or,jb]
 have e6:(d.kind==6)=false:=by simp [h6]
 by_cases h7:d.kind=7
 ·have hy:doY y d=jau y d.run:=by rw [doY,if_neg hk0,if_neg h1,if_neg h2,if_neg h3,if_neg h4,if_neg h5,if_neg h6,if_pos h7]
  have hq:doQ y d=⟨jav y d.run,0,0,0⟩:=by rw [doQ,if_neg hk0,if_neg h1,if_neg h2,if_neg h3,if_neg h4,if_neg h5,if_neg h6,if_pos h7]
  have e7:(d.kind==7)=true:=by simp [h7]
  rw [hy,hq];simp only [go_sem,jb,jp,ja,e1,e2,e3,e4,e5,e6,e7];refine jc (jl7 y d.run ht2) (by simp only [go_sem,jb,jp,ja,e1,e2,e3,e4,e5,e6,e7]) fun η=>?_
  simp only [go_sem,jb,jp,ja,e1,e2,e3,e4,e5,e6,e7];simp only [ve];refine jt _ _ _ _ _ ?_;simp only [go_sem,jC,true_or];refine jt _ _ _ _ _ ?_;simp only [go_sem,jC,jW,jN,true_or,jb]
 have e7:(d.kind==7)=false:=by simp [h7]
 have hy:doY y d=zG y:=by rw [doY,if_neg hk0,if_neg h1,if_neg h2,if_neg h3,if_neg h4,if_neg h5,if_neg h6,if_neg h7]
 rw [hy];simp only [go_sem,jb,jp,ja,e1,e2,e3,e4,e5,e6,e7];refine jc (jaX y ht3) (by simp only [go_sem,jb,jp,ja,e1,e2,e3,e4,e5,e6,e7]) fun η=>?_
 simp only [go_sem,jb,jp,ja,e1,e2,e3,e4,e5,e6,e7];refine jc (kI y ht2) (by simp only [go_sem,jb,jp,ja,e1,e2,e3,e4,e5,e6,e7]) fun η=>?_
 simp only [go_sem,jb,jp,ja,e1,e2,e3,e4,e5,e6,e7];cases hok:jD y
 ·have hq:doQ y d=⟨8,0,0,0⟩:=by rw [doQ,if_neg hk0,if_neg h1,if_neg h2,if_neg h3,if_neg h4,if_neg h5,if_neg h6,if_neg h7,if_neg (by rw [hok];decide)]
  rw [hq];simp only [go_sem,Bool.not_false,jb];simp only [ve];refine jt _ _ _ _ _ ?_;simp only [go_sem,jC,true_or];refine jt _ _ _ _ _ ?_;simp only [go_sem,jC,jW,jN,true_or,jb]
 ·have hq:doQ y d=⟨0,0,0,0⟩:=by rw [doQ,if_neg hk0,if_neg h1,if_neg h2,if_neg h3,if_neg h4,if_neg h5,if_neg h6,if_neg h7,if_pos hok]
  rw [hq];simp only [go_sem,Bool.not_true,jb];simp only [ve];refine jt _ _ _ _ _ ?_;simp only [go_sem,jC,true_or];refine jt _ _ _ _ _ ?_;simp only [go_sem,jC,jW,jN,true_or,jb]
theorem jtY (y:Yd) (d:Dd) (ht:jJ y≤1900000) (hd:jhM d≤2000000):kj Tryz.prog 95 [.agg (jb y),.agg (jp d)] (.tup [(true,jb (doY y d)),(true,jgJ (doQ y d))]):=by
 refine jq Tryz.func95 joj (by simp) ?_
 unfold jot;have ht2:jJ y≤2000000:=by omega
 have ht3:jJ y≤1990000:=by omega
 have hpl:d.plan.edges.length≤4000000:=by simp only [jhM,jhL] at hd;omega
 simp only [go_sem,jb,jp,ja];intro b2 b3 b4 b5 b7;refine jc (jlX d hd) (by simp only [go_sem,jb,jp,ja,List.cons_append,List.nil_append]) fun η=>?_
 simp only [go_sem,jb,jp,ja,List.cons_append,List.nil_append];cases hk:kf d
 ·have hy:doY y d=y:=by rw [doY,if_pos hk]
  have hq:doQ y d=⟨5,0,0,0⟩:=by rw [doQ,if_pos hk]
  rw [hy,hq];simp only [go_sem,Bool.not_false,jb,jp,ja];refine jc (kx y ht2) (by simp only [go_sem,jb,jp,ja]) fun η=>?_
  simp only [go_sem,jb,jp,ja];simp only [ve];refine jt _ _ _ _ _ ?_;simp only [go_sem,jC,true_or];refine jt _ _ _ _ _ ?_;simp only [go_sem,jC,jW,jN,true_or,jb]
 have hk0:¬kf d=false:=by rw [hk];decide
 simp only [go_sem,Bool.not_true,jb,jp,ja];by_cases h1:d.kind=1
 ·have hy:doY y d=jeu y d.run d.plan:=by rw [doY,if_neg hk0,if_pos h1]
  have hq:doQ y d=⟨jdG y d.run d.plan,0,0,0⟩:=by rw [doQ,if_neg hk0,if_pos h1]
  have e1:(d.kind==1)=true:=by simp [h1]
  rw [hy,hq];simp only [go_sem,jb,jp,ja,e1];refine jc (jlS y d.run d.plan ht2 hpl) (by simp only [go_sem,jb,jp,ja,e1]) fun η=>?_
  simp only [go_sem,jb,jp,ja,e1];simp only [ve];refine jt _ _ _ _ _ ?_;simp only [go_sem,jC,true_or];refine jt _ _ _ _ _ ?_;simp only [go_sem,jC,jW,jN,true_or,jb]
 have e1:(d.kind==1)=false:=by simp [h1]
 by_cases h2:d.kind=2
 ·have hy:doY y d=zQ y d.worker d.draw:=by rw [doY,if_neg hk0,if_neg h1,if_pos h2]
  have hq:doQ y d=jo9 y d.worker d.draw:=by rw [doQ,if_neg hk0,if_neg h1,if_pos h2]
  have e2:(d.kind==2)=true:=by simp [h2]
  rw [hy,hq];simp only [go_sem,jb,jp,ja,e1,e2];refine jc (jpa y d.worker d.draw ht2) (by simp only [go_sem,jb,jp,ja,e1,e2,jgJ]) fun η=>?_
  simp only [go_sem,jb,jp,ja,e1,e2,jgJ];simp only [ve];refine jt _ _ _ _ _ ?_;simp only [go_sem,jC,true_or];refine jt _ _ _ _ _ ?_;simp only [go_sem,jC,jW,jN,true_or,jb]
 have e2:(d.kind==2)=false:=by simp [h2]
 by_cases h3:d.kind=3
 ·have hy:doY y d=jcF y d.run d.task d.tri:=by rw [doY,if_neg hk0,if_neg h1,if_neg h2,if_pos h3]
  have hq:doQ y d=⟨jaV y d.run d.task d.tri,0,0,0⟩:=by rw [doQ,if_neg hk0,if_neg h1,if_neg h2,if_pos h3]
  have e3:(d.kind==3)=true:=by simp [h3]
  rw [hy,hq];simp only [go_sem,jb,jp,ja,e1,e2,e3];refine jc (jjg y d.run d.task d.tri ht2) (by simp only [go_sem,jb,jp,ja,e1,e2,e3]) fun η=>?_
  simp only [go_sem,jb,jp,ja,e1,e2,e3];simp only [ve];refine jt _ _ _ _ _ ?_;simp only [go_sem,jC,true_or];refine jt _ _ _ _ _ ?_;simp only [go_sem,jC,jW,jN,true_or,jb]
 have e3:(d.kind==3)=false:=by simp [h3]
 by_cases h4:d.kind=4
 ·have hy:doY y d=jcD y d.run d.task d.tri:=by rw [doY,if_neg hk0,if_neg h1,if_neg h2,if_neg h3,if_pos h4]
  have hq:doQ y d=⟨jaV y d.run d.task d.tri,0,0,0⟩:=by rw [doQ,if_neg hk0,if_neg h1,if_neg h2,if_neg h3,if_pos h4]
  have e4:(d.kind==4)=true:=by simp [h4]
  rw [hy,hq];simp only [go_sem,jb,jp,ja,e1,e2,e3,e4];refine jc (jpb y d.run d.task d.tri ht2) (by simp only [go_sem,jb,jp,ja,e1,e2,e3,e4]) fun η=>?_
  simp only [go_sem,jb,jp,ja,e1,e2,e3,e4];simp only [ve];refine jt _ _ _ _ _ ?_;simp only [go_sem,jC,true_or];refine jt _ _ _ _ _ ?_;simp only [go_sem,jC,jW,jN,true_or,jb]
 have e4:(d.kind==4)=false:=by simp [h4]
 by_cases h5:d.kind=5
 ·have hy:doY y d=vE y:=by rw [doY,if_neg hk0,if_neg h1,if_neg h2,if_neg h3,if_neg h4,if_pos h5]
  have hq:doQ y d=⟨zE y,0,0,0⟩:=by rw [doQ,if_neg hk0,if_neg h1,if_neg h2,if_neg h3,if_neg h4,if_pos h5]
  have e5:(d.kind==5)=true:=by simp [h5]
  rw [hy,hq];simp only [go_sem,jb,jp,ja,e1,e2,e3,e4,e5];refine jc (jjf y ht3) (by simp only [go_sem,jb,jp,ja,e1,e2,e3,e4,e5]) fun η=>?_
  simp only [go_sem,jb,jp,ja,e1,e2,e3,e4,e5];simp only [ve];refine jt _ _ _ _ _ ?_;simp only [go_sem,jC,true_or];refine jt _ _ _ _ _ ?_;simp only [go_sem,jC,jW,jN,true_or,jb]
 have e5:(d.kind==5)=false:=by simp [h5]
 by_cases h6:d.kind=6
 ·have hy:doY y d=kQ y d.run:=by rw [doY,if_neg hk0,if_neg h1,if_neg h2,if_neg h3,if_neg h4,if_neg h5,if_pos h6]
  have hq:doQ y d=⟨qc y d.run,0,0,0⟩:=by rw [doQ,if_neg hk0,if_neg h1,if_neg h2,if_neg h3,if_neg h4,if_neg h5,if_pos h6]
  have e6:(d.kind==6)=true:=by simp [h6]
  rw [hy,hq];simp only [go_sem,jb,jp,ja,e1,e2,e3,e4,e5,e6];refine jc (jlY y d.run ht2) (by simp only [go_sem,jb,jp,ja,e1,e2,e3,e4,e5,e6]) fun η=>?_
  simp only [go_sem,jb,jp,ja,e1,e2,e3,e4,e5,e6];simp only [ve];refine jt _ _ _ _ _ ?_;simp only [go_sem,jC,true_or];refine jt _ _ _ _ _ ?_;simp only [go_sem,jC,jW,jN,true_or,jb]
 have e6:(d.kind==6)=false:=by simp [h6]
 by_cases h7:d.kind=7
 ·have hy:doY y d=jau y d.run:=by rw [doY,if_neg hk0,if_neg h1,if_neg h2,if_neg h3,if_neg h4,if_neg h5,if_neg h6,if_pos h7]
  have hq:doQ y d=⟨jav y d.run,0,0,0⟩:=by rw [doQ,if_neg hk0,if_neg h1,if_neg h2,if_neg h3,if_neg h4,if_neg h5,if_neg h6,if_pos h7]
  have e7:(d.kind==7)=true:=by simp [h7]
  rw [hy,hq];simp only [go_sem,jb,jp,ja,e1,e2,e3,e4,e5,e6,e7];refine jc (jlW y d.run ht2) (by simp only [go_sem,jb,jp,ja,e1,e2,e3,e4,e5,e6,e7]) fun η=>?_
  simp only [go_sem,jb,jp,ja,e1,e2,e3,e4,e5,e6,e7];simp only [ve];refine jt _ _ _ _ _ ?_;simp only [go_sem,jC,true_or];refine jt _ _ _ _ _ ?_;simp only [go_sem,jC,jW,jN,true_or,jb]
 have e7:(d.kind==7)=false:=by simp [h7]
 have hy:doY y d=zG y:=by rw [doY,if_neg hk0,if_neg h1,if_neg h2,if_neg h3,if_neg h4,if_neg h5,if_neg h6,if_neg h7]
 rw [hy];simp only [go_sem,jb,jp,ja,e1,e2,e3,e4,e5,e6,e7];refine jc (jdL y ht3) (by simp only [go_sem,jb,jp,ja,e1,e2,e3,e4,e5,e6,e7]) fun η=>?_
 simp only [go_sem,jb,jp,ja,e1,e2,e3,e4,e5,e6,e7];refine jc (qi y ht2) (by simp only [go_sem,jb,jp,ja,e1,e2,e3,e4,e5,e6,e7]) fun η=>?_
 simp only [go_sem,jb,jp,ja,e1,e2,e3,e4,e5,e6,e7];cases hok:jD y
 ·have hq:doQ y d=⟨8,0,0,0⟩:=by rw [doQ,if_neg hk0,if_neg h1,if_neg h2,if_neg h3,if_neg h4,if_neg h5,if_neg h6,if_neg h7,if_neg (by rw [hok];decide)]
  rw [hq];simp only [go_sem,Bool.not_false,jb];simp only [ve];refine jt _ _ _ _ _ ?_;simp only [go_sem,jC,true_or];refine jt _ _ _ _ _ ?_;simp only [go_sem,jC,jW,jN,true_or,jb]
 ·have hq:doQ y d=⟨0,0,0,0⟩:=by rw [doQ,if_neg hk0,if_neg h1,if_neg h2,if_neg h3,if_neg h4,if_neg h5,if_neg h6,if_neg h7,if_pos hok]
  rw [hq];simp only [go_sem,Bool.not_true,jb];simp only [ve];refine jt _ _ _ _ _ ?_;simp only [go_sem,jC,true_or];refine jt _ _ _ _ _ ?_;simp only [go_sem,jC,jW,jN,true_or,jb]
end Go.Proofs.YtcehjhiglmifjaaGreat
