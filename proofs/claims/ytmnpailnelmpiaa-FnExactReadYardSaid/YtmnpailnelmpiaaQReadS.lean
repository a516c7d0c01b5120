/- Parts. -/
import Derived.Test.YtmnpailnelmpiaaQNumZ
set_option linter.unusedSimpArgs false
set_option linter.unusedVariables false
set_option maxHeartbeats 8000000
set_option maxRecDepth 100000
namespace Go.Proofs.Ytmnpailnelmpiaa
open Go.RowKit Go.Sort
abbrev jrX (t:ByteArray):=rdSh (some 80) (kh t) (fun s:Int×Bool=>s.2) (fun s=>(s.1,true))
abbrev jpE (t:ByteArray):=rdRn (some 31) (some 12) (kh t) (fun s:Int×Bool=>s.2) (fun s=>(s.1,true))
def jaG:C:=iS [iA 2 (.alloc 42 [.int .i64 0,.int .i64 0,.slice none 0 0,.slice none 0 0]),iA 3 (iO false)] (.seq (iS [iA 9 (iM 0),iA 10 (.len true (.t 9)),iA 11 (iQ .gtr 3 10 60000)] (iD 11 (iS [iA 12 (.bld [.int .i64 0,.int .i64 0,.slice none 0 0,.slice none 0 0] []),iC (.st 4 [none,none,some (1,74),some (8,78)] (.t 2) (.t 12)),iA 3 (iO false)] .ret) .skip)) (iS [iA 13 (iM 0),iA 14 (.bld [.string ⟨⟨[]⟩⟩,.int .i64 0,.bool false] [(0,1,.t 13)]),iA 15 (.box 56 3 (.t 14)),iA 4 (iM 15)] (iS [iA 16 (iM 4),iA 17 (.call 28 [.t 16]),iA 18 (iM 4),iA 19 (.call 28 [.t 18]),iA 20 (.bld [.int .i64 0,.int .i64 0,.slice none 0 0,.slice none 0 0] [(0,1,.t 17),(1,1,.t 19)]),iA 5 (.alloc 42 [.int .i64 0,.int .i64 0,.slice none 0 0,.slice none 0 0]),iC (.st 4 [none,none,some (1,74),some (8,78)] (.t 5) (.t 20))] (.seq (iS [iA 6 (iN 0)] (.blk 0 (.loop (.seq (iS [iA 21 (iM 6),iA 22 (iQ .lss 3 21 4),iA 23 (iM 22),iB 24 23 true (iM 4),iB 25 23 true (iF 0 24),iB 26 23 true (iF 2 25),iB 27 23 true (iL 26),iB 28 23 true (iU 27),iA 29 (.pick (.t 23) (.t 28) (.c (.bool false)))] (iD 29 .skip (.exit 0))) (.seq (.blk 1 (.dreg (T.pure 0 (iA 32 (iF 2 5)) (T.pure 1 (iA 33 (iL 32)) (T.pure 2 (iA 34 (iM 4)) (T.alt (iA 35 (.call 43 [.t 34])) [1,0] (T.alt (iA 36 (.bsl 74 1 1 [some (4,82)] [(0,1,.t 35)])) [1,0] (T.alt (iA 37 (.app 74 1 24 (.t 33) (.t 36))) [] (T.pure 6 (iA 38 (iF 2 5)) (T.alt (iC (.st 1 [some (1,74)] (.t 38) (.t 37))) [] T.done T.stop)) T.stop) T.stop) T.stop)))))) (.reg [iA 30 (iM 6),iA 31 (iQ .add 3 30 1),iA 6 (iM 31)])))))) (iS [iA 39 (iM 4),iA 40 (.call 28 [.t 39]),iA 7 (iM 40)] (.seq (iS [iA 41 (iM 7),iA 42 (iQ .gtr 3 41 8)] (iD 42 (.reg [iA 43 (iM 4),iA 44 (iF 0 43),iA 45 (iF 2 44),iC (.st 1 [none] (.t 45) (.c (.bool true)))]) .skip)) (.seq (iS [iA 8 (iN 0)] (.blk 2 (.loop (.seq (iS [iA 46 (iM 8),iA 47 (iM 7),iA 48 (iP .lss 3 46 47),iA 49 (iM 48),iB 50 49 true (iM 4),iB 51 49 true (iF 0 50),iB 52 49 true (iF 2 51),iB 53 49 true (iL 52),iB 54 49 true (iU 53),iA 55 (.pick (.t 49) (.t 54) (.c (.bool false)))] (iD 55 .skip (.exit 2))) (.seq (.blk 3 (.dreg (T.pure 0 (iA 58 (iF 3 5)) (T.pure 1 (iA 59 (iL 58)) (T.pure 2 (iA 60 (iM 4)) (T.alt (iA 61 (.call 44 [.t 60])) [1,0] (T.alt (iA 62 (.bsl 78 8 1 [none,none,none,none,none,some (2,103),none,some (4,84)] [(0,8,.t 61)])) [1,0] (T.alt (iA 63 (.app 78 8 96 (.t 59) (.t 62))) [] (T.pure 6 (iA 64 (iF 3 5)) (T.alt (iC (.st 1 [some (8,78)] (.t 64) (.t 63))) [] T.done T.stop)) T.stop) T.stop) T.stop)))))) (.reg [iA 56 (iM 8),iA 57 (iQ .add 3 56 1),iA 8 (iM 57)])))))) (.seq (iS [iA 65 (iM 4),iA 66 (iF 0 65),iA 67 (iF 2 66),iA 68 (iL 67),iA 69 (iM 68),iB 70 69 false (iM 4),iB 71 69 false (iF 0 70),iB 72 69 false (iF 1 71),iB 73 69 false (iL 72),iB 74 69 false (iM 0),iB 75 69 false (.len true (.t 74)),iB 76 69 false (iP .neq 3 73 75),iA 77 (.pick (.t 69) (.c (.bool true)) (.t 76)),iA 78 (iM 77),iB 79 78 false (iT 4 5),iB 80 78 false (.call 45 [.t 79]),iB 81 78 false (iU 80),iA 82 (.pick (.t 78) (.c (.bool true)) (.t 81))] (iD 82 (iS [iA 83 (.bld [.int .i64 0,.int .i64 0,.slice none 0 0,.slice none 0 0] []),iC (.st 4 [none,none,some (1,74),some (8,78)] (.t 2) (.t 83)),iA 3 (iO false)] .ret) .skip)) (iS [iA 84 (iT 4 5),iC (.st 4 [none,none,some (1,74),some (8,78)] (.t 2) (.t 84)),iA 3 (iO true)] .ret)))))))))
theorem jcq:fnC Try.prog Try.f17=some (jaG,[.cell 2 true 4,.t 3],85):=by kernel_rfl
theorem jeZ (t:ByteArray) (ht:t.size≤1048576):kg Try.prog 17 [.c (.val (.string t))] (.tup [(true,jd (qI t).1),(false,[.val (.bool (qI t).2)])]):=by
 refine jeX [[1,1,1,0],[1,1,1,1],[1,1,1,1,1],[1,1,1,1,1,1,1],[1,1,1,1,1,1,1,1]] Try.func17 jcq (by simp) ?_
 unfold jaG;simp only [C.ghs,C.ghAt,List.foldr];simp only [go_sem];intro b2;by_cases hbig:(60000:Int)<(t.size:Int)
 ·have hr:qI t=(ydZ,false):=by rw [qI,if_pos (by omega)]
  rw [hr];simp only [go_sem,hbig,jd,jT,jH];refine vT _ _ _ _ _ ?_;simp only [go_sem,jd,jT,jH]
 have ht9:t.size≤1000000000:=by omega
 simp only [go_sem,hbig];intro b15;refine qW ?_;refine WkK.wk (s':=St.of [(0,.c (.v (.string t))),(2,Bx 200 b2),(4,Bx 89 b15)] [(200,ZYd b2 tYd),(89,jK b15 56 t (0,false))]) (jo [some 200,some 1500] (by simp only [go_sem,jK]<;>and_intros<;>first|rfl|assumption|trivial)) ?_
 refine WkK.of ?_;simp only [go_sem];refine jl (jN t ht9 (0,false) b15 _ (by dsimp only;omega) (by simp only [go_sem])) (by simp only [go_sem]) ?_
 have s1:=jL (t:=t) (s:=(0,false)) (by dsimp only;omega)
 generalize hq1:kh t (0,false)=q1 at*;simp only [go_sem];refine jl (jN t ht9 q1.2 b15 _ (by omega) (by simp only [go_sem])) (by simp only [go_sem]) ?_
 have s2:=jL s1;generalize hq2:kh t q1.2=q2 at*;simp only [go_sem];intro b5;refine qW (WkK.of ?_);refine jc3 (fun i:{i:(List (List En)×(Int×Bool))×jm//kb (·.2) (jrX t) 4 ([],q2.2)=i.1∧i.1.2.1≤t.size}=>St.of [(0,.c (.v (.string t))),(2,Bx 200 b2),(4,Bx 89 b15),(5,Bx 500 b5)] [(200,ZYd b2 tYd),(89,jK b15 56 t i.1.1.2),(500,.box b5 tYd [.a (.v (.int .i64 q1.1)),.a (.v (.int .i64 q2.1)),.own (kO i.1.1.1) i.1.2,.a (.v (.slice none 0 0))])]) ?_ ?_
 ·simp only [go_sem]
  refine jp (fun i:(Nat×List (List En)×(Int×Bool))×jm=>St.of [(0,.c (.v (.string t))),(2,Bx 200 b2),(4,Bx 89 b15),(5,Bx 500 b5),(6,Ni i.1.1)] [(200,ZYd b2 tYd),(89,jK b15 56 t i.1.2.2),(500,.box b5 tYd [.a (.v (.int .i64 q1.1)),.a (.v (.int .i64 q2.1)),.own (kO i.1.2.1) i.2,.a (.v (.slice none 0 0))])]) (fun i=>RowsAt (·.2) (jrX t) 4 q2.2 i.1.1 i.1.2.1 i.1.2.2∧i.1.2.2.1≤t.size) (fun i=>4-i.1.1) ((0,[],q2.2),jad) (⟨RowsAt.start _ _,s2⟩) (jo [some 200,some 89,some 500] (by simp only [go_sem,jT]<;>and_intros<;>first|rfl|assumption|trivial)) ?_
  rintro ⟨⟨i,E,q⟩,e0⟩ ⟨hR,hq⟩;dsimp only at hR hq;have hle:=hR.le;have hlen:=hR.len;by_cases hlt:i<4;rotate_left
  ·have hlt':¬(i:Int)<4:=by omega
   have hst:=hR.stop (.inl (by omega))
   simp only [go_sem,hlt'];exact ⟨⟨((E,q),e0),hst,hq⟩,jo [some 200,some 89,some 500] (by simp only [go_sem]<;>and_intros<;>first|rfl|assumption|trivial)⟩
  have hlt':(i:Int)<4:=by omega
  obtain ⟨k,bad⟩:=q;cases bad;rotate_left
  ·have hst:=hR.stop (.inr rfl)
   simp only [go_sem,hlt',jK,Bool.not_true];exact ⟨⟨((E,(k,true)),e0),hst,hq⟩,jo [some 200,some 89,some 500] (by simp only [go_sem,jK]<;>and_intros<;>first|rfl|assumption|trivial)⟩
  ·have hnx:=hR.next hlt rfl
   simp only [go_sem,hlt',jK,Bool.not_false];refine vq (by simp only [go_sem]) (jnX t ht9 (k,false) b15 _ hq (by simp only [go_sem,jK])) fun av o' ⟨l,q',e',hsh,hq',hav,hx1,hx2,hk⟩=>?_
   subst hav;have k5:=hk 500 (by decide) (by decide)
   have k2:=hk 200 (by decide) (by decide)
   simp only [go_sem] at k5 k2;rw [show jrX t (k,false)=(l,q') from hsh] at hnx
   dsimp only at hnx;have hm1:i+1≤maxLen:=by unfold maxLen;omega
   have hm2:(i+1)*24≤140737488355328:=by omega
   have hw:IntKind.i64.wrap ((i:Int)+1)=((i+1:Nat):Int):=ji (by omega) (by omega)
   simp only [go_sem,k5,hx1,hlen,hm1,hm2,jrv];intro η7 η8;simp only [go_sem,hw];exact ⟨((i+1,E++[l],q'),η8),⟨hnx,hq'⟩,(jo [some 200,some 89,some 500] (by simp only [go_sem,k5,k2,hx2,jK]<;>and_intros<;>first|rfl|assumption|trivial)),by (try dsimp only);omega⟩
 rintro ⟨⟨⟨S,q⟩,e0⟩,hst1,hq⟩;dsimp only at hst1 hq;simp only [go_sem];refine jl (jN t ht9 q b15 _ (by omega) (by simp only [go_sem])) (by simp only [go_sem]) ?_
 have s3:=jL hq;have hm:=jjp t hq;generalize hq3:kh t q=q3 at*;obtain ⟨m,hm0⟩:=Int.eq_ofNat_of_zero_le hm.1;have hm1:=hm.2;rw [hm0] at hm1;have hm':q3.1=(m:Int):=hm0;obtain ⟨q3v,k3,b3⟩:=q3;dsimp only at hm' hm0 s3 hm;simp only [go_sem,hm'];by_cases hcap:(m:Int)>8
 ·have hcap':(8:Int)<(m:Int):=hcap
  have h0m:(0:Int)<(m:Int):=by omega
  have hst:kb (·.2) (jpE t) m ([],(k3,true))=([],(k3,true)):=qy rfl _
  have hn:nS t=(⟨q1.1,q2.1,S,[]⟩,(k3,true)):=by
   simp only [nS,rdYS,hq1,hq2,hst1,hq3,zb,hm',Int.toNat_natCast,if_pos hcap,hst]
  have hr:qI t=(ydZ,false):=by rw [qI,if_neg (by omega),hn];simp
  rw [hr];simp only [go_sem,hcap',jK];refine qW (WkK.of ?_);simp only [go_sem];refine jag 1 ?_;simp only [go_sem,h0m,Bool.not_true];refine qW (WkK.of ?_);simp only [go_sem,jd,jT,jH];refine vT _ _ _ _ _ ?_;simp only [go_sem,jd,jT,jH]
 have hcap':¬(8:Int)<(m:Int):=hcap;simp only [go_sem,hcap'];refine qW (WkK.of ?_);refine jc3 (fun i:{i:(List Rn×(Int×Bool))×jm//kb (·.2) (jpE t) m ([],(k3,b3))=i.1∧i.1.2.1≤t.size}=>St.of [(0,.c (.v (.string t))),(2,Bx 200 b2),(4,Bx 89 b15),(5,Bx 500 b5)] [(200,ZYd b2 tYd),(89,jK b15 56 t i.1.1.2),(500,jj2 b5 tYd q1.1 q2.1 S e0 i.1.1.1 i.1.2)]) ?_ ?_
 ·simp only [go_sem]
  refine jp (fun i:(Nat×List Rn×(Int×Bool))×jm=>St.of [(0,.c (.v (.string t))),(2,Bx 200 b2),(4,Bx 89 b15),(5,Bx 500 b5),(7,Ni m),(8,Ni i.1.1)] [(200,ZYd b2 tYd),(89,jK b15 56 t i.1.2.2),(500,jj2 b5 tYd q1.1 q2.1 S e0 i.1.2.1 i.2)]) (fun i=>RowsAt (·.2) (jpE t) m (k3,b3) i.1.1 i.1.2.1 i.1.2.2∧i.1.2.2.1≤t.size) (fun i=>m-i.1.1) ((0,[],(k3,b3)),jad) (⟨RowsAt.start _ _,s3⟩) (jo [some 200,some 89,some 500] (by simp only [go_sem,jH]<;>and_intros<;>first|rfl|assumption|trivial)) ?_
  rintro ⟨⟨i,E,q⟩,e1⟩ ⟨hR,hq⟩;dsimp only at hR hq;have hle:=hR.le;have hlen:=hR.len;by_cases hlt:i<m;rotate_left
  ·have hlt':¬(i:Int)<(m:Int):=by omega
   have hst:=hR.stop (.inl (by omega))
   simp only [go_sem,hlt'];exact ⟨⟨((E,q),e1),hst,hq⟩,jo [some 200,some 89,some 500] (by simp only [go_sem]<;>and_intros<;>first|rfl|assumption|trivial)⟩
  have hlt':(i:Int)<(m:Int):=by omega
  obtain ⟨k,bad⟩:=q;cases bad;rotate_left
  ·have hst:=hR.stop (.inr rfl)
   simp only [go_sem,hlt',jK,Bool.not_true];exact ⟨⟨((E,(k,true)),e1),hst,hq⟩,jo [some 200,some 89,some 500] (by simp only [go_sem,jK]<;>and_intros<;>first|rfl|assumption|trivial)⟩
  ·have hnx:=hR.next hlt rfl
   simp only [go_sem,hlt',jK,Bool.not_false];refine vq (by simp only [go_sem]) (jsr t ht9 (k,false) b15 _ hq (by simp only [go_sem,jK]) (by simp only [go_sem])) fun av o' ⟨r,q',f1,f2,b8,hrn,hq',hav,hx1,hx2,hk⟩=>?_
   subst hav;have k5:=hk 500 (by decide) (by decide)
   have k2:=hk 200 (by decide) (by decide)
   simp only [go_sem] at k5 k2;rw [show jpE t (k,false)=(r,q') from hrn] at hnx
   dsimp only at hnx;have hm1:i+1≤maxLen:=by unfold maxLen;omega
   have hm2:(i+1)*96≤140737488355328:=by omega
   have hw:IntKind.i64.wrap ((i:Int)+1)=((i+1:Nat):Int):=ji (by omega) (by omega)
   simp only [go_sem,k5,hx1,hlen,hm1,hm2,jko];intro η7 η8;simp only [go_sem,hw];exact ⟨((i+1,E++[r],q'),η8),⟨hnx,hq'⟩,(jo [some 200,some 89,some 500] (by simp only [go_sem,k5,k2,hx2,jK]<;>and_intros<;>first|rfl|assumption|trivial)),by (try dsimp only);omega⟩
 rintro ⟨⟨⟨R,q⟩,e1⟩,hst2,hq⟩;dsimp only at hst2 hq
 have hn:nS t=(⟨q1.1,q2.1,S,R⟩,q):=by
  simp only [nS,rdYS,hq1,hq2,hst1,hq3,zb,hm',Int.toNat_natCast,if_neg hcap,hst2]
 have htot:=jtk t;rw [hn] at htot;dsimp only at htot;obtain ⟨k,bad⟩:=q;cases bad;rotate_left
 ·have hr:qI t=(ydZ,false):=by rw [qI,if_neg (by omega),hn];simp
  rw [hr];simp only [go_sem,jK,jd,jT,jH];refine vT _ _ _ _ _ ?_;simp only [go_sem,jd,jT,jH]
 cases hk:k !=(t.size:Int);rotate_left
 ·have hr:qI t=(ydZ,false):=by
   rw [qI,if_neg (by omega),hn,if_pos]
   exact .inr (.inl (by simpa using hk))
  rw [hr];simp only [go_sem,hk,jK,jd,jT,jH];refine vT _ _ _ _ _ ?_;simp only [go_sem,jd,jT,jH]
 simp only [go_sem,hk,jK,jd];refine jb (jgQ ⟨q1.1,q2.1,S,R⟩ (by omega)) (by simp only [go_sem,jd]) fun η=>?_
 simp only [go_sem,jd];cases hok:jG ⟨q1.1,q2.1,S,R⟩
 ·have hr:qI t=(ydZ,false):=by
   rw [qI,if_neg (by omega),hn,if_pos]
   exact .inr (.inr hok)
  rw [hr];simp only [go_sem,hok,jd,jT,jH];refine vT _ _ _ _ _ ?_;simp only [go_sem,jd,jT,jH]
 ·have hr:qI t=(⟨q1.1,q2.1,S,R⟩,true):=by
   rw [qI,if_neg (by omega),hn,if_neg]
   rintro (g|g|g)
   ·cases g
   ·exact g (by simpa using hk)
   ·rw [hok] at g;cases g
  rw [hr];simp only [go_sem,hok,jd];refine vT _ _ _ _ _ ?_;simp only [go_sem,jd]
end Go.Proofs.Ytmnpailnelmpiaa
