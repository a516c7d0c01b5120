/- Parts. -/
import Derived.Test.YtmnpailnelmpiaaQNumP
set_option linter.unusedSimpArgs false
set_option linter.unusedVariables false
set_option maxHeartbeats 4000000
set_option maxRecDepth 100000
namespace Go.Proofs.Ytmnpailnelmpiaa
open Go.RowKit Go.Sort
theorem jjU (l:List En) (a b c d:Int):D.sl 4 tEn (l.flatMap jk++[.val (.int .i64 a),.val (.int .i64 b),.val (.int .i64 c),.val (.int .i64 d)])=js (l++[⟨a,b,c,d⟩]):=jml l ⟨a,b,c,d⟩
def jaD:C:=iS [iA 2 (.mov (.c (.slice none 0 0)))] (iS [iA 6 (.bsl 82 4 0 [] []),iA 3 (iM 6)] (iS [iA 7 (iM 0),iA 8 (.call 28 [.t 7]),iA 4 (iM 8)] (.seq (iS [iA 9 (iM 4),iA 10 (iQ .gtr 3 9 80)] (iD 10 (.reg [iA 11 (iM 0),iA 12 (iF 0 11),iA 13 (iF 2 12),iC (.st 1 [none] (.t 13) (.c (.bool true)))]) .skip)) (.seq (iS [iA 5 (iN 0)] (.blk 0 (.loop (.seq (iS [iA 14 (iM 5),iA 15 (iM 4),iA 16 (iP .lss 3 14 15),iA 17 (iM 16),iB 18 17 true (iM 0),iB 19 17 true (iF 0 18),iB 20 17 true (iF 2 19),iB 21 17 true (iL 20),iB 22 17 true (iU 21),iA 23 (.pick (.t 17) (.t 22) (.c (.bool false)))] (iD 23 .skip (.exit 0))) (.seq (.blk 1 (.reg [iA 26 (iM 3),iA 27 (iM 0),iA 28 (.call 28 [.t 27]),iA 29 (iM 0),iA 30 (.call 28 [.t 29]),iA 31 (iM 0),iA 32 (.call 28 [.t 31]),iA 33 (iM 0),iA 34 (.call 28 [.t 33]),iA 35 (.bld [.int .i64 0,.int .i64 0,.int .i64 0,.int .i64 0] [(0,1,.t 28),(1,1,.t 30),(2,1,.t 32),(3,1,.t 34)]),iA 36 (.bsl 82 4 1 [none,none,none,none] [(0,4,.t 35)]),iA 37 (.app 82 4 32 (.t 26) (.t 36)),iA 3 (iM 37)])) (.reg [iA 24 (iM 5),iA 25 (iQ .add 3 24 1),iA 5 (iM 25)])))))) (iS [iA 38 (iM 3),iA 2 (iM 38)] .ret)))))
theorem jco:fnC Try.prog Try.f43=some (jaD,[.t 2],39):=by kernel_rfl
theorem jnX (t:ByteArray) (ht:t.size≤1000000000) (s:Int×Bool) (b:Nat) (o:Nat→Ob) (hs:s.1≤t.size) (ho:o 89=jK b 56 t s):
 Inl Try.prog 43 [Bx 89 b] o fun av o2=>∃(l:List En) (s':Int×Bool) (e:jm),rdSh (some 80) (kh t) (·.2) (fun s=>(s.1,true)) s=(l,s')∧s'.1≤t.size∧
  av=Hd 900000300 e∧o2 900000300=.loose (js l) e∧o2 89=jK b 56 t s'∧∀g,g<900000000→g≠89→o2 g=o g:=by
 refine jim (β:=9000000) [[1,1,1,1,1,0]] Try.func43 jco (by simp) ?_
 unfold jaD;simp only [C.ghs,C.ghAt,List.foldr];simp only [go_sem];intro e6;refine jl (jN t ht s b _ (by omega) (by simp only [go_sem,ho])) (by simp only [go_sem]) ?_
 have s1:=jL hs;have hm:=jjp t hs;generalize hq1:kh t s=q1 at*;obtain ⟨m,hm0⟩:=Int.eq_ofNat_of_zero_le hm.1;have hm1:=hm.2;rw [hm0] at hm1;have hm':q1.1=(m:Int):=hm0;obtain ⟨q1v,k5,b5⟩:=q1;dsimp only at hm' hm0 s1 hm;simp only [go_sem,hm'];by_cases hcap:(m:Int)>80
 ·have hcap':(80:Int)<(m:Int):=hcap
  have h0m:(0:Int)<(m:Int):=by omega
  have hst:kb (·.2) (ji9 (kh t)) m ([],(k5,true))=([],(k5,true)):=qy rfl _
  have hrd:rdSh (some 80) (kh t) (·.2) (fun s=>(s.1,true)) s=([],(k5,true)):=by
   simp only [rdSh,hq1,zb,hm',Int.toNat_natCast,if_pos hcap,hst]
  simp only [go_sem,hcap',jK];refine jag 1 ?_;simp only [go_sem,h0m,Bool.not_true];refine qW ?_;refine WkK.wk (s':=St.ofB [(0,Bx 89 b),(3,Hd 900000300 e6)] [(900000300,.loose (js []) e6)] 900000000 (fun j=>if j=89 then jK b 56 t (k5,true) else o j)) (jah [some 900000600] (by simp only [go_sem,ja0,jK]<;>and_intros<;>first|rfl|assumption|trivial) (fun j hj=>by by_cases e89:j=89<;>simp only [go_sem,e89,hj,if_true,if_false,ko hj 900000600 (by omega),ja0,jK]) (by decide)) ?_
  refine WkK.of ?_;simp only [go_sem];exact ⟨_,_,e6,hrd,s1,rfl,rfl,rfl,fun g g1 g3=>by simp only [g3,g1,ko g1 900000300 (by omega),if_true,if_false]⟩
 have hcap':¬(80:Int)<(m:Int):=hcap;simp only [go_sem,hcap'];refine jp (fun i:(Nat×List En×(Int×Bool))×jm=>St.ofB [(0,Bx 89 b),(3,Hd 900000300 i.2),(4,Ni m),(5,Ni i.1.1)] [(900000300,.loose (js i.1.2.1) i.2)] 900000000 (fun j=>if j=89 then jK b 56 t i.1.2.2 else o j)) (fun i=>RowsAt (·.2) (ji9 (kh t)) m (k5,b5) i.1.1 i.1.2.1 i.1.2.2∧i.1.2.2.1≤t.size) (fun i=>m-i.1.1) ((0,[],(k5,b5)),e6) (⟨RowsAt.start _ _,s1⟩) (jah [some 900000600] (by simp only [go_sem,ja0]<;>and_intros<;>first|rfl|assumption|trivial) (fun j hj=>by by_cases e89:j=89<;>simp only [go_sem,e89,hj,if_true,if_false,ko hj 900000600 (by omega),ja0]) (by decide)) ?_
 rintro ⟨⟨i,E,q⟩,e0⟩ ⟨hR,hq⟩;dsimp only at hR hq;have hle:=hR.le;have hlen:=hR.len;by_cases hlt:i<m;rotate_left
 ·have hlt':¬(i:Int)<(m:Int):=by omega
  have hst:=hR.stop (.inl (by omega))
  have hrd:rdSh (some 80) (kh t) (·.2) (fun s=>(s.1,true)) s=(E,q):=by
   simp only [rdSh,hq1,zb,hm',Int.toNat_natCast,if_neg hcap,hst]
  simp only [go_sem,hlt'];refine qW ?_;refine WkK.of ?_;simp only [go_sem];exact ⟨_,_,e0,hrd,hq,rfl,rfl,rfl,fun g g1 g3=>by simp only [g3,g1,ko g1 900000300 (by omega),if_true,if_false]⟩
 have hlt':(i:Int)<(m:Int):=by omega
 obtain ⟨k,bad⟩:=q;cases bad;rotate_left
 ·have hst:=hR.stop (.inr rfl)
  have hrd:rdSh (some 80) (kh t) (·.2) (fun s=>(s.1,true)) s=(E,(k,true)):=by
   simp only [rdSh,hq1,zb,hm',Int.toNat_natCast,if_neg hcap,hst]
  simp only [go_sem,hlt',jK,Bool.not_true];refine qW ?_;refine WkK.of ?_;simp only [go_sem];exact ⟨_,_,e0,hrd,hq,rfl,rfl,rfl,fun g g1 g3=>by simp only [g3,g1,ko g1 900000300 (by omega),if_true,if_false]⟩
 ·have hnx:=hR.next hlt rfl
  simp only [go_sem,hlt',jK,Bool.not_false];refine jl (jN t ht (k,false) b _ (by dsimp only;omega) (by simp only [go_sem,jK])) (by simp only [go_sem]) ?_
  have t1:=jL hq;simp only [ji9] at hnx;generalize hr1:kh t (k,false)=r1 at*;simp only [go_sem];refine jl (jN t ht r1.2 b _ (by omega) (by simp only [go_sem])) (by simp only [go_sem]) ?_
  have t2:=jL t1;generalize hr2:kh t r1.2=r2 at*;simp only [go_sem];refine jl (jN t ht r2.2 b _ (by omega) (by simp only [go_sem])) (by simp only [go_sem]) ?_
  have t3:=jL t2;generalize hr3:kh t r2.2=r3 at*;simp only [go_sem];refine jl (jN t ht r3.2 b _ (by omega) (by simp only [go_sem])) (by simp only [go_sem]) ?_
  have t4:=jL t3;generalize hr4:kh t r3.2=r4 at*;have hw:IntKind.i64.wrap ((i:Int)+1)=((i+1:Nat):Int):=ji (by omega) (by omega)
  have hm1:E.length+1≤maxLen:=by unfold maxLen;omega
  have hm2:(E.length+1)*32≤140737488355328:=by omega
  simp only [go_sem,hm1,hm2];intro e1 e2;exact ⟨((i+1,E++[⟨r1.1,r2.1,r3.1,r4.1⟩],r4.2),e2),⟨hnx,t4⟩,(jah [some 900003700] (by simp only [go_sem,jjU,hw,jK]<;>and_intros<;>first|rfl|assumption|trivial) (fun j hj=>by by_cases e89:j=89<;>simp only [go_sem,e89,hj,if_true,if_false,ko hj 900003700 (by omega),ko hj 900000300 (by omega),ko hj 900003600 (by omega),jjU,hw,jK]) (by decide)),by (try dsimp only);omega⟩
end Go.Proofs.Ytmnpailnelmpiaa
