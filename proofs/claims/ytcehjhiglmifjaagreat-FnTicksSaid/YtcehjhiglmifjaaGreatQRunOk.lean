/- Parts. -/
import Derived.Test.YtcehjhiglmifjaaGreatQRunP
set_option linter.unusedSimpArgs false
set_option linter.unusedVariables false
set_option maxHeartbeats 8000000
set_option maxRecDepth 100000
namespace Go.Proofs.YtcehjhiglmifjaaGreat
open Go.RowKit Go.Sort
def jbV:C:=iS [iA 2 (.box 49 5 (.t 0)),iA 4 (.mov (.c (.slice none 0 0)))] (iS [iA 8 (.bsl 3 1 0 [] []),iA 5 (iM 8)] (.seq (iS [iA 6 (iN 0)] (.blk 0 (.loop (.seq (iS [iA 9 (iM 6),iA 10 (iF 3 2),iA 11 (iL 10),iA 12 (iP .lss 3 9 11)] (iD 12 .skip (.exit 0))) (.seq (.blk 1 (iS [iA 7 (iN 0)] (.blk 2 (.loop (.seq (iS [iA 15 (iM 7),iA 16 (iF 4 2),iA 17 (iL 16),iA 18 (iG 17),iA 19 (iP .lss 3 15 18)] (iD 19 .skip (.exit 2))) (.seq (.blk 3 (iS [iA 22 (iF 4 2),iA 23 (iL 22),iA 24 (iM 7),iA 25 (iI 2 23 24),iA 26 (iF 0 25),iA 27 (iL 26),iA 28 (iM 6),iA 29 (iP .eql 3 27 28),iA 30 (iM 29),iB 31 30 true (iF 4 2),iB 32 30 true (iL 31),iB 33 30 true (iM 7),iB 34 30 true (iI 2 32 33),iB 35 30 true (iF 1 34),iB 36 30 true (iL 35),iB 37 30 true (iM 1),iB 38 30 true (iP .eql 3 36 37),iA 39 (.pick (.t 30) (.t 38) (.c (.bool false)))] (iD 39 (.reg [iA 40 (iM 5),iA 41 (iM 6),iA 42 (.bsl 3 1 1 [none] [(0,1,.t 41)]),iA 43 (.app 3 1 8 (.t 40) (.t 42)),iA 5 (iM 43)]) .skip))) (.reg [iA 20 (iM 7),iA 21 (iQ .add 3 20 1),iA 7 (iM 21)]))))))) (.reg [iA 13 (iM 6),iA 14 (iQ .add 3 13 1),iA 6 (iM 14)])))))) (iS [iA 44 (iM 5),iA 4 (iM 44)] .ret)))
theorem jeK:fnC Tryz.prog Tryz.f169=some (jbV,[.t 4],45):=by kernel_rfl
def jbU:C:=iS [iA 2 (.box 49 5 (.t 0)),iA 4 (.mov (.c (.slice none 0 0)))] (iS [iA 8 (.bsl 3 1 0 [] []),iA 5 (iM 8)] (.seq (iS [iA 6 (iN 0)] (.blk 0 (.loop (.seq (iS [iA 9 (iM 6),iA 10 (iF 3 2),iA 11 (iL 10),iA 12 (iP .lss 3 9 11)] (iD 12 .skip (.exit 0))) (.seq (.blk 1 (iS [iA 7 (iN 0)] (.blk 2 (.loop (.seq (iS [iA 15 (iM 7),iA 16 (iF 4 2),iA 17 (iL 16),iA 18 (iG 17),iA 19 (iP .lss 3 15 18)] (iD 19 .skip (.exit 2))) (.seq (.blk 3 (iS [iA 22 (iF 4 2),iA 23 (iL 22),iA 24 (iM 7),iA 25 (iI 2 23 24),iA 26 (iF 0 25),iA 27 (iL 26),iA 28 (iM 1),iA 29 (iP .eql 3 27 28),iA 30 (iM 29),iB 31 30 true (iF 4 2),iB 32 30 true (iL 31),iB 33 30 true (iM 7),iB 34 30 true (iI 2 32 33),iB 35 30 true (iF 1 34),iB 36 30 true (iL 35),iB 37 30 true (iM 6),iB 38 30 true (iP .eql 3 36 37),iA 39 (.pick (.t 30) (.t 38) (.c (.bool false)))] (iD 39 (.reg [iA 40 (iM 5),iA 41 (iM 6),iA 42 (.bsl 3 1 1 [none] [(0,1,.t 41)]),iA 43 (.app 3 1 8 (.t 40) (.t 42)),iA 5 (iM 43)]) .skip))) (.reg [iA 20 (iM 7),iA 21 (iQ .add 3 20 1),iA 7 (iM 21)]))))))) (.reg [iA 13 (iM 6),iA 14 (iQ .add 3 13 1),iA 6 (iM 14)])))))) (iS [iA 44 (iM 5),iA 4 (iM 44)] .ret)))
theorem jeJ:fnC Tryz.prog Tryz.f201=some (jbU,[.t 4],45):=by kernel_rfl
def jc6:C:=iS [iA 2 (.box 49 5 (.t 0)),iA 4 (.mov (.c (.slice none 0 0)))] (.seq (iS [iA 8 (iT 5 2),iA 9 (.call 109 [.t 8]),iA 10 (iQ .neq 3 9 0)] (iD 10 (iS [iA 4 (.mov (.c (.slice none 0 0)))] .ret) .skip)) (iS [iA 5 (.mov (.c (.slice none 0 0)))] (.seq (iS [iA 11 (iF 4 2),iA 12 (iL 11),iA 13 (iG 12),iA 14 (iN 0)] (.blk 0 (.loop (iS [iA 15 (iP .lss 3 14 13)] (.seq (iD 15 .skip (.exit 0)) (.seq (.blk 1 (iS [iA 16 (iI 2 12 14),iA 17 (iT 2 16),iA 7 (.alloc 161 [.int .i64 0,.int .i64 0]),iC (.st 2 [none,none] (.t 7) (.t 17))] (iS [iA 18 (iF 1 7),iA 19 (iL 18),iA 20 (iM 1),iA 21 (iP .eql 3 19 20)] (iD 21 (.reg [iA 22 (iM 5),iA 23 (iF 0 7),iA 24 (iL 23),iA 25 (.bsl 3 1 1 [none] [(0,1,.t 24)]),iA 26 (.app 3 1 8 (.t 22) (.t 25)),iA 5 (iM 26)]) .skip)))) (.reg [iA 27 (iQ .add 3 14 1),iA 14 (iM 27)]))))))) (iS [iA 28 (iM 5),iA 29 (.call 194 [.t 28])] (iS [iA 30 (iM 5),iA 4 (iM 30)] .ret)))))
theorem jfR:fnC Tryz.prog Tryz.f164=some (jc6,[.t 4],31):=by kernel_rfl
def jc5:C:=iS [iA 2 (.box 49 5 (.t 0)),iA 4 (.mov (.c (.slice none 0 0)))] (.seq (iS [iA 8 (iT 5 2),iA 9 (.call 109 [.t 8]),iA 10 (iQ .neq 3 9 0)] (iD 10 (iS [iA 4 (.mov (.c (.slice none 0 0)))] .ret) .skip)) (iS [iA 5 (.mov (.c (.slice none 0 0)))] (.seq (iS [iA 11 (iF 4 2),iA 12 (iL 11),iA 13 (iG 12),iA 14 (iN 0)] (.blk 0 (.loop (iS [iA 15 (iP .lss 3 14 13)] (.seq (iD 15 .skip (.exit 0)) (.seq (.blk 1 (iS [iA 16 (iI 2 12 14),iA 17 (iT 2 16),iA 7 (.alloc 161 [.int .i64 0,.int .i64 0]),iC (.st 2 [none,none] (.t 7) (.t 17))] (iS [iA 18 (iF 0 7),iA 19 (iL 18),iA 20 (iM 1),iA 21 (iP .eql 3 19 20)] (iD 21 (.reg [iA 22 (iM 5),iA 23 (iF 1 7),iA 24 (iL 23),iA 25 (.bsl 3 1 1 [none] [(0,1,.t 24)]),iA 26 (.app 3 1 8 (.t 22) (.t 25)),iA 5 (iM 26)]) .skip)))) (.reg [iA 27 (iQ .add 3 14 1),iA 14 (iM 27)]))))))) (iS [iA 28 (iM 5),iA 29 (.call 194 [.t 28])] (iS [iA 30 (iM 5),iA 4 (iM 30)] .ret)))))
theorem jfQ:fnC Tryz.prog Tryz.f174=some (jc5,[.t 4],31):=by kernel_rfl
theorem jlF (A:List Int):∀n:Nat,(jiY n A).length≤n*A.length
 |0=>by simp [jiY]
 |n+1=>by
  rw [jcj,List.length_append,List.length_replicate,Nat.succ_mul];have:=jlF A n;have:=List.count_le_length (a:=(n:Int)) (l:=A);omega
def jkT (F:List Ed→List Int) (es:List Ed) (x j:Nat):List Int:=jiY x (F es)++List.replicate ((F (es.take j)).count (x:Int)) (x:Int)
section
variable {F:List Ed→List Int} {es:List Ed} {x j:Nat}
theorem jxv (h:F []=[]):jkT F es x 0=jiY x (F es):=by simp [jkT,h]
theorem jqf:jkT F es x es.length=jiY (x+1) (F es):=by simp [jkT,jcj]
theorem jqd (h:(F (es.take (j+1))).count (x:Int)=(F (es.take j)).count (x:Int)+1):jkT F es x (j+1)=jkT F es x j++[(x:Int)]:=by simp only [jkT,h,List.replicate_succ',List.append_assoc]
theorem jlK (h:(F (es.take (j+1))).count (x:Int)=(F (es.take j)).count (x:Int)):jkT F es x (j+1)=jkT F es x j:=by simp only [jkT,h]
theorem jqe (hF:∀l:List Ed,(F l).length≤l.length) (hx:x≤12) (he:es.length≤30):(jkT F es x j).length≤1000:=by
 have h1:=jlF (F es) x;have h2:=List.count_le_length (a:=(x:Int)) (l:=F (es.take j));have h3:=hF es;have h4:=hF (es.take j);rw [List.length_take] at h4;have h5:x*(F es).length≤12*30:=Nat.mul_le_mul hx (by omega)
 simp only [jkT,List.length_append,List.length_replicate];omega
end
theorem jpR (l:List Ed) (t:Int):(jeY l t).length≤l.length:=by simp only [jeY,List.length_map];exact List.length_filter_le _ _
theorem jpP (l:List Ed) (t:Int):(jeX l t).length≤l.length:=by simp only [jeX,List.length_map];exact List.length_filter_le _ _
theorem jbN (p:Pl) (t:Int) (n:Nat) (hn:p.tasks=n) (h12:n≤12) (h30:p.edges.length≤30):kj Tryz.prog 169 [.agg (ja p),.c (.val (.int .i64 t))] (.c (jh (zt p t))):=by
 refine jq Tryz.func169 jeK (by simp) ?_
 unfold jbV;simp only [go_sem,ja];intro b η0;refine jn (fun i:Nat×js=>St.of [(1,Ni t),(2,Bx 200 b),(5,Hd 5 i.2),(6,Ni i.1)] [(200,Bi b _ (ja p)),(5,.loose (jh (jiY i.1 (jeY p.edges t))) i.2)]) (fun i=>i.1≤n) (fun i=>n-i.1) (0,η0) (by (try dsimp only);first|omega|(simp;done)|(and_intros<;>first|omega|simp)) (jg [some 200,some 800] (by simp only [go_sem,ja,jxs]<;>and_intros<;>first|rfl|assumption|trivial)) ?_
 rintro ⟨x,η1⟩ hx;dsimp only at hx;by_cases hlt:x<n
 ·have hlt':(x:Int)<n:=by omega
  have hw:IntKind.i64.wrap ((x:Int)+1)=((x+1:Nat):Int):=jf (by omega) (by omega)
  have h0:=jxv (F:=fun l=>jeY l t) (es:=p.edges) (x:=x) rfl
  have he:=jqf (F:=fun l=>jeY l t) (es:=p.edges) (x:=x)
  simp only [go_sem,ja,hn,hlt'];refine jn (fun i:Nat×js=>St.of [(1,Ni t),(2,Bx 200 b),(5,Hd 5 i.2),(6,Ni x),(7,Ni i.1)] [(200,Bi b _ (ja p)),(5,.loose (jh (jkT (fun l=>jeY l t) p.edges x i.1)) i.2)]) (fun i=>i.1≤p.edges.length) (fun i=>p.edges.length-i.1) (0,η1) (by (try dsimp only);first|omega|(simp;done)|(and_intros<;>first|omega|simp)) (jg [some 200,some 5] (by simp only [go_sem,ja,hn,h0]<;>and_intros<;>first|rfl|assumption|trivial)) ?_
  rintro ⟨j,η2⟩ hj;dsimp only at hj;by_cases hjt:j<p.edges.length
  ·have hjt':(j:Int)<p.edges.length:=by omega
   obtain ⟨e,hee⟩:=je hjt;have hwj:IntKind.i64.wrap ((j:Int)+1)=((j+1:Nat):Int):=jf (by omega) (by omega)
   have hc:=jsI hee x t;have hle:=jqe (F:=fun l=>jeY l t) (es:=p.edges) (x:=x) (j:=j) (fun l=>jpR l t) (by omega) h30
   have hm1:(jkT (fun l=>jeY l t) p.edges x j).length+1≤maxLen:=by unfold maxLen;omega
   have hm2:((jkT (fun l=>jeY l t) p.edges x j).length+1)*8≤140737488355328:=by omega
   by_cases h1:e.src=x
   ·by_cases h2:e.dst=t
    ·have hs:=jqd (F:=fun l=>jeY l t) (es:=p.edges) (x:=x) (j:=j) (by rw [hc,if_pos ⟨h1,h2⟩])
     have h1':(e.src==(x:Int))=true:=by simpa using h1
     have h2':(e.dst==t)=true:=by simpa using h2
     generalize jkT (fun l=>jeY l t) p.edges x j=R at*
     simp only [go_sem,ja,hn,hjt,hjt',jx hee,jO,h1',h2',hwj,hm1,hm2,vg];intro η3 η4;exact ⟨(j+1,η4),by (try dsimp only);first|omega|assumption|(and_intros<;>first|omega|assumption),(jg [some 200,some 4300] (by simp only [go_sem,ja,hn,hs]<;>and_intros<;>first|rfl|assumption|trivial)),by (try dsimp only);omega⟩
    ·have hs:=jlK (F:=fun l=>jeY l t) (es:=p.edges) (x:=x) (j:=j) (by rw [hc,if_neg (fun h=>h2 h.2)];rfl)
     have h1':(e.src==(x:Int))=true:=by simpa using h1
     have h2':(e.dst==t)=false:=by simpa using h2
     simp only [go_sem,ja,hn,hjt,hjt',jx hee,jO,h1',h2',hwj];exact ⟨(j+1,η2),by (try dsimp only);first|omega|assumption|(and_intros<;>first|omega|assumption),(jg [some 200,some 5] (by simp only [go_sem,ja,hn,hs]<;>and_intros<;>first|rfl|assumption|trivial)),by (try dsimp only);omega⟩
   ·have hs:=jlK (F:=fun l=>jeY l t) (es:=p.edges) (x:=x) (j:=j) (by rw [hc,if_neg (fun h=>h1 h.1)];rfl)
    have h1':(e.src==(x:Int))=false:=by simpa using h1
    simp only [go_sem,ja,hn,hjt,hjt',jx hee,jO,h1',hwj];exact ⟨(j+1,η2),by (try dsimp only);first|omega|assumption|(and_intros<;>first|omega|assumption),(jg [some 200,some 5] (by simp only [go_sem,ja,hn,hs]<;>and_intros<;>first|rfl|assumption|trivial)),by (try dsimp only);omega⟩
  ·have hjt':¬(j:Int)<p.edges.length:=by omega
   obtain rfl:j=p.edges.length:=by omega
   simp only [go_sem,ja,hn,hjt',hw];exact ⟨(x+1,η2),by (try dsimp only);first|omega|assumption|(and_intros<;>first|omega|assumption),(jg [some 200,some 5] (by simp only [go_sem,ja,hn,he]<;>and_intros<;>first|rfl|assumption|trivial)),by (try dsimp only);omega⟩
 ·have hlt':¬(x:Int)<n:=by omega
  obtain rfl:x=n:=by omega
  simp only [go_sem,ja,hn,hlt',zt,Int.toNat_natCast]
theorem jhO (p:Pl) (t:Int) (n:Nat) (hn:p.tasks=n) (h12:n≤12) (h30:p.edges.length≤30):kj Tryz.prog 201 [.agg (ja p),.c (.val (.int .i64 t))] (.c (jh (jbu p t))):=by
 refine jq Tryz.func201 jeJ (by simp) ?_
 unfold jbU;simp only [go_sem,ja];intro b η0;refine jn (fun i:Nat×js=>St.of [(1,Ni t),(2,Bx 200 b),(5,Hd 5 i.2),(6,Ni i.1)] [(200,Bi b _ (ja p)),(5,.loose (jh (jiY i.1 (jeX p.edges t))) i.2)]) (fun i=>i.1≤n) (fun i=>n-i.1) (0,η0) (by (try dsimp only);first|omega|(simp;done)|(and_intros<;>first|omega|simp)) (jg [some 200,some 800] (by simp only [go_sem,ja,jxs]<;>and_intros<;>first|rfl|assumption|trivial)) ?_
 rintro ⟨x,η1⟩ hx;dsimp only at hx;by_cases hlt:x<n
 ·have hlt':(x:Int)<n:=by omega
  have hw:IntKind.i64.wrap ((x:Int)+1)=((x+1:Nat):Int):=jf (by omega) (by omega)
  have h0:=jxv (F:=fun l=>jeX l t) (es:=p.edges) (x:=x) rfl
  have he:=jqf (F:=fun l=>jeX l t) (es:=p.edges) (x:=x)
  simp only [go_sem,ja,hn,hlt'];refine jn (fun i:Nat×js=>St.of [(1,Ni t),(2,Bx 200 b),(5,Hd 5 i.2),(6,Ni x),(7,Ni i.1)] [(200,Bi b _ (ja p)),(5,.loose (jh (jkT (fun l=>jeX l t) p.edges x i.1)) i.2)]) (fun i=>i.1≤p.edges.length) (fun i=>p.edges.length-i.1) (0,η1) (by (try dsimp only);first|omega|(simp;done)|(and_intros<;>first|omega|simp)) (jg [some 200,some 5] (by simp only [go_sem,ja,hn,h0]<;>and_intros<;>first|rfl|assumption|trivial)) ?_
  rintro ⟨j,η2⟩ hj;dsimp only at hj;by_cases hjt:j<p.edges.length
  ·have hjt':(j:Int)<p.edges.length:=by omega
   obtain ⟨e,hee⟩:=je hjt;have hwj:IntKind.i64.wrap ((j:Int)+1)=((j+1:Nat):Int):=jf (by omega) (by omega)
   have hc:=jsG hee x t;have hle:=jqe (F:=fun l=>jeX l t) (es:=p.edges) (x:=x) (j:=j) (fun l=>jpP l t) (by omega) h30
   have hm1:(jkT (fun l=>jeX l t) p.edges x j).length+1≤maxLen:=by unfold maxLen;omega
   have hm2:((jkT (fun l=>jeX l t) p.edges x j).length+1)*8≤140737488355328:=by omega
   by_cases h1:e.src=t
   ·by_cases h2:e.dst=x
    ·have hs:=jqd (F:=fun l=>jeX l t) (es:=p.edges) (x:=x) (j:=j) (by rw [hc,if_pos ⟨h1,h2⟩])
     have h1':(e.src==t)=true:=by simpa using h1
     have h2':(e.dst==(x:Int))=true:=by simpa using h2
     generalize jkT (fun l=>jeX l t) p.edges x j=R at*
     simp only [go_sem,ja,hn,hjt,hjt',jx hee,jO,h1',h2',hwj,hm1,hm2,vg];intro η3 η4;exact ⟨(j+1,η4),by (try dsimp only);first|omega|assumption|(and_intros<;>first|omega|assumption),(jg [some 200,some 4300] (by simp only [go_sem,ja,hn,hs]<;>and_intros<;>first|rfl|assumption|trivial)),by (try dsimp only);omega⟩
    ·have hs:=jlK (F:=fun l=>jeX l t) (es:=p.edges) (x:=x) (j:=j) (by rw [hc,if_neg (fun h=>h2 h.2)];rfl)
     have h1':(e.src==t)=true:=by simpa using h1
     have h2':(e.dst==(x:Int))=false:=by simpa using h2
     simp only [go_sem,ja,hn,hjt,hjt',jx hee,jO,h1',h2',hwj];exact ⟨(j+1,η2),by (try dsimp only);first|omega|assumption|(and_intros<;>first|omega|assumption),(jg [some 200,some 5] (by simp only [go_sem,ja,hn,hs]<;>and_intros<;>first|rfl|assumption|trivial)),by (try dsimp only);omega⟩
   ·have hs:=jlK (F:=fun l=>jeX l t) (es:=p.edges) (x:=x) (j:=j) (by rw [hc,if_neg (fun h=>h1 h.1)];rfl)
    have h1':(e.src==t)=false:=by simpa using h1
    simp only [go_sem,ja,hn,hjt,hjt',jx hee,jO,h1',hwj];exact ⟨(j+1,η2),by (try dsimp only);first|omega|assumption|(and_intros<;>first|omega|assumption),(jg [some 200,some 5] (by simp only [go_sem,ja,hn,hs]<;>and_intros<;>first|rfl|assumption|trivial)),by (try dsimp only);omega⟩
  ·have hjt':¬(j:Int)<p.edges.length:=by omega
   obtain rfl:j=p.edges.length:=by omega
   simp only [go_sem,ja,hn,hjt',hw];exact ⟨(x+1,η2),by (try dsimp only);first|omega|assumption|(and_intros<;>first|omega|assumption),(jg [some 200,some 5] (by simp only [go_sem,ja,hn,he]<;>and_intros<;>first|rfl|assumption|trivial)),by (try dsimp only);omega⟩
 ·have hlt':¬(x:Int)<n:=by omega
  obtain rfl:x=n:=by omega
  simp only [go_sem,ja,hn,hlt',jbu,Int.toNat_natCast]
theorem jct (p:Pl) (t:Int) (h0:jw p=0):kj Tryz.prog 164 [.agg (ja p),.c (.val (.int .i64 t))] (.c (jh (zt p t))):=by
 obtain ⟨n,hn,hn1,h12,h30,hes,hnd,-⟩:=jcb h0;refine jq Tryz.func164 jfR (by simp) ?_
 unfold jc6;simp only [go_sem,ja];intro b;refine jc (qg p (by omega)) (by simp only [go_sem,ja]) fun η=>?_
 simp only [go_sem,ja];simp only [go_sem,ja,h0,bne_self_eq_false];refine jn (fun i:Nat×js=>St.of [(1,Ni t),(5,Hd 5 i.2),(12,Ro (jy p.edges)),(13,Ni p.edges.length),(14,Ni i.1)] [(5,.loose (jh (jeY (p.edges.take i.1) t)) i.2)]) (fun i=>i.1≤p.edges.length) (fun i=>p.edges.length-i.1) (0,jcc) (by (try dsimp only);first|omega|(simp;done)|(and_intros<;>first|omega|simp)) (jg [none] (by simp only [go_sem,ja]<;>and_intros<;>first|rfl|assumption|trivial)) ?_
 rintro ⟨j,η2⟩ hj;dsimp only at hj;by_cases hjt:j<p.edges.length
 ·have hjt':(j:Int)<p.edges.length:=by omega
  obtain ⟨e,hee⟩:=je hjt;have hwj:IntKind.i64.wrap ((j:Int)+1)=((j+1:Nat):Int):=jf (by omega) (by omega)
  have hc:=joz hee t;have hle:=jpR (p.edges.take j) t;rw [List.length_take] at hle;generalize jeY (p.edges.take j) t=R at*;have hm1:R.length+1≤maxLen:=by unfold maxLen;omega
  have hm2:(R.length+1)*8≤140737488355328:=by omega
  by_cases h2:e.dst=t
  ·have h2':(e.dst==t)=true:=by simpa using h2
   rw [if_pos h2] at hc;simp only [go_sem,ja,hn,hjt,hjt',jx hee,jO];intro b2;simp only [go_sem,ja,hn,hjt,hjt',jx hee,jO,h2',hwj,hm1,hm2,vg];intro η3 η4;exact ⟨(j+1,η4),by (try dsimp only);first|omega|assumption|(and_intros<;>first|omega|assumption),(jg [some 2600] (by simp only [go_sem,ja,hn,hc]<;>and_intros<;>first|rfl|assumption|trivial)),by (try dsimp only);omega⟩
  ·have h2':(e.dst==t)=false:=by simpa using h2
   rw [if_neg h2,List.append_nil] at hc;simp only [go_sem,ja,hn,hjt,hjt',jx hee,jO];intro b2;simp only [go_sem,ja,hn,hjt,hjt',jx hee,jO,h2',hwj];exact ⟨(j+1,η2),by (try dsimp only);first|omega|assumption|(and_intros<;>first|omega|assumption),(jg [some 5] (by simp only [go_sem,ja,hn,hc]<;>and_intros<;>first|rfl|assumption|trivial)),by (try dsimp only);omega⟩
 ·have hjt':¬(j:Int)<p.edges.length:=by omega
  rw [List.take_of_length_le (by omega)]
  have hA:=jre hnd hes t;simp only [go_sem,ja,hn,hjt'];refine kV (jiH (jqJ (jeY p.edges t) (by omega) _ 5 η2 (by simp only [go_sem])) ?_)
  rintro av o' ⟨rfl,l,i,rfl,h1,h2⟩;obtain rfl:=jxr (jj1 hes t) h1 (by rw [h1.1.length_eq];exact h2)
  simp only [go_sem,jpY,zt,hn,Int.toNat_natCast]
theorem jjj (p:Pl) (t:Int) (h0:jw p=0):kj Tryz.prog 174 [.agg (ja p),.c (.val (.int .i64 t))] (.c (jh (jbu p t))):=by
 obtain ⟨n,hn,hn1,h12,h30,hes,hnd,-⟩:=jcb h0;refine jq Tryz.func174 jfQ (by simp) ?_
 unfold jc5;simp only [go_sem,ja];intro b;refine jc (qg p (by omega)) (by simp only [go_sem,ja]) fun η=>?_
 simp only [go_sem,ja];simp only [go_sem,ja,h0,bne_self_eq_false];refine jn (fun i:Nat×js=>St.of [(1,Ni t),(5,Hd 5 i.2),(12,Ro (jy p.edges)),(13,Ni p.edges.length),(14,Ni i.1)] [(5,.loose (jh (jeX (p.edges.take i.1) t)) i.2)]) (fun i=>i.1≤p.edges.length) (fun i=>p.edges.length-i.1) (0,jcc) (by (try dsimp only);first|omega|(simp;done)|(and_intros<;>first|omega|simp)) (jg [none] (by simp only [go_sem,ja]<;>and_intros<;>first|rfl|assumption|trivial)) ?_
 rintro ⟨j,η2⟩ hj;dsimp only at hj;by_cases hjt:j<p.edges.length
 ·have hjt':(j:Int)<p.edges.length:=by omega
  obtain ⟨e,hee⟩:=je hjt;have hwj:IntKind.i64.wrap ((j:Int)+1)=((j+1:Nat):Int):=jf (by omega) (by omega)
  have hc:=joy hee t;have hle:=jpP (p.edges.take j) t;rw [List.length_take] at hle;generalize jeX (p.edges.take j) t=R at*;have hm1:R.length+1≤maxLen:=by unfold maxLen;omega
  have hm2:(R.length+1)*8≤140737488355328:=by omega
  by_cases h2:e.src=t
  ·have h2':(e.src==t)=true:=by simpa using h2
   rw [if_pos h2] at hc;simp only [go_sem,ja,hn,hjt,hjt',jx hee,jO];intro b2;simp only [go_sem,ja,hn,hjt,hjt',jx hee,jO,h2',hwj,hm1,hm2,vg];intro η3 η4;exact ⟨(j+1,η4),by (try dsimp only);first|omega|assumption|(and_intros<;>first|omega|assumption),(jg [some 2600] (by simp only [go_sem,ja,hn,hc]<;>and_intros<;>first|rfl|assumption|trivial)),by (try dsimp only);omega⟩
  ·have h2':(e.src==t)=false:=by simpa using h2
   rw [if_neg h2,List.append_nil] at hc;simp only [go_sem,ja,hn,hjt,hjt',jx hee,jO];intro b2;simp only [go_sem,ja,hn,hjt,hjt',jx hee,jO,h2',hwj];exact ⟨(j+1,η2),by (try dsimp only);first|omega|assumption|(and_intros<;>first|omega|assumption),(jg [some 5] (by simp only [go_sem,ja,hn,hc]<;>and_intros<;>first|rfl|assumption|trivial)),by (try dsimp only);omega⟩
 ·have hjt':¬(j:Int)<p.edges.length:=by omega
  rw [List.take_of_length_le (by omega)]
  have hA:=jxd hnd hes t;simp only [go_sem,ja,hn,hjt'];refine kV (jiH (jqJ (jeX p.edges t) (by omega) _ 5 η2 (by simp only [go_sem])) ?_)
  rintro av o' ⟨rfl,l,i,rfl,h1,h2⟩;obtain rfl:=jxr (jmI hes t) h1 (by rw [h1.1.length_eq];exact h2)
  simp only [go_sem,jpY,jbu,hn,Int.toNat_natCast]
def jdX:C:=iS [iA 2 (.box 52 8 (.t 0)),iA 4 (iO false)] (iS [iA 9 (iF 7 2),iA 10 (iL 9),iA 11 (iM 1),iA 12 (iI 4 10 11),iA 13 (iT 4 12),iA 5 (.alloc 46 [.int .i64 0,.int .i64 0,.int .i64 0,.int .i64 0]),iC (.st 4 [none,none,none,none] (.t 5) (.t 13))] (iS [iA 6 (iN 0)] (iS [iA 14 (iF 1 2),iA 15 (iT 5 14),iA 16 (iM 1),iA 17 (.call 169 [.t 15,.t 16]),iA 7 (iM 17)] (.seq (iS [iA 8 (iN 0)] (.blk 0 (.loop (.seq (iS [iA 18 (iM 8),iA 19 (iM 7),iA 20 (iG 19),iA 21 (iP .lss 3 18 20)] (iD 21 .skip (.exit 0))) (.seq (.blk 1 (.seq (.dreg (T.pure 0 (iA 24 (iF 7 2)) (T.pure 1 (iA 25 (iL 24)) (T.pure 2 (iA 26 (iM 7)) (T.pure 3 (iA 27 (iM 8)) (T.pure 4 (iA 28 (iI 1 26 27)) (T.pure 5 (iA 29 (iL 28)) (T.pure 6 (iA 30 (iI 4 25 29)) (T.pure 7 (iA 31 (iF 0 30)) (T.pure 8 (iA 32 (iL 31)) (T.pure 9 (iA 33 (iQ .neq 3 32 4)) T.done))))))))))) (iD 33 (.reg [iA 34 (iM 6),iA 35 (iQ .add 3 34 1),iA 6 (iM 35)]) .skip))) (.reg [iA 22 (iM 8),iA 23 (iQ .add 3 22 1),iA 8 (iM 23)])))))) (.seq (iS [iA 36 (iF 1 5),iA 37 (iL 36),iA 38 (iM 6),iA 39 (iP .neq 3 37 38),iA 40 (iM 39),iB 41 40 false (iF 2 5),iB 42 40 false (iL 41),iB 43 40 false (iF 1 2),iB 44 40 false (iF 1 43),iB 45 40 false (iL 44),iB 46 40 false (.call 68 [.t 42,.c (.int .i64 0),.t 45]),iB 47 40 false (iU 46),iA 48 (.pick (.t 40) (.c (.bool true)) (.t 47))] (iD 48 (iS [iA 4 (iO false)] .ret) .skip)) (.seq (iS [iA 49 (iF 0 5),iA 50 (iL 49),iA 51 (iQ .eql 3 50 3),iA 52 (iM 51),iB 53 52 true (iF 3 5),iB 54 52 true (iL 53),iB 55 52 true (.call 68 [.t 54,.c (.int .i64 1),.c (.int .i64 1000000000)]),iB 56 52 true (iU 55),iA 57 (.pick (.t 52) (.t 56) (.c (.bool false))),iA 58 (iM 57),iB 59 58 false (iF 0 5),iB 60 58 false (iL 59),iB 61 58 false (iQ .neq 3 60 3),iB 62 58 false (iM 61),iB 63 62 true (iF 3 5),iB 64 62 true (iL 63),iB 65 62 true (iQ .neq 3 64 0),iB 66 58 false (.pick (.t 62) (.t 65) (.c (.bool false))),iA 67 (.pick (.t 58) (.c (.bool true)) (.t 66))] (iD 67 (iS [iA 4 (iO false)] .ret) .skip)) (.seq (iS [iA 68 (iF 0 5),iA 69 (iL 68)] (.blk 2 (iS [iA 71 (iQ .eql 3 69 1),iA 70 (iM 71)] (iD 70 (iS [iA 72 (iM 6),iA 73 (iQ .gtr 3 72 0),iA 4 (iM 73)] .ret) (iS [iA 75 (iQ .eql 3 69 2),iA 74 (iM 75)] (iD 74 (iS [iA 76 (iM 6),iA 77 (iQ .eql 3 76 0),iA 78 (iM 77),iB 79 78 true (iF 2 5),iB 80 78 true (iL 79),iB 81 78 true (iF 1 2),iB 82 78 true (iF 1 81),iB 83 78 true (iL 82),iB 84 78 true (iP .lss 3 80 83),iA 85 (.pick (.t 78) (.t 84) (.c (.bool false))),iA 4 (iM 85)] .ret) (.seq (iS [iA 87 (iQ .eql 3 69 3),iA 86 (iM 87)] (iD 86 .skip (iS [iA 88 (iQ .eql 3 69 4),iA 86 (iM 88)] (iD 86 .skip (.reg [iA 89 (iQ .eql 3 69 5),iA 86 (iM 89)]))))) (iD 86 (iS [iA 90 (iM 6),iA 91 (iQ .eql 3 90 0),iA 92 (iM 91),iB 93 92 true (iF 2 5),iB 94 92 true (iL 93),iB 95 92 true (iQ .geq 3 94 1),iA 96 (.pick (.t 92) (.t 95) (.c (.bool false))),iA 4 (iM 96)] .ret) .skip)))))))) (iS [iA 97 (iF 0 5),iA 98 (iL 97),iA 99 (iQ .eql 3 98 6),iA 4 (iM 99)] .ret))))))))
theorem jgQ:fnC Tryz.prog Tryz.f178=some (jdX,[.t 4],100):=by kernel_rfl
def jcN:C:=iS [iA 1 (.box 52 8 (.t 0)),iA 2 (iN 0)] (iS [iA 6 (.bsl 3 1 7 [none,none,none,none,none,none,none] [(0,1,.c (.int .i64 0)),(1,1,.c (.int .i64 0)),(2,1,.c (.int .i64 0)),(3,1,.c (.int .i64 0)),(4,1,.c (.int .i64 0)),(5,1,.c (.int .i64 0)),(6,1,.c (.int .i64 0))]),iA 3 (iM 6)] (.seq (iS [iA 4 (iN 0)] (.blk 0 (.loop (.seq (iS [iA 7 (iM 4),iA 8 (iF 7 1),iA 9 (iL 8),iA 10 (iG 9),iA 11 (iP .lss 3 7 10)] (iD 11 .skip (.exit 0))) (.seq (.blk 1 (.reg [iA 14 (iM 3),iA 15 (iF 7 1),iA 16 (iL 15),iA 17 (iM 4),iA 18 (iI 4 16 17),iA 19 (iF 0 18),iA 20 (iL 19),iA 21 (iI 1 14 20),iA 22 (iL 21),iA 23 (iQ .add 3 22 1),iA 24 (iI 1 14 20),iC (.st 1 [none] (.t 24) (.t 23))])) (.reg [iA 12 (iM 4),iA 13 (iQ .add 3 12 1),iA 4 (iM 13)])))))) (.seq (.dreg (T.pure 0 (iA 25 (iM 3)) (T.pure 1 (iA 26 (.ia 1 (.t 25) (.c (.int .i64 1)))) (T.pure 2 (iA 27 (iL 26)) (T.pure 3 (iA 28 (iM 3)) (T.pure 4 (iA 29 (.ia 1 (.t 28) (.c (.int .i64 2)))) (T.pure 5 (iA 30 (iL 29)) (T.pure 6 (iA 31 (iP .add 3 27 30)) (T.pure 7 (iA 32 (iM 3)) (T.pure 8 (iA 33 (.ia 1 (.t 32) (.c (.int .i64 3)))) (T.pure 9 (iA 34 (iL 33)) (T.pure 10 (iA 35 (iP .add 3 31 34)) (T.pure 11 (iA 5 (iM 35)) T.done))))))))))))) (.seq (.blk 2 (.seq (.dreg (T.pure 0 (iA 37 (iM 3)) (T.pure 1 (iA 38 (.ia 1 (.t 37) (.c (.int .i64 4)))) (T.pure 2 (iA 39 (iL 38)) (T.pure 3 (iA 40 (iF 7 1)) (T.pure 4 (iA 41 (iL 40)) (T.pure 5 (iA 42 (iG 41)) (T.pure 6 (iA 43 (iP .eql 3 39 42)) (T.pure 7 (iA 36 (iM 43)) T.done))))))))) (iD 36 (iS [iA 2 (iN 2)] .ret) (iS [iA 45 (iM 3),iA 46 (.ia 1 (.t 45) (.c (.int .i64 5))),iA 47 (iL 46),iA 48 (iQ .eql 3 47 1),iA 49 (iM 48),iB 50 49 true (iM 5),iB 51 49 true (iQ .eql 3 50 0),iA 52 (.pick (.t 49) (.t 51) (.c (.bool false))),iA 44 (iM 52)] (iD 44 (iS [iA 2 (iN 3)] .ret) (iS [iA 54 (iM 3),iA 55 (.ia 1 (.t 54) (.c (.int .i64 5))),iA 56 (iL 55),iA 57 (iQ .eql 3 56 0),iA 58 (iM 57),iB 59 58 true (iM 3),iB 60 58 true (.ia 1 (.t 59) (.c (.int .i64 6))),iB 61 58 true (iL 60),iB 62 58 true (iQ .gtr 3 61 0),iA 63 (.pick (.t 58) (.t 62) (.c (.bool false))),iA 64 (iM 63),iB 65 64 true (iM 5),iB 66 64 true (iQ .eql 3 65 0),iA 67 (.pick (.t 64) (.t 66) (.c (.bool false))),iA 53 (iM 67)] (iD 53 (iS [iA 2 (iN 4)] .ret) (iS [iA 69 (iM 3),iA 70 (.ia 1 (.t 69) (.c (.int .i64 5))),iA 71 (iL 70),iA 72 (iQ .eql 3 71 0),iA 73 (iM 72),iB 74 73 true (iM 3),iB 75 73 true (.ia 1 (.t 74) (.c (.int .i64 6))),iB 76 73 true (iL 75),iB 77 73 true (iQ .eql 3 76 0),iA 78 (.pick (.t 73) (.t 77) (.c (.bool false))),iA 68 (iM 78)] (iD 68 (iS [iA 2 (iN 1)] .ret) .skip))))))))) (iS [iA 2 (iN 0)] .ret)))))
theorem jfB:fnC Tryz.prog Tryz.f179=some (jcN,[.t 2],79):=by kernel_rfl
def jhC:C:=iS [iA 1 (.box 52 8 (.t 0)),iA 2 (iO false)] (.seq (iS [iA 5 (iF 0 1),iA 6 (iL 5),iA 7 (.call 68 [.t 6,.c (.int .i64 1),.c (.int .i64 9999)]),iA 8 (iU 7),iA 9 (iM 8),iB 10 9 false (iF 1 1),iB 11 9 false (iT 5 10),iB 12 9 false (.call 112 [.t 11]),iB 13 9 false (iQ .neq 3 12 0),iA 14 (.pick (.t 9) (.c (.bool true)) (.t 13)),iA 15 (iM 14),iB 16 15 false (iF 7 1),iB 17 15 false (iL 16),iB 18 15 false (iG 17),iB 19 15 false (iF 1 1),iB 20 15 false (iF 3 19),iB 21 15 false (iL 20),iB 22 15 false (iP .neq 3 18 21),iA 23 (.pick (.t 15) (.c (.bool true)) (.t 22))] (iD 23 (iS [iA 2 (iO false)] .ret) .skip)) (.seq (iS [iA 3 (iN 0)] (.blk 0 (.loop (.seq (iS [iA 24 (iM 3),iA 25 (iF 7 1),iA 26 (iL 25),iA 27 (iG 26),iA 28 (iP .lss 3 24 27)] (iD 28 .skip (.exit 0))) (.seq (.blk 1 (iS [iA 31 (iF 7 1),iA 32 (iL 31),iA 33 (iM 3),iA 34 (iI 4 32 33),iA 35 (iF 0 34),iA 36 (iL 35),iA 37 (.call 68 [.t 36,.c (.int .i64 1),.c (.int .i64 6)]),iA 38 (iU 37)] (iD 38 (iS [iA 2 (iO false)] .ret) .skip))) (.reg [iA 29 (iM 3),iA 30 (iQ .add 3 29 1),iA 3 (iM 30)])))))) (.seq (iS [iA 4 (iN 0)] (.blk 2 (.loop (.seq (iS [iA 39 (iM 4),iA 40 (iF 7 1),iA 41 (iL 40),iA 42 (iG 41),iA 43 (iP .lss 3 39 42)] (iD 43 .skip (.exit 2))) (.seq (.blk 3 (iS [iA 46 (iT 8 1),iA 47 (iM 4),iA 48 (.call 178 [.t 46,.t 47]),iA 49 (iU 48)] (iD 49 (iS [iA 2 (iO false)] .ret) .skip))) (.reg [iA 44 (iM 4),iA 45 (iQ .add 3 44 1),iA 4 (iM 45)])))))) (.seq (.dreg (T.pure 0 (iA 50 (iF 6 1)) (T.pure 1 (iA 51 (iL 50)) (T.pure 2 (iA 52 (iT 8 1)) (T.alt (iA 53 (.call 179 [.t 52])) [1,0] (T.pure 4 (iA 54 (iP .eql 3 51 53)) (T.pure 5 (iA 55 (iM 54)) (T.pure 6 (iB 56 55 true (iF 6 1)) (T.pure 7 (iB 57 55 true (iL 56)) (T.pure 8 (iB 58 55 true (iQ .neq 3 57 0)) (T.pure 9 (iA 59 (.pick (.t 55) (.t 58) (.c (.bool false)))) (T.pure 10 (iA 2 (iM 59)) T.done))))))) T.stop))))) .ret))))
theorem jjK:fnC Tryz.prog Tryz.f130=some (jhC,[.t 2],60):=by kernel_rfl
def jll (ts:List Tk) (l:List Int):Nat:=(l.filter fun b=>stT ts b !=4).length
theorem jq6 {ts:List Tk} {l:List Int} {k:Nat} {v:Int} {y:Tk} (hv:l[k]?=some v) (hy:ts[v.toNat]?=some y) (h:(y.state !=4)=true):jll ts (l.take (k+1))=jll ts (l.take k)+1:=by
 rw [List.take_add_one,hv];simp [jll,List.filter_append,jlE hy,h]
theorem ju3 {ts:List Tk} {l:List Int} {k:Nat} {v:Int} {y:Tk} (hv:l[k]?=some v) (hy:ts[v.toNat]?=some y) (h:(y.state !=4)=false):jll ts (l.take (k+1))=jll ts (l.take k):=by
 rw [List.take_add_one,hv];simp [jll,List.filter_append,jlE hy,h]
theorem ju4 (ts:List Tk) (l:List Int):jll ts l≤l.length:=List.length_filter_le _ _
theorem jvk {p:Pl} {n:Nat} (hn:p.tasks=n) {t v:Int} (h:v∈zt p t):0≤v∧v<n:=by
 have:=(je6 h).1;rw [hn,Int.toNat_natCast] at this;exact this
theorem jrd {p:Pl} {n:Nat} (hn:p.tasks=n) (h12:n≤12) (h30:p.edges.length≤30) (t:Int):(zt p t).length≤1000:=by
 have h1:=jlF (jeY p.edges t) p.tasks.toNat;have h3:=jpR p.edges t;have h5:p.tasks.toNat*(jeY p.edges t).length≤12*30:=Nat.mul_le_mul (by omega) (by omega)
 unfold zt;omega
theorem jpO {p:Pl} {n:Nat} (hn:p.tasks=n) {t v:Int} (h:v∈jbu p t):0≤v∧v<n:=by
 have:=(je6 h).1;rw [hn,Int.toNat_natCast] at this;exact this
theorem jrc {p:Pl} {n:Nat} (hn:p.tasks=n) (h12:n≤12) (h30:p.edges.length≤30) (t:Int):(jbu p t).length≤1000:=by
 have h1:=jlF (jeX p.edges t) p.tasks.toNat;have h3:=jpP p.edges t;have h5:p.tasks.toNat*(jeX p.edges t).length≤12*30:=Nat.mul_le_mul (by omega) (by omega)
 unfold jbu;omega
theorem jtd (s:Int):s=1∨s=2∨s=3∨s=4∨s=5∨s=6∨((s==1)=false∧(s==2)=false∧(s==3)=false∧(s==4)=false∧(s==5)=false∧(s==6)=false):=by
 by_cases h1:s=1; · simp [h1]
 by_cases h2:s=2; · simp [h2]
 by_cases h3:s=3; · simp [h3]
 by_cases h4:s=4; · simp [h4]
 by_cases h5:s=5; · simp [h5]
 by_cases h6:s=6; · simp [h6]
 simp [h1,h2,h3,h4,h5,h6]
theorem jj8 (r:Rn) (t:Nat) (x:Tk) (hx:r.tasks[t]?=some x) (h0:jw r.plan=0) (hlen:(r.tasks.length:Int)=r.plan.tasks):kj Tryz.prog 178 [.agg (jd r),.c (.val (.int .i64 t))] (.c (.val (.bool (jS r.plan r.tasks t x)))):=by
 obtain ⟨n,hn,hn1,h12,h30,hes,hnd,-⟩:=jcb h0;have htl:=(List.getElem?_eq_some_iff.1 hx).1;refine jq Tryz.func178 jgQ (by simp) ?_
 unfold jdX;have hbl:=jrd hn h12 h30 t;have h0t:(t:Int)≥0:=by omega
 simp only [go_sem,jd,ja,htl,h0t,jQ hx,jo];intro b b2;refine jc (jbN r.plan t n hn h12 h30) (by simp only [go_sem,jd,ja]) fun η=>?_
 simp only [go_sem,jd,ja];refine jn (fun i:Nat=>St.of [(2,Bx 200 b),(5,Bx 500 b2),(6,Ni (jll r.tasks ((zt r.plan t).take i))),(7,Hd 7 (η 0)),(8,Ni i)] [(200,Bi b _ (jd r)),(500,Bi b2 _ (jo x)),(7,.loose (jh (zt r.plan t)) (η 0))]) (fun i=>i≤(zt r.plan t).length) (fun i=>(zt r.plan t).length-i) 0 (by (try dsimp only);first|omega|(simp;done)|(and_intros<;>first|omega|simp)) (jg [some 200,some 500,some 1700] (by simp only [go_sem,jd,ja,jo,List.take_zero,jll,List.filter_nil,List.length_nil]<;>and_intros<;>first|rfl|assumption|trivial)) ?_
 rintro k hk;by_cases hlt:k<(zt r.plan t).length
 ·have hlt':(k:Int)<(zt r.plan t).length:=by omega
  obtain ⟨v,hv⟩:=je hlt;have hvb:=jvk hn (List.mem_of_getElem? hv);have hvl:v.toNat<r.tasks.length:=by omega
  have hv0:=hvb.1;obtain ⟨y,hy⟩:=je hvl;have hw:IntKind.i64.wrap ((k:Int)+1)=((k+1:Nat):Int):=jf (by omega) (by omega)
  have hcl:=ju4 r.tasks ((zt r.plan t).take k);rw [List.length_take] at hcl;have hw2:IntKind.i64.wrap ((jll r.tasks ((zt r.plan t).take k):Int)+1)=((jll r.tasks ((zt r.plan t).take k)+1:Nat):Int):=jf (by omega) (by omega)
  cases hc:y.state !=4
  ·have hs:=ju3 hv hy hc
   simp only [go_sem,jd,ja,hlt,hlt',jj hv,ji hlt,hvl,hv0,jQ hy,jo,hc,hw];exact ⟨k+1,by (try dsimp only);first|omega|assumption|(and_intros<;>first|omega|assumption),(jg [some 200,some 500,some 7] (by simp only [go_sem,jd,ja,jo,hs]<;>and_intros<;>first|rfl|assumption|trivial)),by (try dsimp only);omega⟩
  ·have hs:=jq6 hv hy hc
   simp only [go_sem,jd,ja,hlt,hlt',jj hv,ji hlt,hvl,hv0,jQ hy,jo,hc,hw,hw2];exact ⟨k+1,by (try dsimp only);first|omega|assumption|(and_intros<;>first|omega|assumption),(jg [some 200,some 500,some 7] (by simp only [go_sem,jd,ja,jo,hs]<;>and_intros<;>first|rfl|assumption|trivial)),by (try dsimp only);omega⟩
 have hlt':¬(k:Int)<(zt r.plan t).length:=by omega
 rw [List.take_of_length_le (by omega)]
 have hnd:jaD r.plan r.tasks t=(jll r.tasks (zt r.plan t):Int):=rfl;generalize jll r.tasks (zt r.plan t)=N at*;cases hne:x.need !=(N:Int);rotate_left
 ·have hb:jS r.plan r.tasks t x=false:=by
   have:¬x.need=N:=by simpa using hne
   simp [jS,hnd,this]
  simp only [go_sem,jd,ja,jo,hlt',hne,hb]
 have hne':x.need=N:=by simpa using hne
 simp only [go_sem,jd,ja,jo,hlt',hne];refine jc (jL x.tri 0 r.plan.most) (by simp only [go_sem,jd,ja,jo]) fun η=>?_
 simp only [go_sem,jd,ja,jo];cases htr:decide (0≤x.tri∧x.tri≤r.plan.most)
 ·have hb:jS r.plan r.tasks t x=false:=by simp [jS,inB,htr]
  simp only [go_sem,jd,ja,jo,hb]
 have htr':0≤x.tri∧x.tri≤r.plan.most:=by simpa using htr
 rcases jtd x.state with hs|hs|hs|hs|hs|hs|⟨s1,s2,s3,s4,s5,s6⟩
 ·cases ht:x.til !=0
  rotate_left
  ·have hb:jS r.plan r.tasks t x=false:=by
    have:¬x.til=0:=by simpa using ht
    simp [jS,ja6,hs,this]
   simp only [go_sem,jd,ja,jo,htr,hs,ht,hb]
  have ht':x.til=0:=by simpa using ht
  have hb:jS r.plan r.tasks t x=decide ((N:Int)>0):=by simp [jS,ja6,qT,inB,hs,hnd,hne',ht',htr']
  simp only [go_sem,jd,ja,jo,htr,hs,ht,hb]
 ·cases ht:x.til !=0
  rotate_left
  ·have hb:jS r.plan r.tasks t x=false:=by
    have:¬x.til=0:=by simpa using ht
    simp [jS,ja6,hs,this]
   simp only [go_sem,jd,ja,jo,htr,hs,ht,hb]
  have ht':x.til=0:=by simpa using ht
  cases hz:(N:Int)==0
  ·have hz':¬N=0:=by simpa using hz
   have hb:jS r.plan r.tasks t x=false:=by simp [jS,ja6,qT,inB,hs,hnd,hne',ht',htr',hz']
   simp only [go_sem,jd,ja,jo,htr,hs,ht,hz,hb]
  ·have hz':N=0:=by simpa using hz
   have hb:jS r.plan r.tasks t x=decide (x.tri<r.plan.most):=by simp [jS,ja6,qT,inB,hs,hnd,hne',ht',htr',hz']
   simp only [go_sem,jd,ja,jo,htr,hs,ht,hz,hb]
 ·simp only [go_sem,jd,ja,jo,htr,hs]
  refine jc (jL x.til 1 1000000000) (by simp only [go_sem,jd,ja,jo,hs]) fun η=>?_
  simp only [go_sem,jd,ja,jo,hs];cases ht:decide (1≤x.til∧x.til≤1000000000)
  ·have hb:jS r.plan r.tasks t x=false:=by simp [jS,ja6,inB,hs,ht]
   simp only [go_sem,jd,ja,jo,htr,hs,hb]
  have ht':1≤x.til∧x.til≤1000000000:=by simpa using ht
  cases hz:(N:Int)==0
  ·have hz':¬N=0:=by simpa using hz
   have hb:jS r.plan r.tasks t x=false:=by simp [jS,ja6,qT,inB,hs,hnd,hne',ht',htr',hz']
   simp only [go_sem,jd,ja,jo,htr,hs,ht,hz,hb]
  ·have hz':N=0:=by simpa using hz
   have hb:jS r.plan r.tasks t x=decide (x.tri≥1):=by simp [jS,ja6,qT,inB,hs,hnd,hne',ht',htr',hz']
   simp only [go_sem,jd,ja,jo,htr,hs,ht,hz,hb]
 ·cases ht:x.til !=0
  rotate_left
  ·have hb:jS r.plan r.tasks t x=false:=by
    have:¬x.til=0:=by simpa using ht
    simp [jS,ja6,hs,this]
   simp only [go_sem,jd,ja,jo,htr,hs,ht,hb]
  have ht':x.til=0:=by simpa using ht
  cases hz:(N:Int)==0
  ·have hz':¬N=0:=by simpa using hz
   have hb:jS r.plan r.tasks t x=false:=by simp [jS,ja6,qT,inB,hs,hnd,hne',ht',htr',hz']
   simp only [go_sem,jd,ja,jo,htr,hs,ht,hz,hb]
  ·have hz':N=0:=by simpa using hz
   have hb:jS r.plan r.tasks t x=decide (x.tri≥1):=by simp [jS,ja6,qT,inB,hs,hnd,hne',ht',htr',hz']
   simp only [go_sem,jd,ja,jo,htr,hs,ht,hz,hb]
 ·cases ht:x.til !=0
  rotate_left
  ·have hb:jS r.plan r.tasks t x=false:=by
    have:¬x.til=0:=by simpa using ht
    simp [jS,ja6,hs,this]
   simp only [go_sem,jd,ja,jo,htr,hs,ht,hb]
  have ht':x.til=0:=by simpa using ht
  cases hz:(N:Int)==0
  ·have hz':¬N=0:=by simpa using hz
   have hb:jS r.plan r.tasks t x=false:=by simp [jS,ja6,qT,inB,hs,hnd,hne',ht',htr',hz']
   simp only [go_sem,jd,ja,jo,htr,hs,ht,hz,hb]
  ·have hz':N=0:=by simpa using hz
   have hb:jS r.plan r.tasks t x=decide (x.tri≥1):=by simp [jS,ja6,qT,inB,hs,hnd,hne',ht',htr',hz']
   simp only [go_sem,jd,ja,jo,htr,hs,ht,hz,hb]
 ·cases ht:x.til !=0
  rotate_left
  ·have hb:jS r.plan r.tasks t x=false:=by
    have:¬x.til=0:=by simpa using ht
    simp [jS,ja6,hs,this]
   simp only [go_sem,jd,ja,jo,htr,hs,ht,hb]
  have ht':x.til=0:=by simpa using ht
  have hb:jS r.plan r.tasks t x=true:=by simp [jS,ja6,qT,inB,hs,hnd,hne',ht',htr']
  simp only [go_sem,jd,ja,jo,htr,hs,ht,hb]
 ·have hb:jS r.plan r.tasks t x=false:=by
   have h1:¬x.state=1:=by simpa using s1
   have h2:¬x.state=2:=by simpa using s2
   have h3:¬x.state=3:=by simpa using s3
   have h4:¬x.state=4:=by simpa using s4
   have h5:¬x.state=5:=by simpa using s5
   have h6:¬x.state=6:=by simpa using s6
   have:¬(1≤x.state∧x.state≤6):=by omega
   simp [jS,inB,this]
  have s3':(x.state !=3)=true:=by simp [bne,s3]
  cases ht:x.til !=0
  ·simp only [go_sem,jd,ja,jo,htr,s1,s2,s3,s3',s4,s5,s6,ht,hb]
  ·simp only [go_sem,jd,ja,jo,htr,s1,s2,s3,s3',s4,s5,s6,ht,hb]
theorem juz {a b:Nat} (h:((a:Int)==(b:Int))=true):a=b:=by have:=eq_of_beq h;omega
theorem juA {a b:Nat} (h:((a:Int)==(b:Int))=false):¬a=b:=by have:=ne_of_beq_false h;omega
def cN (ts:List Tk) (k:Nat):List Int:=(List.range 7).map fun (s:Nat)=>(((vO (s:Int) ts k).length:Nat):Int)
theorem jow (ts:List Tk) (k:Nat):(cN ts k).length=7:=by simp [cN]
theorem jep {ts:List Tk} {k s:Nat} (h:s<7):(cN ts k)[s]?=some (((vO (s:Int) ts k).length:Nat):Int):=by simp [cN,h]
theorem jzK {ts:List Tk} {k:Nat} {x:Tk} (hx:ts[k]?=some x) (h:1≤x.state∧x.state≤6):(cN ts k).set x.state.toNat (((vO x.state ts k).length+1:Nat):Int)=cN ts (k+1):=by
 apply List.ext_getElem?
 intro s;rw [List.getElem?_set,jow];by_cases e:x.state.toNat=s
 ·subst e
  rw [if_pos rfl,if_pos (by omega),jep (by omega),jch hx]
  have:((x.state.toNat:Nat):Int)=x.state:=by omega
  simp [this]
 ·rw [if_neg e]
  by_cases hs:s<7
  ·rw [jep hs,jep hs,jch hx,if_neg (by omega)];simp
  ·rw [List.getElem?_eq_none (by rw [jow];omega),List.getElem?_eq_none (by rw [jow];omega)]
theorem jcp (r:Rn) (hst:∀x∈r.tasks,1≤x.state∧x.state≤6) (hl:r.tasks.length≤2000000):kj Tryz.prog 179 [.agg (jd r)] (.c (.val (.int .i64 (jgo r.tasks)))):=by
 refine jq Tryz.func179 jfB (by simp) ?_
 unfold jcN;have hz:D.sl 1 jgn [.val (.int .i64 0),.val (.int .i64 0),.val (.int .i64 0),.val (.int .i64 0),.val (.int .i64 0),.val (.int .i64 0),.val (.int .i64 0)]=jh (cN r.tasks 0):=rfl;simp only [go_sem,jd,ja,hz];intro b η0;refine jn (fun i:Nat×js=>St.of [(1,Bx 100 b),(3,Hd 3 i.2),(4,Ni i.1)] [(100,Bi b _ (jd r)),(3,.loose (jh (cN r.tasks i.1)) i.2)]) (fun i=>i.1≤r.tasks.length) (fun i=>r.tasks.length-i.1) (0,η0) (by (try dsimp only);first|omega|(simp;done)|(and_intros<;>first|omega|simp)) (jg [some 100,some 600] (by simp only [go_sem,jd,ja]<;>and_intros<;>first|rfl|assumption|trivial)) ?_
 rintro ⟨k,η⟩ hk;dsimp only at hk;by_cases hlt:k<r.tasks.length
 ·have hlt':(k:Int)<r.tasks.length:=by omega
  obtain ⟨x,hx⟩:=je hlt;have hs:=hst x (List.mem_of_getElem? hx);have hs0:=hs.1;have hs1:x.state≥0:=by omega
  have hs2:0≤x.state:=by omega
  have hs7:x.state.toNat<7:=by omega
  have hsn:x.state.toNat<(cN r.tasks k).length:=by rw [jow];exact hs7
  have hw:IntKind.i64.wrap ((k:Int)+1)=((k+1:Nat):Int):=jf (by omega) (by omega)
  have hg:=jep (ts:=r.tasks) (k:=k) hs7;rw [show ((x.state.toNat:Nat):Int)=x.state by omega] at hg
  have hle:=vC x.state r.tasks k;have hw2:IntKind.i64.wrap (((vO x.state r.tasks k).length:Int)+1)=(((vO x.state r.tasks k).length+1:Nat):Int):=jf (by omega) (by omega)
  have hset:=jzK hx hs;generalize cN r.tasks k=L at*;simp only [go_sem,jd,ja,hlt,hlt',jQ hx,jo,hs1,hs2,hsn,jj hg,ji hsn,hw2,jbA _ hsn,hset,hw];exact ⟨(k+1,η),by (try dsimp only);first|omega|assumption|(and_intros<;>first|omega|assumption),(jg [some 100,some 3] (by simp only [go_sem,jd,ja]<;>and_intros<;>first|rfl|assumption|trivial)),by (try dsimp only);omega⟩
 have hlt':¬(k:Int)<r.tasks.length:=by omega
 obtain rfl:k=r.tasks.length:=by omega
 have hsum:=jcg hst r.tasks.length (Nat.le_refl _);have hdef:jgo r.tasks=if (vO 4 r.tasks r.tasks.length).length=r.tasks.length then 2 else if (vO 5 r.tasks r.tasks.length).length=1∧(vO 4 r.tasks r.tasks.length).length+(vO 5 r.tasks r.tasks.length).length+(vO 6 r.tasks r.tasks.length).length=r.tasks.length then 3 else if (vO 5 r.tasks r.tasks.length).length=0∧0<(vO 6 r.tasks r.tasks.length).length∧(vO 4 r.tasks r.tasks.length).length+(vO 5 r.tasks r.tasks.length).length+(vO 6 r.tasks r.tasks.length).length=r.tasks.length then 4 else if (vO 5 r.tasks r.tasks.length).length=0∧(vO 6 r.tasks r.tasks.length).length=0 then 1 else 0:=rfl
 have g1:(cN r.tasks r.tasks.length)[1]?=some (((vO 1 r.tasks r.tasks.length).length:Nat):Int):=jep (s:=1) (by omega)
 have g2:(cN r.tasks r.tasks.length)[2]?=some (((vO 2 r.tasks r.tasks.length).length:Nat):Int):=jep (s:=2) (by omega)
 have g3:(cN r.tasks r.tasks.length)[3]?=some (((vO 3 r.tasks r.tasks.length).length:Nat):Int):=jep (s:=3) (by omega)
 have g4:(cN r.tasks r.tasks.length)[4]?=some (((vO 4 r.tasks r.tasks.length).length:Nat):Int):=jep (s:=4) (by omega)
 have g5:(cN r.tasks r.tasks.length)[5]?=some (((vO 5 r.tasks r.tasks.length).length:Nat):Int):=jep (s:=5) (by omega)
 have g6:(cN r.tasks r.tasks.length)[6]?=some (((vO 6 r.tasks r.tasks.length).length:Nat):Int):=jep (s:=6) (by omega)
 have hcl:=jow r.tasks r.tasks.length;rw [hdef];generalize hL:r.tasks.length=len at*;generalize (vO 1 r.tasks len).length=c1 at*;generalize (vO 2 r.tasks len).length=c2 at*;generalize (vO 3 r.tasks len).length=c3 at*;generalize (vO 4 r.tasks len).length=c4 at*;generalize (vO 5 r.tasks len).length=c5 at*;generalize (vO 6 r.tasks len).length=c6 at*;generalize cN r.tasks len=L at*;clear hdef;have i1:1<L.length:=by omega
 have i2:2<L.length:=by omega
 have i3:3<L.length:=by omega
 have i4:4<L.length:=by omega
 have i5:5<L.length:=by omega
 have i6:6<L.length:=by omega
 have w12:IntKind.i64.wrap ((c1:Int)+c2)=((c1+c2:Nat):Int):=by rw [jf (by omega) (by omega)];omega
 have w123:IntKind.i64.wrap (((c1+c2:Nat):Int)+c3)=((c1+c2+c3:Nat):Int):=by rw [jf (by omega) (by omega)];omega
 simp only [go_sem,jd,ja,hL,hlt',i1,i2,i3,i4,i5,i6,jj g1,jj g2,jj g3,jj g4,jj g5,jj g6,ji i1,ji i2,ji i3,ji i4,ji i5,ji i6,w12,w123];cases hA:(c4:Int)==len;rotate_left
 ·have hA':c4=len:=juz hA
  rw [if_pos (by omega)]
  simp only [go_sem,jd,ja,hL,i1,i2,i3,i4,i5,i6,jj g1,jj g2,jj g3,jj g4,jj g5,jj g6,ji i1,ji i2,ji i3,ji i4,ji i5,ji i6,w12,w123,hA]
 have hA':¬c4=len:=juA hA;cases hB:(c5:Int)==1;rotate_left
 ·have hB':c5=1:=juz hB
  have hB0:((c5:Int)==0)=false:=by rw [hB'];rfl
  cases hR:((c1+c2+c3:Nat):Int)==0
  ·have hR':¬c1+c2+c3=0:=juA hR
   rw [if_neg (by omega),if_neg (by omega),if_neg (by omega),if_neg (by omega)]
   simp only [go_sem,jd,ja,hL,i1,i2,i3,i4,i5,i6,jj g1,jj g2,jj g3,jj g4,jj g5,jj g6,ji i1,ji i2,ji i3,ji i4,ji i5,ji i6,w12,w123,hA,hB,hB0,hR]
  ·have hR':c1+c2+c3=0:=juz hR
   rw [if_neg (by omega),if_pos (by omega)]
   simp only [go_sem,jd,ja,hL,i1,i2,i3,i4,i5,i6,jj g1,jj g2,jj g3,jj g4,jj g5,jj g6,ji i1,ji i2,ji i3,ji i4,ji i5,ji i6,w12,w123,hA,hB,hR]
 have hB':¬c5=1:=juA hB;cases hC:(c5:Int)==0
 ·have hC':¬c5=0:=juA hC
  rw [if_neg (by omega),if_neg (by omega),if_neg (by omega),if_neg (by omega)]
  simp only [go_sem,jd,ja,hL,i1,i2,i3,i4,i5,i6,jj g1,jj g2,jj g3,jj g4,jj g5,jj g6,ji i1,ji i2,ji i3,ji i4,ji i5,ji i6,w12,w123,hA,hB,hC]
 have hC':c5=0:=juz hC;by_cases h6:0<c6
 ·have h6':(c6:Int)>0:=by omega
  have h60:((c6:Int)==0)=false:=by simp only [beq_eq_false_iff_ne,ne_eq];omega
  cases hR:((c1+c2+c3:Nat):Int)==0
  ·have hR':¬c1+c2+c3=0:=juA hR
   rw [if_neg (by omega),if_neg (by omega),if_neg (by omega),if_neg (by omega)]
   simp only [go_sem,jd,ja,hL,i1,i2,i3,i4,i5,i6,jj g1,jj g2,jj g3,jj g4,jj g5,jj g6,ji i1,ji i2,ji i3,ji i4,ji i5,ji i6,w12,w123,hA,hB,hC,h6',h60,hR]
  ·have hR':c1+c2+c3=0:=juz hR
   rw [if_neg (by omega),if_neg (by omega),if_pos (by omega)]
   simp only [go_sem,jd,ja,hL,i1,i2,i3,i4,i5,i6,jj g1,jj g2,jj g3,jj g4,jj g5,jj g6,ji i1,ji i2,ji i3,ji i4,ji i5,ji i6,w12,w123,hA,hB,hC,h6',hR]
 ·have h6':¬(c6:Int)>0:=by omega
  have h60:((c6:Int)==0)=true:=by simp only [beq_iff_eq];omega
  rw [if_neg (by omega),if_neg (by omega),if_neg (by omega),if_pos (by omega)]
  simp only [go_sem,jd,ja,hL,i1,i2,i3,i4,i5,i6,jj g1,jj g2,jj g3,jj g4,jj g5,jj g6,ji i1,ji i2,ji i3,ji i4,ji i5,ji i6,w12,w123,hA,hB,hC,h6',h60]
theorem jnb {r:Rn} (h1:inB r.id 1 9999=true) (h2:jw r.plan=0) (h3:(r.tasks.length:Int)=r.plan.tasks) (h4:∀(t:Nat) (x:Tk),r.tasks[t]?=some x→jS r.plan r.tasks t x=true) (h5:r.state=jgo r.tasks) (h6:r.state≠0):kF r=true:=runOk_iff.2 ⟨h1,h2,h3,h4,h5,h6⟩
theorem jp1 {p:Pl} {ts:List Tk} {t:Nat} {x:Tk} (h:¬(1≤x.state∧x.state≤6)):jS p ts t x=false:=by simp [jS,inB,h]
theorem jcq (r:Rn):kj Tryz.prog 130 [.agg (jd r)] (.c (.val (.bool (kF r)))):=by
 refine jq Tryz.func130 jjK (by simp) ?_
 unfold jhC;simp only [go_sem,jd,ja];intro b;refine jc (jL r.id 1 9999) (by simp only [go_sem,jd,ja]) fun η=>?_
 simp only [go_sem,jd,ja];cases h1:decide (1≤r.id∧r.id≤9999)
 ·have hb:kF r=false:=qH fun h=>by have:=h.id;simp [inB,h1] at this
  simp only [go_sem,jd,ja,h1,hb]
 simp only [go_sem,jd,ja,h1];refine jc (vD r.plan) (by simp only [go_sem,jd,ja]) fun η=>?_
 simp only [go_sem,jd,ja];cases h2:jw r.plan !=0;rotate_left
 ·have hb:kF r=false:=qH fun h=>by have:=h.plan;simp [this] at h2
  simp only [go_sem,jd,ja,h2,hb]
 have h0:jw r.plan=0:=by simpa using h2
 obtain ⟨n,hn,hn1,h12,h30,hes,hnd,-⟩:=jcb h0;simp only [go_sem,jd,ja,h2];cases h3:(r.tasks.length:Int) !=r.plan.tasks;rotate_left
 ·have hb:kF r=false:=qH fun h=>by have:=h.len;simp [this] at h3
  simp only [go_sem,jd,ja,h3,hb]
 have hlen:(r.tasks.length:Int)=r.plan.tasks:=by simpa using h3
 have hlb:r.tasks.length≤12:=by omega
 simp only [go_sem,jd,ja,h3];refine jn (fun i:Nat=>St.of [(1,Bx 100 b),(3,Ni i)] [(100,Bi b _ (jd r))]) (fun i=>i≤r.tasks.length∧∀x∈r.tasks.take i,1≤x.state∧x.state≤6) (fun i=>r.tasks.length-i) 0 (by (try dsimp only);first|omega|(simp;done)|(and_intros<;>first|omega|simp)) (jg [some 100] (by simp only [go_sem,jd,ja]<;>and_intros<;>first|rfl|assumption|trivial)) ?_
 rintro k ⟨hk,hko⟩;by_cases hlt:k<r.tasks.length
 ·have hlt':(k:Int)<r.tasks.length:=by omega
  obtain ⟨x,hx⟩:=je hlt;have hw:IntKind.i64.wrap ((k:Int)+1)=((k+1:Nat):Int):=jf (by omega) (by omega)
  simp only [go_sem,jd,ja,hlt,hlt',jQ hx,jo];refine jc (jL x.state 1 6) (by simp only [go_sem,jd,ja]) fun η=>?_
  simp only [go_sem,jd,ja];cases hs:decide (1≤x.state∧x.state≤6)
  ·have hb:kF r=false:=qH fun h=>by have:=h.tasks k x hx;rw [jp1 (by simpa using hs)] at this;cases this
   simp only [go_sem,jd,ja,hs,hb]
  ·have hs':1≤x.state∧x.state≤6:=by simpa using hs
   simp only [go_sem,jd,ja,hs,hw];exact ⟨k+1,⟨hlt,fun y hy=>by rw [List.take_add_one,hx] at hy;simp at hy;rcases hy with hy|hy;exact hko y hy;exact hy▸hs'⟩,(jg [some 100] (by simp only [go_sem,jd,ja]<;>and_intros<;>first|rfl|assumption|trivial)),by (try dsimp only);omega⟩
 have hlt':¬(k:Int)<r.tasks.length:=by omega
 rw [List.take_of_length_le (by omega)] at hko
 simp only [go_sem,jd,ja,hlt'];refine jn (fun i:Nat=>St.of [(1,Bx 100 b),(4,Ni i)] [(100,Bi b _ (jd r))]) (fun i=>i≤r.tasks.length∧∀(t:Nat) (x:Tk),t<i→r.tasks[t]?=some x→jS r.plan r.tasks t x=true) (fun i=>r.tasks.length-i) 0 (by (try dsimp only);first|omega|(simp;done)|(and_intros<;>first|omega|simp)) (jg [some 100] (by simp only [go_sem,jd,ja]<;>and_intros<;>first|rfl|assumption|trivial)) ?_
 rintro j ⟨hj,hjo⟩;by_cases hjl:j<r.tasks.length
 ·have hjl':(j:Int)<r.tasks.length:=by omega
  obtain ⟨x,hx⟩:=je hjl;have hw:IntKind.i64.wrap ((j:Int)+1)=((j+1:Nat):Int):=jf (by omega) (by omega)
  simp only [go_sem,jd,ja,hjl'];refine jc (jj8 r j x hx h0 hlen) (by simp only [go_sem,jd,ja]) fun η=>?_
  simp only [go_sem,jd,ja];cases hs:jS r.plan r.tasks j x
  ·have hb:kF r=false:=qH fun h=>by have:=h.tasks j x hx;rw [hs] at this;cases this
   simp only [go_sem,jd,ja,hs,hb]
  ·simp only [go_sem,jd,ja,hs,hw]
   exact ⟨j+1,⟨hjl,fun t y ht hy=>by rcases Nat.lt_or_ge t j with h'|h';exact hjo t y h' hy;obtain rfl:t=j:=(by omega);rw [hx] at hy;cases hy;exact hs⟩,(jg [some 100] (by simp only [go_sem,jd,ja]<;>and_intros<;>first|rfl|assumption|trivial)),by (try dsimp only);omega⟩
 have hjl':¬(j:Int)<r.tasks.length:=by omega
 have hall:∀(t:Nat) (x:Tk),r.tasks[t]?=some x→jS r.plan r.tasks t x=true:=fun t x hx=>hjo t x (by have:=(List.getElem?_eq_some_iff.1 hx).1;omega) hx
 simp only [go_sem,jd,ja,hjl'];refine jc (jcp r hko (by omega)) (by simp only [go_sem,jd,ja]) fun η=>?_
 simp only [go_sem,jd,ja];cases h5:r.state==jgo r.tasks
 ·have hb:kF r=false:=qH fun h=>by have:=h.state;simp [←this] at h5
  simp only [go_sem,jd,ja,h5,hb]
 cases h6:r.state !=0
 ·have hb:kF r=false:=qH fun h=>h.live (by simpa using h6)
  simp only [go_sem,jd,ja,h5,h6,hb]
 ·have hb:kF r=true:=jnb (by simpa [inB] using h1) h0 hlen hall (by simpa using h5) (by simpa using h6)
  simp only [go_sem,jd,ja,h5,h6,hb]
def jf9:C:=iS [iA 2 (.box 52 8 (.t 0)),iA 4 (iN 0)] (iS [iA 5 (iN 0)] (.seq (iS [iA 8 (iF 1 2),iA 9 (iT 5 8),iA 10 (iM 1),iA 11 (.call 164 [.t 9,.t 10]),iA 12 (iG 11),iA 13 (iN 0)] (.blk 0 (.loop (iS [iA 14 (iP .lss 3 13 12)] (.seq (iD 14 .skip (.exit 0)) (.seq (.blk 1 (iS [iA 15 (iI 1 11 13),iA 16 (iL 15),iA 7 (iM 16)] (iS [iA 17 (iF 7 2),iA 18 (iL 17),iA 19 (iM 7),iA 20 (iI 4 18 19),iA 21 (iF 0 20),iA 22 (iL 21),iA 23 (iQ .neq 3 22 4)] (iD 23 (.reg [iA 24 (iM 5),iA 25 (iQ .add 3 24 1),iA 5 (iM 25)]) .skip)))) (.reg [iA 26 (iQ .add 3 13 1),iA 13 (iM 26)]))))))) (iS [iA 27 (iM 5),iA 4 (iM 27)] .ret)))
theorem jid:fnC Tryz.prog Tryz.f183=some (jf9,[.t 4],28):=by kernel_rfl
def jf7:C:=iS [iA 2 (.box 52 8 (.t 0)),iA 4 (iO false)] (iS [iA 6 (iF 7 2),iA 7 (iL 6),iA 8 (iM 1),iA 9 (iI 4 7 8),iA 10 (iT 4 9),iA 5 (.alloc 46 [.int .i64 0,.int .i64 0,.int .i64 0,.int .i64 0]),iC (.st 4 [none,none,none,none] (.t 5) (.t 10))] (.seq (.seq (.dreg (T.pure 0 (iA 11 (iF 0 5)) (T.pure 1 (iA 12 (iL 11)) (T.alt (iA 13 (.call 62 [.t 12,.c (.int .i64 1),.c (.int .i64 6)])) [] (T.pure 3 (iA 14 (iU 13)) (T.pure 4 (iA 15 (iM 14)) (T.pure 5 (iB 16 15 false (iF 1 5)) (T.pure 6 (iB 17 15 false (iL 16)) (T.pure 7 (iB 18 15 false (iT 8 2)) (T.pure 8 (iB 19 15 false (iM 1)) (T.alt (iB 20 15 false (.call 183 [.t 18,.t 19])) [6,5] (T.pure 10 (iB 21 15 false (iP .neq 3 17 20)) (T.pure 11 (iA 22 (.pick (.t 15) (.c (.bool true)) (.t 21))) (T.pure 12 (iA 23 (iM 22)) (T.pure 13 (iB 24 23 false (iF 2 5)) (T.pure 14 (iB 25 23 false (iL 24)) (T.pure 15 (iB 26 23 false (iF 1 2)) (T.pure 16 (iB 27 23 false (iF 1 26)) (T.pure 17 (iB 28 23 false (iL 27)) (T.alt (iB 29 23 false (.call 62 [.t 25,.c (.int .i64 0),.t 28])) [] (T.pure 19 (iB 30 23 false (iU 29)) (T.pure 20 (iA 31 (.pick (.t 23) (.c (.bool true)) (.t 30))) T.done)) T.stop))))))))) T.stop))))))) T.stop)))) (iD 31 (iS [iA 4 (iO false)] .ret) .skip)) (.seq (iS [iA 32 (iF 0 5),iA 33 (iL 32),iA 34 (iQ .eql 3 33 3),iA 35 (iM 34),iB 36 35 true (iF 3 5),iB 37 35 true (iL 36),iB 38 35 true (.call 62 [.t 37,.c (.int .i64 1),.c (.int .i64 1000000000)]),iB 39 35 true (iU 38),iA 40 (.pick (.t 35) (.t 39) (.c (.bool false))),iA 41 (iM 40),iB 42 41 false (iF 0 5),iB 43 41 false (iL 42),iB 44 41 false (iQ .neq 3 43 3),iB 45 41 false (iM 44),iB 46 45 true (iF 3 5),iB 47 45 true (iL 46),iB 48 45 true (iQ .neq 3 47 0),iB 49 41 false (.pick (.t 45) (.t 48) (.c (.bool false))),iA 50 (.pick (.t 41) (.c (.bool true)) (.t 49))] (iD 50 (iS [iA 4 (iO false)] .ret) .skip)) (.seq (iS [iA 51 (iF 0 5),iA 52 (iL 51)] (.blk 0 (iS [iA 54 (iQ .eql 3 52 1),iA 53 (iM 54)] (iD 53 (iS [iA 55 (iF 1 5),iA 56 (iL 55),iA 57 (iQ .gtr 3 56 0),iA 4 (iM 57)] .ret) (iS [iA 59 (iQ .eql 3 52 2),iA 58 (iM 59)] (iD 58 (iS [iA 60 (iF 1 5),iA 61 (iL 60),iA 62 (iQ .eql 3 61 0),iA 63 (iM 62),iB 64 63 true (iF 2 5),iB 65 63 true (iL 64),iB 66 63 true (iF 1 2),iB 67 63 true (iF 1 66),iB 68 63 true (iL 67),iB 69 63 true (iP .lss 3 65 68),iA 70 (.pick (.t 63) (.t 69) (.c (.bool false))),iA 4 (iM 70)] .ret) (.seq (iS [iA 72 (iQ .eql 3 52 3),iA 71 (iM 72)] (iD 71 .skip (iS [iA 73 (iQ .eql 3 52 4),iA 71 (iM 73)] (iD 71 .skip (.reg [iA 74 (iQ .eql 3 52 5),iA 71 (iM 74)]))))) (iD 71 (iS [iA 75 (iF 1 5),iA 76 (iL 75),iA 77 (iQ .eql 3 76 0),iA 78 (iM 77),iB 79 78 true (iF 2 5),iB 80 78 true (iL 79),iB 81 78 true (iQ .geq 3 80 1),iA 82 (.pick (.t 78) (.t 81) (.c (.bool false))),iA 4 (iM 82)] .ret) .skip)))))))) (iS [iA 4 (iO true)] .ret)))))
theorem jib:fnC Tryz.prog Tryz.f140=some (jf7,[.t 4],83):=by kernel_rfl
def jei:C:=iS [iA 2 (.box 52 8 (.t 0)),iA 4 (.mov (.c (.slice none 0 0)))] (iS [iA 5 (.mov (.c (.slice none 0 0)))] (.seq (iS [iA 8 (iF 7 2),iA 9 (iL 8),iA 10 (iG 9),iA 11 (iN 0)] (.blk 0 (.loop (iS [iA 12 (iP .lss 3 11 10)] (.seq (iD 12 .skip (.exit 0)) (.seq (.blk 1 (iS [iA 13 (iM 11),iA 14 (iI 4 9 11),iA 15 (iT 4 14),iA 7 (.alloc 46 [.int .i64 0,.int .i64 0,.int .i64 0,.int .i64 0]),iA 6 (iM 13),iC (.st 4 [none,none,none,none] (.t 7) (.t 15))] (iS [iA 16 (iF 0 7),iA 17 (iL 16),iA 18 (iM 1),iA 19 (iP .eql 3 17 18)] (iD 19 (.reg [iA 20 (iM 5),iA 21 (iM 6),iA 22 (.bsl 3 1 1 [none] [(0,1,.t 21)]),iA 23 (.app 3 1 8 (.t 20) (.t 22)),iA 5 (iM 23)]) .skip)))) (.reg [iA 24 (iQ .add 3 11 1),iA 11 (iM 24)]))))))) (iS [iA 25 (iM 5),iA 4 (iM 25)] .ret)))
theorem jhb:fnC Tryz.prog Tryz.f47=some (jei,[.t 4],26):=by kernel_rfl
def jhH:C:=iS [iA 1 (.box 52 8 (.t 0)),iA 2 (iO false)] (.seq (iS [iA 8 (iF 0 1),iA 9 (iL 8),iA 10 (.call 62 [.t 9,.c (.int .i64 1),.c (.int .i64 9999)]),iA 11 (iU 10),iA 12 (iM 11),iB 13 12 false (iF 1 1),iB 14 12 false (iT 5 13),iB 15 12 false (.call 109 [.t 14]),iB 16 12 false (iQ .neq 3 15 0),iA 17 (.pick (.t 12) (.c (.bool true)) (.t 16)),iA 18 (iM 17),iB 19 18 false (iF 7 1),iB 20 18 false (iL 19),iB 21 18 false (iG 20),iB 22 18 false (iF 1 1),iB 23 18 false (iF 3 22),iB 24 18 false (iL 23),iB 25 18 false (iP .neq 3 21 24),iA 26 (.pick (.t 18) (.c (.bool true)) (.t 25))] (iD 26 (iS [iA 2 (iO false)] .ret) .skip)) (.seq (iS [iA 27 (iF 7 1),iA 28 (iL 27),iA 29 (iG 28),iA 30 (iN 0)] (.blk 0 (.loop (iS [iA 31 (iP .lss 3 30 29)] (.seq (iD 31 .skip (.exit 0)) (.seq (.blk 1 (iS [iA 32 (iM 30),iA 3 (iM 32)] (iS [iA 33 (iT 8 1),iA 34 (iM 3),iA 35 (.call 140 [.t 33,.t 34]),iA 36 (iU 35)] (iD 36 (iS [iA 2 (iO false)] .ret) .skip)))) (.reg [iA 37 (iQ .add 3 30 1),iA 30 (iM 37)]))))))) (.seq (.dreg (T.pure 0 (iA 38 (iT 8 1)) (T.pure 3 (iA 41 (iT 8 1)) (T.pure 6 (iA 44 (iT 8 1)) (T.alt (iA 39 (.call 47 [.t 38,.c (.int .i64 4)])) [6,3] (T.pure 2 (iA 40 (iG 39)) (T.alt (iA 42 (.call 47 [.t 41,.c (.int .i64 5)])) [2,6] (T.pure 5 (iA 43 (iG 42)) (T.alt (iA 45 (.call 47 [.t 44,.c (.int .i64 6)])) [5,2] (T.pure 8 (iA 46 (iG 45)) (T.pure 9 (iA 4 (iM 40)) (T.pure 10 (iA 5 (iM 43)) (T.pure 11 (iA 6 (iM 46)) T.done)))) T.stop)) T.stop)) T.stop))))) (iS [iA 47 (iM 4),iA 48 (iM 5),iA 49 (iP .add 3 47 48),iA 50 (iM 6),iA 51 (iP .add 3 49 50),iA 52 (iF 7 1),iA 53 (iL 52),iA 54 (iG 53),iA 55 (iP .eql 3 51 54),iA 7 (iM 55)] (.seq (.blk 2 (iS [iA 57 (iM 4),iA 58 (iF 7 1),iA 59 (iL 58),iA 60 (iG 59),iA 61 (iP .eql 3 57 60),iA 56 (iM 61)] (iD 56 (iS [iA 62 (iF 6 1),iA 63 (iL 62),iA 64 (iQ .eql 3 63 2),iA 2 (iM 64)] .ret) (iS [iA 66 (iM 5),iA 67 (iQ .eql 3 66 1),iA 68 (iM 67),iB 69 68 true (iM 7),iA 70 (.pick (.t 68) (.t 69) (.c (.bool false))),iA 65 (iM 70)] (iD 65 (iS [iA 71 (iF 6 1),iA 72 (iL 71),iA 73 (iQ .eql 3 72 3),iA 2 (iM 73)] .ret) (iS [iA 75 (iM 5),iA 76 (iQ .eql 3 75 0),iA 77 (iM 76),iB 78 77 true (iM 6),iB 79 77 true (iQ .gtr 3 78 0),iA 80 (.pick (.t 77) (.t 79) (.c (.bool false))),iA 81 (iM 80),iB 82 81 true (iM 7),iA 83 (.pick (.t 81) (.t 82) (.c (.bool false))),iA 74 (iM 83)] (iD 74 (iS [iA 84 (iF 6 1),iA 85 (iL 84),iA 86 (iQ .eql 3 85 4),iA 2 (iM 86)] .ret) .skip))))))) (iS [iA 87 (iF 6 1),iA 88 (iL 87),iA 89 (iQ .eql 3 88 1),iA 90 (iM 89),iB 91 90 true (iM 5),iB 92 90 true (iQ .eql 3 91 0),iA 93 (.pick (.t 90) (.t 92) (.c (.bool false))),iA 94 (iM 93),iB 95 94 true (iM 6),iB 96 94 true (iQ .eql 3 95 0),iA 97 (.pick (.t 94) (.t 96) (.c (.bool false))),iA 2 (iM 97)] .ret))))))
theorem jjQ:fnC Tryz.prog Tryz.f81=some (jhH,[.t 2],98):=by kernel_rfl
theorem jl2 (r:Rn) (t:Nat) (h0:jw r.plan=0) (hlen:(r.tasks.length:Int)=r.plan.tasks):kj Tryz.prog 183 [.agg (jd r),.c (.val (.int .i64 t))] (.c (.val (.int .i64 (jll r.tasks (zt r.plan t))))):=by
 obtain ⟨n,hn,hn1,h12,h30,hes,hnd,-⟩:=jcb h0;refine jq Tryz.func183 jid (by simp) ?_
 unfold jf9;have hbl:=jrd hn h12 h30 t;simp only [go_sem,jd,ja];intro b;refine jc (jct r.plan t h0) (by simp only [go_sem,jd,ja]) fun η=>?_
 simp only [go_sem,jd,ja];refine jn (fun i:Nat=>St.of [(2,Bx 200 b),(5,Ni (jll r.tasks ((zt r.plan t).take i))),(11,Hd 11 (η 0)),(12,Ni (zt r.plan t).length),(13,Ni i)] [(200,Bi b _ (jd r)),(11,.loose (jh (zt r.plan t)) (η 0))]) (fun i=>i≤(zt r.plan t).length) (fun i=>(zt r.plan t).length-i) 0 (by (try dsimp only);first|omega|(simp;done)|(and_intros<;>first|omega|simp)) (jg [some 200,some 1100] (by simp only [go_sem,jd,ja,jo,List.take_zero,jll,List.filter_nil,List.length_nil]<;>and_intros<;>first|rfl|assumption|trivial)) ?_
 rintro k hk;by_cases hlt:k<(zt r.plan t).length
 ·have hlt':(k:Int)<(zt r.plan t).length:=by omega
  obtain ⟨v,hv⟩:=je hlt;have hvb:=jvk hn (List.mem_of_getElem? hv);have hvl:v.toNat<r.tasks.length:=by omega
  have hv0:=hvb.1;obtain ⟨y,hy⟩:=je hvl;have hw:IntKind.i64.wrap ((k:Int)+1)=((k+1:Nat):Int):=jf (by omega) (by omega)
  have hcl:=ju4 r.tasks ((zt r.plan t).take k);rw [List.length_take] at hcl;have hw2:IntKind.i64.wrap ((jll r.tasks ((zt r.plan t).take k):Int)+1)=((jll r.tasks ((zt r.plan t).take k)+1:Nat):Int):=jf (by omega) (by omega)
  cases hc:y.state !=4
  ·have hs:=ju3 hv hy hc
   simp only [go_sem,jd,ja,hlt,hlt',jj hv,ji hlt,hvl,hv0,jQ hy,jo,hc,hw];exact ⟨k+1,by (try dsimp only);first|omega|assumption|(and_intros<;>first|omega|assumption),(jg [some 200,some 11] (by simp only [go_sem,jd,ja,jo,hs]<;>and_intros<;>first|rfl|assumption|trivial)),by (try dsimp only);omega⟩
  ·have hs:=jq6 hv hy hc
   simp only [go_sem,jd,ja,hlt,hlt',jj hv,ji hlt,hvl,hv0,jQ hy,jo,hc,hw,hw2];exact ⟨k+1,by (try dsimp only);first|omega|assumption|(and_intros<;>first|omega|assumption),(jg [some 200,some 11] (by simp only [go_sem,jd,ja,jo,hs]<;>and_intros<;>first|rfl|assumption|trivial)),by (try dsimp only);omega⟩
 have hlt':¬(k:Int)<(zt r.plan t).length:=by omega
 rw [List.take_of_length_le (by omega)]
 simp only [go_sem,hlt']
theorem kJ (r:Rn) (s:Int) (hl:r.tasks.length≤2000000):kj Tryz.prog 47 [.agg (jd r),.c (.val (.int .i64 s))] (.c (jh (qM s r.tasks))):=by
 refine jq Tryz.func47 jhb (by simp) ?_
 unfold jei;simp only [go_sem,jd,ja];intro b;refine jn (fun i:Nat×js=>St.of [(1,Ni s),(5,Hd 5 i.2),(9,Ro (jB r.tasks)),(10,Ni r.tasks.length),(11,Ni i.1)] [(5,.loose (jh (vO s r.tasks i.1)) i.2)]) (fun i=>i.1≤r.tasks.length) (fun i=>r.tasks.length-i.1) (0,jcc) (by (try dsimp only);first|omega|(simp;done)|(and_intros<;>first|omega|simp)) (jg [none] (by simp only [go_sem,jd,ja,jxn]<;>and_intros<;>first|rfl|assumption|trivial)) ?_
 rintro ⟨k,η⟩ hk;dsimp only at hk;by_cases hlt:k<r.tasks.length
 ·have hlt':(k:Int)<r.tasks.length:=by omega
  obtain ⟨x,hx⟩:=je hlt;have hw:IntKind.i64.wrap ((k:Int)+1)=((k+1:Nat):Int):=jf (by omega) (by omega)
  have hc:=jch hx s;have hle:=vC s r.tasks k;generalize vO s r.tasks k=R at*;have hm1:R.length+1≤maxLen:=by unfold maxLen;omega
  have hm2:(R.length+1)*8≤140737488355328:=by omega
  by_cases h2:x.state=s
  ·have h2':(x.state==s)=true:=by simpa using h2
   rw [if_pos h2] at hc;simp only [go_sem,jd,ja,hlt,hlt',jQ hx,jo];intro b2;simp only [go_sem,jo,h2',hw,hm1,hm2,vg];intro η3 η4;exact ⟨(k+1,η4),by (try dsimp only);first|omega|assumption|(and_intros<;>first|omega|assumption),(jg [some 2300] (by simp only [go_sem,hc]<;>and_intros<;>first|rfl|assumption|trivial)),by (try dsimp only);omega⟩
  ·have h2':(x.state==s)=false:=by simpa using h2
   rw [if_neg h2,List.append_nil] at hc;simp only [go_sem,jd,ja,hlt,hlt',jQ hx,jo];intro b2;simp only [go_sem,jo,h2',hw];exact ⟨(k+1,η),by (try dsimp only);first|omega|assumption|(and_intros<;>first|omega|assumption),(jg [some 5] (by simp only [go_sem,hc]<;>and_intros<;>first|rfl|assumption|trivial)),by (try dsimp only);omega⟩
 have hlt':¬(k:Int)<r.tasks.length:=by omega
 obtain rfl:k=r.tasks.length:=by omega
 simp only [go_sem,hlt',qM]
theorem jl0 (r:Rn) (t:Nat) (x:Tk) (hx:r.tasks[t]?=some x) (h0:jw r.plan=0) (hlen:(r.tasks.length:Int)=r.plan.tasks):kj Tryz.prog 140 [.agg (jd r),.c (.val (.int .i64 t))] (.c (.val (.bool (jS r.plan r.tasks t x)))):=by
 have htl:=(List.getElem?_eq_some_iff.1 hx).1;refine jq Tryz.func140 jib (by simp) ?_
 unfold jf7;have h0t:(t:Int)≥0:=by omega
 simp only [go_sem,jd,ja,htl,h0t,jQ hx,jo];intro b b2;refine jc (jE x.state 1 6) (by simp only [go_sem,jd,ja,jo]) fun η=>?_
 simp only [go_sem,jd,ja,jo];cases hsr:decide (1≤x.state∧x.state≤6)
 ·have hb:jS r.plan r.tasks t x=false:=jp1 (by simpa using hsr)
  simp only [go_sem,jd,ja,jo,hsr,hb]
 simp only [go_sem,jd,ja,jo,hsr];refine jc (jl2 r t h0 hlen) (by simp only [go_sem,jd,ja,jo]) fun η=>?_
 simp only [go_sem,jd,ja,jo];have hnd:jaD r.plan r.tasks t=(jll r.tasks (zt r.plan t):Int):=rfl;generalize jll r.tasks (zt r.plan t)=N at*;cases hne:x.need !=(N:Int);rotate_left
 ·have hb:jS r.plan r.tasks t x=false:=by
   have:¬x.need=N:=by simpa using hne
   simp [jS,hnd,this]
  simp only [go_sem,jd,ja,jo,hne,hb]
 have hne':x.need=N:=by simpa using hne
 simp only [go_sem,jd,ja,jo,hne];refine jc (jE x.tri 0 r.plan.most) (by simp only [go_sem,jd,ja,jo]) fun η=>?_
 simp only [go_sem,jd,ja,jo];cases htr:decide (0≤x.tri∧x.tri≤r.plan.most)
 ·have hb:jS r.plan r.tasks t x=false:=by simp [jS,inB,htr]
  simp only [go_sem,jd,ja,jo,hb]
 have htr':0≤x.tri∧x.tri≤r.plan.most:=by simpa using htr
 rcases jtd x.state with hs|hs|hs|hs|hs|hs|⟨s1,s2,s3,s4,s5,s6⟩
 ·cases ht:x.til !=0
  rotate_left
  ·have hb:jS r.plan r.tasks t x=false:=by
    have:¬x.til=0:=by simpa using ht
    simp [jS,ja6,hs,this]
   simp only [go_sem,jd,ja,jo,htr,hs,ht,hb]
  have ht':x.til=0:=by simpa using ht
  have hb:jS r.plan r.tasks t x=decide ((N:Int)>0):=by simp [jS,ja6,qT,inB,hs,hnd,hne',ht',htr']
  simp only [go_sem,jd,ja,jo,htr,hs,ht,hb,hne']
 ·cases ht:x.til !=0
  rotate_left
  ·have hb:jS r.plan r.tasks t x=false:=by
    have:¬x.til=0:=by simpa using ht
    simp [jS,ja6,hs,this]
   simp only [go_sem,jd,ja,jo,htr,hs,ht,hb]
  have ht':x.til=0:=by simpa using ht
  cases hz:(N:Int)==0
  ·have hz':¬N=0:=by simpa using hz
   have hb:jS r.plan r.tasks t x=false:=by simp [jS,ja6,qT,inB,hs,hnd,hne',ht',htr',hz']
   simp only [go_sem,jd,ja,jo,htr,hs,ht,hz,hb,hne']
  ·have hz':N=0:=by simpa using hz
   have hb:jS r.plan r.tasks t x=decide (x.tri<r.plan.most):=by simp [jS,ja6,qT,inB,hs,hnd,hne',ht',htr',hz']
   simp only [go_sem,jd,ja,jo,htr,hs,ht,hz,hb,hne']
 ·simp only [go_sem,jd,ja,jo,htr,hs]
  refine jc (jE x.til 1 1000000000) (by simp only [go_sem,jd,ja,jo,hs]) fun η=>?_
  simp only [go_sem,jd,ja,jo,hs];cases ht:decide (1≤x.til∧x.til≤1000000000)
  ·have hb:jS r.plan r.tasks t x=false:=by simp [jS,ja6,inB,hs,ht]
   simp only [go_sem,jd,ja,jo,htr,hs,hb]
  have ht':1≤x.til∧x.til≤1000000000:=by simpa using ht
  cases hz:(N:Int)==0
  ·have hz':¬N=0:=by simpa using hz
   have hb:jS r.plan r.tasks t x=false:=by simp [jS,ja6,qT,inB,hs,hnd,hne',ht',htr',hz']
   simp only [go_sem,jd,ja,jo,htr,hs,ht,hz,hb,hne']
  ·have hz':N=0:=by simpa using hz
   have hb:jS r.plan r.tasks t x=decide (x.tri≥1):=by simp [jS,ja6,qT,inB,hs,hnd,hne',ht',htr',hz']
   simp only [go_sem,jd,ja,jo,htr,hs,ht,hz,hb,hne']
 ·cases ht:x.til !=0
  rotate_left
  ·have hb:jS r.plan r.tasks t x=false:=by
    have:¬x.til=0:=by simpa using ht
    simp [jS,ja6,hs,this]
   simp only [go_sem,jd,ja,jo,htr,hs,ht,hb]
  have ht':x.til=0:=by simpa using ht
  cases hz:(N:Int)==0
  ·have hz':¬N=0:=by simpa using hz
   have hb:jS r.plan r.tasks t x=false:=by simp [jS,ja6,qT,inB,hs,hnd,hne',ht',htr',hz']
   simp only [go_sem,jd,ja,jo,htr,hs,ht,hz,hb,hne']
  ·have hz':N=0:=by simpa using hz
   have hb:jS r.plan r.tasks t x=decide (x.tri≥1):=by simp [jS,ja6,qT,inB,hs,hnd,hne',ht',htr',hz']
   simp only [go_sem,jd,ja,jo,htr,hs,ht,hz,hb,hne']
 ·cases ht:x.til !=0
  rotate_left
  ·have hb:jS r.plan r.tasks t x=false:=by
    have:¬x.til=0:=by simpa using ht
    simp [jS,ja6,hs,this]
   simp only [go_sem,jd,ja,jo,htr,hs,ht,hb]
  have ht':x.til=0:=by simpa using ht
  cases hz:(N:Int)==0
  ·have hz':¬N=0:=by simpa using hz
   have hb:jS r.plan r.tasks t x=false:=by simp [jS,ja6,qT,inB,hs,hnd,hne',ht',htr',hz']
   simp only [go_sem,jd,ja,jo,htr,hs,ht,hz,hb,hne']
  ·have hz':N=0:=by simpa using hz
   have hb:jS r.plan r.tasks t x=decide (x.tri≥1):=by simp [jS,ja6,qT,inB,hs,hnd,hne',ht',htr',hz']
   simp only [go_sem,jd,ja,jo,htr,hs,ht,hz,hb,hne']
 ·cases ht:x.til !=0
  rotate_left
  ·have hb:jS r.plan r.tasks t x=false:=by
    have:¬x.til=0:=by simpa using ht
    simp [jS,ja6,hs,this]
   simp only [go_sem,jd,ja,jo,htr,hs,ht,hb]
  have ht':x.til=0:=by simpa using ht
  have hb:jS r.plan r.tasks t x=true:=by simp [jS,ja6,qT,inB,hs,hnd,hne',ht',htr']
  simp only [go_sem,jd,ja,jo,htr,hs,ht,hb]
 ·have:=of_decide_eq_true hsr
  have h1:¬x.state=1:=by simpa using s1
  have h2:¬x.state=2:=by simpa using s2
  have h3:¬x.state=3:=by simpa using s3
  have h4:¬x.state=4:=by simpa using s4
  have h5:¬x.state=5:=by simpa using s5
  have h6:¬x.state=6:=by simpa using s6
  omega
theorem jrM {r:Rn} {v:Int} (h1:inB r.id 1 9999=true) (h2:jw r.plan=0) (h3:(r.tasks.length:Int)=r.plan.tasks) (h4:∀(t:Nat) (x:Tk),r.tasks[t]?=some x→jS r.plan r.tasks t x=true) (hv:jgo r.tasks=v) (h0:v≠0):kF r=(r.state==v):=by
 by_cases h:r.state=v
 ·rw [jnb h1 h2 h3 h4 (h.trans hv.symm) (h▸h0)];simp [h]
 ·rw [qH fun h'=>h (h'.state.trans hv)];simp [h]
theorem jhv (r:Rn) (hsz:r.plan.edges.length≤4000000):kj Tryz.prog 81 [.agg (jd r)] (.c (.val (.bool (kF r)))):=by
 refine jq Tryz.func81 jjQ (by simp) ?_
 unfold jhH;simp only [go_sem,jd,ja];intro b;refine jc (jE r.id 1 9999) (by simp only [go_sem,jd,ja]) fun η=>?_
 simp only [go_sem,jd,ja];cases h1:decide (1≤r.id∧r.id≤9999)
 ·have hb:kF r=false:=qH fun h=>by have:=h.id;simp [inB,h1] at this
  simp only [go_sem,jd,ja,h1,hb]
 simp only [go_sem,jd,ja,h1];refine jc (qg r.plan hsz) (by simp only [go_sem,jd,ja]) fun η=>?_
 simp only [go_sem,jd,ja];cases h2:jw r.plan !=0;rotate_left
 ·have hb:kF r=false:=qH fun h=>by have:=h.plan;simp [this] at h2
  simp only [go_sem,jd,ja,h2,hb]
 have h0:jw r.plan=0:=by simpa using h2
 obtain ⟨n,hn,hn1,h12,h30,hes,hnd,-⟩:=jcb h0;simp only [go_sem,jd,ja,h2];cases h3:(r.tasks.length:Int) !=r.plan.tasks;rotate_left
 ·have hb:kF r=false:=qH fun h=>by have:=h.len;simp [this] at h3
  simp only [go_sem,jd,ja,h3,hb]
 have hlen:(r.tasks.length:Int)=r.plan.tasks:=by simpa using h3
 have hlb:r.tasks.length≤12:=by omega
 simp only [go_sem,jd,ja,h3];refine jn (fun i:Nat=>St.of [(1,Bx 100 b),(29,Ni r.tasks.length),(30,Ni i)] [(100,Bi b _ (jd r))]) (fun i=>i≤r.tasks.length∧∀(t:Nat) (x:Tk),t<i→r.tasks[t]?=some x→jS r.plan r.tasks t x=true) (fun i=>r.tasks.length-i) 0 (by (try dsimp only);first|omega|(simp;done)|(and_intros<;>first|omega|simp)) (jg [some 100] (by simp only [go_sem,jd,ja]<;>and_intros<;>first|rfl|assumption|trivial)) ?_
 rintro j ⟨hj,hjo⟩;by_cases hjl:j<r.tasks.length
 ·have hjl':(j:Int)<r.tasks.length:=by omega
  obtain ⟨x,hx⟩:=je hjl;have hw:IntKind.i64.wrap ((j:Int)+1)=((j+1:Nat):Int):=jf (by omega) (by omega)
  simp only [go_sem,jd,ja,hjl'];refine jc (jl0 r j x hx h0 hlen) (by simp only [go_sem,jd,ja]) fun η=>?_
  simp only [go_sem,jd,ja];cases hs:jS r.plan r.tasks j x
  ·have hb:kF r=false:=qH fun h=>by have:=h.tasks j x hx;rw [hs] at this;cases this
   simp only [go_sem,jd,ja,hs,hb]
  ·simp only [go_sem,jd,ja,hs,hw]
   exact ⟨j+1,⟨hjl,fun t y ht hy=>by rcases Nat.lt_or_ge t j with h'|h';exact hjo t y h' hy;obtain rfl:t=j:=(by omega);rw [hx] at hy;cases hy;exact hs⟩,(jg [some 100] (by simp only [go_sem,jd,ja]<;>and_intros<;>first|rfl|assumption|trivial)),by (try dsimp only);omega⟩
 have hjl':¬(j:Int)<r.tasks.length:=by omega
 have hall:∀(t:Nat) (x:Tk),r.tasks[t]?=some x→jS r.plan r.tasks t x=true:=fun t x hx=>hjo t x (by have:=(List.getElem?_eq_some_iff.1 hx).1;omega) hx
 simp only [go_sem,jd,ja,hjl'];refine jc (kJ r 4 (by omega)) (by simp only [go_sem,jd,ja]) fun η=>?_
 simp only [go_sem,jd,ja];refine jc (kJ r 5 (by omega)) (by simp only [go_sem,jd,ja]) fun η=>?_
 simp only [go_sem,jd,ja];refine jc (kJ r 6 (by omega)) (by simp only [go_sem,jd,ja]) fun η=>?_
 simp only [go_sem,jd,ja];have hyes:∀v:Int,jgo r.tasks=v→v≠0→kF r=(r.state==v):=fun v hv h0'=>jrM (by simpa [inB] using h1) h0 hlen hall hv h0'
 have hdef:jgo r.tasks=if (qM 4 r.tasks).length=r.tasks.length then 2 else if (qM 5 r.tasks).length=1∧(qM 4 r.tasks).length+(qM 5 r.tasks).length+(qM 6 r.tasks).length=r.tasks.length then 3 else if (qM 5 r.tasks).length=0∧0<(qM 6 r.tasks).length∧(qM 4 r.tasks).length+(qM 5 r.tasks).length+(qM 6 r.tasks).length=r.tasks.length then 4 else if (qM 5 r.tasks).length=0∧(qM 6 r.tasks).length=0 then 1 else 0:=rfl
 have b4:=vC 4 r.tasks r.tasks.length;have b5:=vC 5 r.tasks r.tasks.length;have b6:=vC 6 r.tasks r.tasks.length;change (qM 4 r.tasks).length≤_ at b4;change (qM 5 r.tasks).length≤_ at b5;change (qM 6 r.tasks).length≤_ at b6;generalize (qM 4 r.tasks).length=c4 at*;generalize (qM 5 r.tasks).length=c5 at*;generalize (qM 6 r.tasks).length=c6 at*;generalize r.tasks.length=L at*;have w45:IntKind.i64.wrap ((c4:Int)+c5)=((c4+c5:Nat):Int):=by rw [jf (by omega) (by omega)];omega
 have w456:IntKind.i64.wrap (((c4+c5:Nat):Int)+c6)=((c4+c5+c6:Nat):Int):=by rw [jf (by omega) (by omega)];omega
 simp only [go_sem,jd,ja,w45,w456];cases hA:(c4:Int)==L;rotate_left
 ·have hA':c4=L:=juz hA
  have hst:jgo r.tasks=2:=by rw [hdef,if_pos (by omega)]
  have hb:kF r=(r.state==2):=hyes _ hst (by decide)
  simp only [go_sem,jd,ja,hA,hb]
 have hA':¬c4=L:=juA hA;cases hB:(c5:Int)==1;rotate_left
 ·have hB':c5=1:=juz hB
  have hB0:((c5:Int)==0)=false:=by rw [hB'];rfl
  cases hR:((c4+c5+c6:Nat):Int)==L
  ·have hR':¬c4+c5+c6=L:=juA hR
   have hst:jgo r.tasks=0:=by rw [hdef,if_neg (by omega),if_neg (by omega),if_neg (by omega),if_neg (by omega)]
   have hb:kF r=false:=qH fun h=>h.live (h.state.trans hst)
   simp only [go_sem,jd,ja,hA,hB,hB0,hR,hb];cases hs1:r.state==1
   ·simp only [go_sem,jd,ja,hA,hB,hB0,hR,hs1,hb]
   ·simp only [go_sem,jd,ja,hA,hB,hB0,hR,hs1,hb]
  ·have hR':c4+c5+c6=L:=juz hR
   have hst:jgo r.tasks=3:=by rw [hdef,if_neg (by omega),if_pos (by omega)]
   have hb:kF r=(r.state==3):=hyes _ hst (by decide)
   simp only [go_sem,jd,ja,hA,hB,hR,hb]
 have hB':¬c5=1:=juA hB;cases hC:(c5:Int)==0
 ·have hC':¬c5=0:=juA hC
  have hst:jgo r.tasks=0:=by rw [hdef,if_neg (by omega),if_neg (by omega),if_neg (by omega),if_neg (by omega)]
  have hb:kF r=false:=qH fun h=>h.live (h.state.trans hst)
  simp only [go_sem,jd,ja,hA,hB,hC,hb];cases hs1:r.state==1
  ·simp only [go_sem,jd,ja,hA,hB,hC,hs1,hb]
  ·simp only [go_sem,jd,ja,hA,hB,hC,hs1,hb]
 have hC':c5=0:=juz hC;by_cases h6:0<c6
 ·have h6':(c6:Int)>0:=by omega
  have h60:((c6:Int)==0)=false:=by simp only [beq_eq_false_iff_ne,ne_eq];omega
  cases hR:((c4+c5+c6:Nat):Int)==L
  ·have hR':¬c4+c5+c6=L:=juA hR
   have hst:jgo r.tasks=0:=by rw [hdef,if_neg (by omega),if_neg (by omega),if_neg (by omega),if_neg (by omega)]
   have hb:kF r=false:=qH fun h=>h.live (h.state.trans hst)
   simp only [go_sem,jd,ja,hA,hB,hC,h6',h60,hR,hb];cases hs1:r.state==1
   ·simp only [go_sem,jd,ja,hA,hB,hC,h6',h60,hR,hs1,hb]
   ·simp only [go_sem,jd,ja,hA,hB,hC,h6',h60,hR,hs1,hb]
  ·have hR':c4+c5+c6=L:=juz hR
   have hst:jgo r.tasks=4:=by rw [hdef,if_neg (by omega),if_neg (by omega),if_pos (by omega)]
   have hb:kF r=(r.state==4):=hyes _ hst (by decide)
   simp only [go_sem,jd,ja,hA,hB,hC,h6',hR,hb]
 ·have h6':¬(c6:Int)>0:=by omega
  have h60:((c6:Int)==0)=true:=by simp only [beq_iff_eq];omega
  have hst:jgo r.tasks=1:=by rw [hdef,if_neg (by omega),if_neg (by omega),if_neg (by omega),if_pos (by omega)]
  have hb:kF r=(r.state==1):=hyes _ hst (by decide)
  simp only [go_sem,jd,ja,hA,hB,hC,h6',h60,hb];cases hs1:r.state==1
  ·rw [hs1] at hb
   simp only [go_sem,jd,ja,hA,hB,hC,h6',h60,hs1,hb]
  ·rw [hs1] at hb
   simp only [go_sem,jd,ja,hA,hB,hC,h6',h60,hs1,hb]
end Go.Proofs.YtcehjhiglmifjaaGreat
