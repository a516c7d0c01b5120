/- Parts. -/
import Derived.Test.YtmnpailnelmpiaaQShelf
set_option linter.unusedSimpArgs false
set_option linter.unusedVariables false
set_option maxHeartbeats 8000000
set_option maxRecDepth 100000
namespace Go.Proofs.Ytmnpailnelmpiaa
open Go.RowKit Go.Sort
def jaR:C:=iS [iA 2 (.box 24 5 (.t 0)),iA 4 (.mov (.c (.slice none 0 0)))] (iS [iA 8 (.bsl 3 1 0 [] []),iA 5 (iM 8)] (.seq (iS [iA 6 (iN 0)] (.blk 0 (.loop (.seq (iS [iA 9 (iM 6),iA 10 (iF 3 2),iA 11 (iL 10),iA 12 (iP .lss 3 9 11)] (iD 12 .skip (.exit 0))) (.seq (.blk 1 (iS [iA 7 (iN 0)] (.blk 2 (.loop (.seq (iS [iA 15 (iM 7),iA 16 (iF 4 2),iA 17 (iL 16),iA 18 (iG 17),iA 19 (iP .lss 3 15 18)] (iD 19 .skip (.exit 2))) (.seq (.blk 3 (iS [iA 22 (iF 4 2),iA 23 (iL 22),iA 24 (iM 7),iA 25 (iI 2 23 24),iA 26 (iF 0 25),iA 27 (iL 26),iA 28 (iM 6),iA 29 (iP .eql 3 27 28),iA 30 (iM 29),iB 31 30 true (iF 4 2),iB 32 30 true (iL 31),iB 33 30 true (iM 7),iB 34 30 true (iI 2 32 33),iB 35 30 true (iF 1 34),iB 36 30 true (iL 35),iB 37 30 true (iM 1),iB 38 30 true (iP .eql 3 36 37),iA 39 (.pick (.t 30) (.t 38) (.c (.bool false)))] (iD 39 (.reg [iA 40 (iM 5),iA 41 (iM 6),iA 42 (.bsl 3 1 1 [none] [(0,1,.t 41)]),iA 43 (.app 3 1 8 (.t 40) (.t 42)),iA 5 (iM 43)]) .skip))) (.reg [iA 20 (iM 7),iA 21 (iQ .add 3 20 1),iA 7 (iM 21)]))))))) (.reg [iA 13 (iM 6),iA 14 (iQ .add 3 13 1),iA 6 (iM 14)])))))) (iS [iA 44 (iM 5),iA 4 (iM 44)] .ret)))
theorem jdk:fnC Try.prog Try.f134=some (jaR,[.t 4],45):=by kernel_rfl
def jaQ:C:=iS [iA 2 (.box 24 5 (.t 0)),iA 4 (.mov (.c (.slice none 0 0)))] (iS [iA 8 (.bsl 3 1 0 [] []),iA 5 (iM 8)] (.seq (iS [iA 6 (iN 0)] (.blk 0 (.loop (.seq (iS [iA 9 (iM 6),iA 10 (iF 3 2),iA 11 (iL 10),iA 12 (iP .lss 3 9 11)] (iD 12 .skip (.exit 0))) (.seq (.blk 1 (iS [iA 7 (iN 0)] (.blk 2 (.loop (.seq (iS [iA 15 (iM 7),iA 16 (iF 4 2),iA 17 (iL 16),iA 18 (iG 17),iA 19 (iP .lss 3 15 18)] (iD 19 .skip (.exit 2))) (.seq (.blk 3 (iS [iA 22 (iF 4 2),iA 23 (iL 22),iA 24 (iM 7),iA 25 (iI 2 23 24),iA 26 (iF 0 25),iA 27 (iL 26),iA 28 (iM 1),iA 29 (iP .eql 3 27 28),iA 30 (iM 29),iB 31 30 true (iF 4 2),iB 32 30 true (iL 31),iB 33 30 true (iM 7),iB 34 30 true (iI 2 32 33),iB 35 30 true (iF 1 34),iB 36 30 true (iL 35),iB 37 30 true (iM 6),iB 38 30 true (iP .eql 3 36 37),iA 39 (.pick (.t 30) (.t 38) (.c (.bool false)))] (iD 39 (.reg [iA 40 (iM 5),iA 41 (iM 6),iA 42 (.bsl 3 1 1 [none] [(0,1,.t 41)]),iA 43 (.app 3 1 8 (.t 40) (.t 42)),iA 5 (iM 43)]) .skip))) (.reg [iA 20 (iM 7),iA 21 (iQ .add 3 20 1),iA 7 (iM 21)]))))))) (.reg [iA 13 (iM 6),iA 14 (iQ .add 3 13 1),iA 6 (iM 14)])))))) (iS [iA 44 (iM 5),iA 4 (iM 44)] .ret)))
theorem jdj:fnC Try.prog Try.f179=some (jaQ,[.t 4],45):=by kernel_rfl
theorem jjD (A:List Int):∀n:Nat,(jie n A).length≤n*A.length
 |0=>by simp [jie]
 |n+1=>by
  rw [jbb,List.length_append,List.length_replicate,Nat.succ_mul];have:=jjD A n;have:=List.count_le_length (a:=(n:Int)) (l:=A);omega
def jiZ (F:List Ed→List Int) (es:List Ed) (x j:Nat):List Int:=jie x (F es)++List.replicate ((F (es.take j)).count (x:Int)) (x:Int)
section
variable {F:List Ed→List Int} {es:List Ed} {x j:Nat}
theorem jvH (h:F []=[]):jiZ F es x 0=jie x (F es):=by simp [jiZ,h]
theorem jnP:jiZ F es x es.length=jie (x+1) (F es):=by simp [jiZ,jbb]
theorem jnN (h:(F (es.take (j+1))).count (x:Int)=(F (es.take j)).count (x:Int)+1):jiZ F es x (j+1)=jiZ F es x j++[(x:Int)]:=by simp only [jiZ,h,List.replicate_succ',List.append_assoc]
theorem jjK (h:(F (es.take (j+1))).count (x:Int)=(F (es.take j)).count (x:Int)):jiZ F es x (j+1)=jiZ F es x j:=by simp only [jiZ,h]
theorem jnO (hF:∀l:List Ed,(F l).length≤l.length) (hx:x≤12) (he:es.length≤30):(jiZ F es x j).length≤1000:=by
 have h1:=jjD (F es) x;have h2:=List.count_le_length (a:=(x:Int)) (l:=F (es.take j));have h3:=hF es;have h4:=hF (es.take j);rw [List.length_take] at h4;have h5:x*(F es).length≤12*30:=Nat.mul_le_mul hx (by omega)
 simp only [jiZ,List.length_append,List.length_replicate];omega
end
theorem jtj (l:List Ed) (t:Int):(jfF l t).length≤l.length:=by simp only [jfF,List.length_map];exact List.length_filter_le _ _
theorem jtg (l:List Ed) (t:Int):(jf5 l t).length≤l.length:=by simp only [jf5,List.length_map];exact List.length_filter_le _ _
theorem jaK (p:Pl) (t:Int) (n:Nat) (hn:p.tasks=n) (h12:n≤12) (h30:p.edges.length≤30):kl Try.prog 134 [.agg (ja p),.c (.val (.int .i64 t))] (.c (jo (jaZ p t))):=by
 refine jr Try.func134 jdk (by simp) ?_
 unfold jaR;simp only [go_sem,ja];intro b η0;refine jq (fun i:Nat×jm=>St.of [(1,Ni t),(2,Bx 200 b),(5,Hd 5 i.2),(6,Ni i.1)] [(200,Bi b _ (ja p)),(5,.loose (jo (jie i.1 (jfF p.edges t))) i.2)]) (fun i=>i.1≤n) (fun i=>n-i.1) (0,η0) (by (try dsimp only);first|omega|(simp;done)|(and_intros<;>first|omega|simp)) (jl [some 200,some 800] (by simp only [go_sem,ja,jvF]<;>and_intros<;>first|rfl|assumption|trivial)) ?_
 rintro ⟨x,η1⟩ hx;dsimp only at hx;by_cases hlt:x<n
 ·have hlt':(x:Int)<n:=by omega
  have hw:IntKind.i64.wrap ((x:Int)+1)=((x+1:Nat):Int):=jg (by omega) (by omega)
  have h0:=jvH (F:=fun l=>jfF l t) (es:=p.edges) (x:=x) rfl
  have he:=jnP (F:=fun l=>jfF l t) (es:=p.edges) (x:=x)
  simp only [go_sem,ja,hn,hlt'];refine jq (fun i:Nat×jm=>St.of [(1,Ni t),(2,Bx 200 b),(5,Hd 5 i.2),(6,Ni x),(7,Ni i.1)] [(200,Bi b _ (ja p)),(5,.loose (jo (jiZ (fun l=>jfF l t) p.edges x i.1)) i.2)]) (fun i=>i.1≤p.edges.length) (fun i=>p.edges.length-i.1) (0,η1) (by (try dsimp only);first|omega|(simp;done)|(and_intros<;>first|omega|simp)) (jl [some 200,some 5] (by simp only [go_sem,ja,hn,h0]<;>and_intros<;>first|rfl|assumption|trivial)) ?_
  rintro ⟨j,η2⟩ hj;dsimp only at hj;by_cases hjt:j<p.edges.length
  ·have hjt':(j:Int)<p.edges.length:=by omega
   obtain ⟨e,hee⟩:=je hjt;have hwj:IntKind.i64.wrap ((j:Int)+1)=((j+1:Nat):Int):=jg (by omega) (by omega)
   have hc:=jqk hee x t;have hle:=jnO (F:=fun l=>jfF l t) (es:=p.edges) (x:=x) (j:=j) (fun l=>jtj l t) (by omega) h30
   have hm1:(jiZ (fun l=>jfF l t) p.edges x j).length+1≤maxLen:=by unfold maxLen;omega
   have hm2:((jiZ (fun l=>jfF l t) p.edges x j).length+1)*8≤140737488355328:=by omega
   by_cases h1:e.src=x
   ·by_cases h2:e.dst=t
    ·have hs:=jnN (F:=fun l=>jfF l t) (es:=p.edges) (x:=x) (j:=j) (by rw [hc,if_pos ⟨h1,h2⟩])
     have h1':(e.src==(x:Int))=true:=by simpa using h1
     have h2':(e.dst==t)=true:=by simpa using h2
     generalize jiZ (fun l=>jfF l t) p.edges x j=R at*
     simp only [go_sem,ja,hn,hjt,hjt',jB hee,jW,h1',h2',hwj,hm1,hm2,zV];intro η3 η4;exact ⟨(j+1,η4),by (try dsimp only);first|omega|assumption|(and_intros<;>first|omega|assumption),(jl [some 200,some 4300] (by simp only [go_sem,ja,hn,hs]<;>and_intros<;>first|rfl|assumption|trivial)),by (try dsimp only);omega⟩
    ·have hs:=jjK (F:=fun l=>jfF l t) (es:=p.edges) (x:=x) (j:=j) (by rw [hc,if_neg (fun h=>h2 h.2)];rfl)
     have h1':(e.src==(x:Int))=true:=by simpa using h1
     have h2':(e.dst==t)=false:=by simpa using h2
     simp only [go_sem,ja,hn,hjt,hjt',jB hee,jW,h1',h2',hwj];exact ⟨(j+1,η2),by (try dsimp only);first|omega|assumption|(and_intros<;>first|omega|assumption),(jl [some 200,some 5] (by simp only [go_sem,ja,hn,hs]<;>and_intros<;>first|rfl|assumption|trivial)),by (try dsimp only);omega⟩
   ·have hs:=jjK (F:=fun l=>jfF l t) (es:=p.edges) (x:=x) (j:=j) (by rw [hc,if_neg (fun h=>h1 h.1)];rfl)
    have h1':(e.src==(x:Int))=false:=by simpa using h1
    simp only [go_sem,ja,hn,hjt,hjt',jB hee,jW,h1',hwj];exact ⟨(j+1,η2),by (try dsimp only);first|omega|assumption|(and_intros<;>first|omega|assumption),(jl [some 200,some 5] (by simp only [go_sem,ja,hn,hs]<;>and_intros<;>first|rfl|assumption|trivial)),by (try dsimp only);omega⟩
  ·have hjt':¬(j:Int)<p.edges.length:=by omega
   obtain rfl:j=p.edges.length:=by omega
   simp only [go_sem,ja,hn,hjt',hw];exact ⟨(x+1,η2),by (try dsimp only);first|omega|assumption|(and_intros<;>first|omega|assumption),(jl [some 200,some 5] (by simp only [go_sem,ja,hn,he]<;>and_intros<;>first|rfl|assumption|trivial)),by (try dsimp only);omega⟩
 ·have hlt':¬(x:Int)<n:=by omega
  obtain rfl:x=n:=by omega
  simp only [go_sem,ja,hn,hlt',jaZ,Int.toNat_natCast]
theorem jga (p:Pl) (t:Int) (n:Nat) (hn:p.tasks=n) (h12:n≤12) (h30:p.edges.length≤30):kl Try.prog 179 [.agg (ja p),.c (.val (.int .i64 t))] (.c (jo (jeG p t))):=by
 refine jr Try.func179 jdj (by simp) ?_
 unfold jaQ;simp only [go_sem,ja];intro b η0;refine jq (fun i:Nat×jm=>St.of [(1,Ni t),(2,Bx 200 b),(5,Hd 5 i.2),(6,Ni i.1)] [(200,Bi b _ (ja p)),(5,.loose (jo (jie i.1 (jf5 p.edges t))) i.2)]) (fun i=>i.1≤n) (fun i=>n-i.1) (0,η0) (by (try dsimp only);first|omega|(simp;done)|(and_intros<;>first|omega|simp)) (jl [some 200,some 800] (by simp only [go_sem,ja,jvF]<;>and_intros<;>first|rfl|assumption|trivial)) ?_
 rintro ⟨x,η1⟩ hx;dsimp only at hx;by_cases hlt:x<n
 ·have hlt':(x:Int)<n:=by omega
  have hw:IntKind.i64.wrap ((x:Int)+1)=((x+1:Nat):Int):=jg (by omega) (by omega)
  have h0:=jvH (F:=fun l=>jf5 l t) (es:=p.edges) (x:=x) rfl
  have he:=jnP (F:=fun l=>jf5 l t) (es:=p.edges) (x:=x)
  simp only [go_sem,ja,hn,hlt'];refine jq (fun i:Nat×jm=>St.of [(1,Ni t),(2,Bx 200 b),(5,Hd 5 i.2),(6,Ni x),(7,Ni i.1)] [(200,Bi b _ (ja p)),(5,.loose (jo (jiZ (fun l=>jf5 l t) p.edges x i.1)) i.2)]) (fun i=>i.1≤p.edges.length) (fun i=>p.edges.length-i.1) (0,η1) (by (try dsimp only);first|omega|(simp;done)|(and_intros<;>first|omega|simp)) (jl [some 200,some 5] (by simp only [go_sem,ja,hn,h0]<;>and_intros<;>first|rfl|assumption|trivial)) ?_
  rintro ⟨j,η2⟩ hj;dsimp only at hj;by_cases hjt:j<p.edges.length
  ·have hjt':(j:Int)<p.edges.length:=by omega
   obtain ⟨e,hee⟩:=je hjt;have hwj:IntKind.i64.wrap ((j:Int)+1)=((j+1:Nat):Int):=jg (by omega) (by omega)
   have hc:=jqi hee x t;have hle:=jnO (F:=fun l=>jf5 l t) (es:=p.edges) (x:=x) (j:=j) (fun l=>jtg l t) (by omega) h30
   have hm1:(jiZ (fun l=>jf5 l t) p.edges x j).length+1≤maxLen:=by unfold maxLen;omega
   have hm2:((jiZ (fun l=>jf5 l t) p.edges x j).length+1)*8≤140737488355328:=by omega
   by_cases h1:e.src=t
   ·by_cases h2:e.dst=x
    ·have hs:=jnN (F:=fun l=>jf5 l t) (es:=p.edges) (x:=x) (j:=j) (by rw [hc,if_pos ⟨h1,h2⟩])
     have h1':(e.src==t)=true:=by simpa using h1
     have h2':(e.dst==(x:Int))=true:=by simpa using h2
     generalize jiZ (fun l=>jf5 l t) p.edges x j=R at*
     simp only [go_sem,ja,hn,hjt,hjt',jB hee,jW,h1',h2',hwj,hm1,hm2,zV];intro η3 η4;exact ⟨(j+1,η4),by (try dsimp only);first|omega|assumption|(and_intros<;>first|omega|assumption),(jl [some 200,some 4300] (by simp only [go_sem,ja,hn,hs]<;>and_intros<;>first|rfl|assumption|trivial)),by (try dsimp only);omega⟩
    ·have hs:=jjK (F:=fun l=>jf5 l t) (es:=p.edges) (x:=x) (j:=j) (by rw [hc,if_neg (fun h=>h2 h.2)];rfl)
     have h1':(e.src==t)=true:=by simpa using h1
     have h2':(e.dst==(x:Int))=false:=by simpa using h2
     simp only [go_sem,ja,hn,hjt,hjt',jB hee,jW,h1',h2',hwj];exact ⟨(j+1,η2),by (try dsimp only);first|omega|assumption|(and_intros<;>first|omega|assumption),(jl [some 200,some 5] (by simp only [go_sem,ja,hn,hs]<;>and_intros<;>first|rfl|assumption|trivial)),by (try dsimp only);omega⟩
   ·have hs:=jjK (F:=fun l=>jf5 l t) (es:=p.edges) (x:=x) (j:=j) (by rw [hc,if_neg (fun h=>h1 h.1)];rfl)
    have h1':(e.src==t)=false:=by simpa using h1
    simp only [go_sem,ja,hn,hjt,hjt',jB hee,jW,h1',hwj];exact ⟨(j+1,η2),by (try dsimp only);first|omega|assumption|(and_intros<;>first|omega|assumption),(jl [some 200,some 5] (by simp only [go_sem,ja,hn,hs]<;>and_intros<;>first|rfl|assumption|trivial)),by (try dsimp only);omega⟩
  ·have hjt':¬(j:Int)<p.edges.length:=by omega
   obtain rfl:j=p.edges.length:=by omega
   simp only [go_sem,ja,hn,hjt',hw];exact ⟨(x+1,η2),by (try dsimp only);first|omega|assumption|(and_intros<;>first|omega|assumption),(jl [some 200,some 5] (by simp only [go_sem,ja,hn,he]<;>and_intros<;>first|rfl|assumption|trivial)),by (try dsimp only);omega⟩
 ·have hlt':¬(x:Int)<n:=by omega
  obtain rfl:x=n:=by omega
  simp only [go_sem,ja,hn,hlt',jeG,Int.toNat_natCast]
def jcE:C:=iS [iA 2 (.box 78 8 (.t 0)),iA 4 (iO false)] (iS [iA 9 (iF 7 2),iA 10 (iL 9),iA 11 (iM 1),iA 12 (iI 4 10 11),iA 13 (iT 4 12),iA 5 (.alloc 84 [.int .i64 0,.int .i64 0,.int .i64 0,.int .i64 0]),iC (.st 4 [none,none,none,none] (.t 5) (.t 13))] (iS [iA 6 (iN 0)] (iS [iA 14 (iF 1 2),iA 15 (iT 5 14),iA 16 (iM 1),iA 17 (.call 134 [.t 15,.t 16]),iA 7 (iM 17)] (.seq (iS [iA 8 (iN 0)] (.blk 0 (.loop (.seq (iS [iA 18 (iM 8),iA 19 (iM 7),iA 20 (iG 19),iA 21 (iP .lss 3 18 20)] (iD 21 .skip (.exit 0))) (.seq (.blk 1 (.seq (.dreg (T.pure 0 (iA 24 (iF 7 2)) (T.pure 1 (iA 25 (iL 24)) (T.pure 2 (iA 26 (iM 7)) (T.pure 3 (iA 27 (iM 8)) (T.pure 4 (iA 28 (iI 1 26 27)) (T.pure 5 (iA 29 (iL 28)) (T.pure 6 (iA 30 (iI 4 25 29)) (T.pure 7 (iA 31 (iF 0 30)) (T.pure 8 (iA 32 (iL 31)) (T.pure 9 (iA 33 (iQ .neq 3 32 4)) T.done))))))))))) (iD 33 (.reg [iA 34 (iM 6),iA 35 (iQ .add 3 34 1),iA 6 (iM 35)]) .skip))) (.reg [iA 22 (iM 8),iA 23 (iQ .add 3 22 1),iA 8 (iM 23)])))))) (.seq (iS [iA 36 (iF 1 5),iA 37 (iL 36),iA 38 (iM 6),iA 39 (iP .neq 3 37 38),iA 40 (iM 39),iB 41 40 false (iF 2 5),iB 42 40 false (iL 41),iB 43 40 false (iF 1 2),iB 44 40 false (iF 1 43),iB 45 40 false (iL 44),iB 46 40 false (.call 66 [.t 42,.c (.int .i64 0),.t 45]),iB 47 40 false (iU 46),iA 48 (.pick (.t 40) (.c (.bool true)) (.t 47))] (iD 48 (iS [iA 4 (iO false)] .ret) .skip)) (.seq (iS [iA 49 (iF 0 5),iA 50 (iL 49),iA 51 (iQ .eql 3 50 3),iA 52 (iM 51),iB 53 52 true (iF 3 5),iB 54 52 true (iL 53),iB 55 52 true (.call 66 [.t 54,.c (.int .i64 1),.c (.int .i64 1000000000)]),iB 56 52 true (iU 55),iA 57 (.pick (.t 52) (.t 56) (.c (.bool false))),iA 58 (iM 57),iB 59 58 false (iF 0 5),iB 60 58 false (iL 59),iB 61 58 false (iQ .neq 3 60 3),iB 62 58 false (iM 61),iB 63 62 true (iF 3 5),iB 64 62 true (iL 63),iB 65 62 true (iQ .neq 3 64 0),iB 66 58 false (.pick (.t 62) (.t 65) (.c (.bool false))),iA 67 (.pick (.t 58) (.c (.bool true)) (.t 66))] (iD 67 (iS [iA 4 (iO false)] .ret) .skip)) (.seq (iS [iA 68 (iF 0 5),iA 69 (iL 68)] (.blk 2 (iS [iA 71 (iQ .eql 3 69 1),iA 70 (iM 71)] (iD 70 (iS [iA 72 (iM 6),iA 73 (iQ .gtr 3 72 0),iA 4 (iM 73)] .ret) (iS [iA 75 (iQ .eql 3 69 2),iA 74 (iM 75)] (iD 74 (iS [iA 76 (iM 6),iA 77 (iQ .eql 3 76 0),iA 78 (iM 77),iB 79 78 true (iF 2 5),iB 80 78 true (iL 79),iB 81 78 true (iF 1 2),iB 82 78 true (iF 1 81),iB 83 78 true (iL 82),iB 84 78 true (iP .lss 3 80 83),iA 85 (.pick (.t 78) (.t 84) (.c (.bool false))),iA 4 (iM 85)] .ret) (.seq (iS [iA 87 (iQ .eql 3 69 3),iA 86 (iM 87)] (iD 86 .skip (iS [iA 88 (iQ .eql 3 69 4),iA 86 (iM 88)] (iD 86 .skip (.reg [iA 89 (iQ .eql 3 69 5),iA 86 (iM 89)]))))) (iD 86 (iS [iA 90 (iM 6),iA 91 (iQ .eql 3 90 0),iA 92 (iM 91),iB 93 92 true (iF 2 5),iB 94 92 true (iL 93),iB 95 92 true (iQ .geq 3 94 1),iA 96 (.pick (.t 92) (.t 95) (.c (.bool false))),iA 4 (iM 96)] .ret) .skip)))))))) (iS [iA 97 (iF 0 5),iA 98 (iL 97),iA 99 (iQ .eql 3 98 6),iA 4 (iM 99)] .ret))))))))
theorem jfc:fnC Try.prog Try.f112=some (jcE,[.t 4],100):=by kernel_rfl
def jbD:C:=iS [iA 1 (.box 78 8 (.t 0)),iA 2 (iN 0)] (iS [iA 6 (.bsl 3 1 7 [none,none,none,none,none,none,none] [(0,1,.c (.int .i64 0)),(1,1,.c (.int .i64 0)),(2,1,.c (.int .i64 0)),(3,1,.c (.int .i64 0)),(4,1,.c (.int .i64 0)),(5,1,.c (.int .i64 0)),(6,1,.c (.int .i64 0))]),iA 3 (iM 6)] (.seq (iS [iA 4 (iN 0)] (.blk 0 (.loop (.seq (iS [iA 7 (iM 4),iA 8 (iF 7 1),iA 9 (iL 8),iA 10 (iG 9),iA 11 (iP .lss 3 7 10)] (iD 11 .skip (.exit 0))) (.seq (.blk 1 (.reg [iA 14 (iM 3),iA 15 (iF 7 1),iA 16 (iL 15),iA 17 (iM 4),iA 18 (iI 4 16 17),iA 19 (iF 0 18),iA 20 (iL 19),iA 21 (iI 1 14 20),iA 22 (iL 21),iA 23 (iQ .add 3 22 1),iA 24 (iI 1 14 20),iC (.st 1 [none] (.t 24) (.t 23))])) (.reg [iA 12 (iM 4),iA 13 (iQ .add 3 12 1),iA 4 (iM 13)])))))) (.seq (.dreg (T.pure 0 (iA 25 (iM 3)) (T.pure 1 (iA 26 (.ia 1 (.t 25) (.c (.int .i64 1)))) (T.pure 2 (iA 27 (iL 26)) (T.pure 3 (iA 28 (iM 3)) (T.pure 4 (iA 29 (.ia 1 (.t 28) (.c (.int .i64 2)))) (T.pure 5 (iA 30 (iL 29)) (T.pure 6 (iA 31 (iP .add 3 27 30)) (T.pure 7 (iA 32 (iM 3)) (T.pure 8 (iA 33 (.ia 1 (.t 32) (.c (.int .i64 3)))) (T.pure 9 (iA 34 (iL 33)) (T.pure 10 (iA 35 (iP .add 3 31 34)) (T.pure 11 (iA 5 (iM 35)) T.done))))))))))))) (.seq (.blk 2 (.seq (.dreg (T.pure 0 (iA 37 (iM 3)) (T.pure 1 (iA 38 (.ia 1 (.t 37) (.c (.int .i64 4)))) (T.pure 2 (iA 39 (iL 38)) (T.pure 3 (iA 40 (iF 7 1)) (T.pure 4 (iA 41 (iL 40)) (T.pure 5 (iA 42 (iG 41)) (T.pure 6 (iA 43 (iP .eql 3 39 42)) (T.pure 7 (iA 36 (iM 43)) T.done))))))))) (iD 36 (iS [iA 2 (iN 2)] .ret) (iS [iA 45 (iM 3),iA 46 (.ia 1 (.t 45) (.c (.int .i64 5))),iA 47 (iL 46),iA 48 (iQ .eql 3 47 1),iA 49 (iM 48),iB 50 49 true (iM 5),iB 51 49 true (iQ .eql 3 50 0),iA 52 (.pick (.t 49) (.t 51) (.c (.bool false))),iA 44 (iM 52)] (iD 44 (iS [iA 2 (iN 3)] .ret) (iS [iA 54 (iM 3),iA 55 (.ia 1 (.t 54) (.c (.int .i64 5))),iA 56 (iL 55),iA 57 (iQ .eql 3 56 0),iA 58 (iM 57),iB 59 58 true (iM 3),iB 60 58 true (.ia 1 (.t 59) (.c (.int .i64 6))),iB 61 58 true (iL 60),iB 62 58 true (iQ .gtr 3 61 0),iA 63 (.pick (.t 58) (.t 62) (.c (.bool false))),iA 64 (iM 63),iB 65 64 true (iM 5),iB 66 64 true (iQ .eql 3 65 0),iA 67 (.pick (.t 64) (.t 66) (.c (.bool false))),iA 53 (iM 67)] (iD 53 (iS [iA 2 (iN 4)] .ret) (iS [iA 69 (iM 3),iA 70 (.ia 1 (.t 69) (.c (.int .i64 5))),iA 71 (iL 70),iA 72 (iQ .eql 3 71 0),iA 73 (iM 72),iB 74 73 true (iM 3),iB 75 73 true (.ia 1 (.t 74) (.c (.int .i64 6))),iB 76 73 true (iL 75),iB 77 73 true (iQ .eql 3 76 0),iA 78 (.pick (.t 73) (.t 77) (.c (.bool false))),iA 68 (iM 78)] (iD 68 (iS [iA 2 (iN 1)] .ret) .skip))))))))) (iS [iA 2 (iN 0)] .ret)))))
theorem jd4:fnC Try.prog Try.f113=some (jbD,[.t 2],79):=by kernel_rfl
def jf2:C:=iS [iA 1 (.box 78 8 (.t 0)),iA 2 (iO false)] (.seq (iS [iA 5 (iF 0 1),iA 6 (iL 5),iA 7 (.call 66 [.t 6,.c (.int .i64 1),.c (.int .i64 9999)]),iA 8 (iU 7),iA 9 (iM 8),iB 10 9 false (iF 1 1),iB 11 9 false (iT 5 10),iB 12 9 false (.call 111 [.t 11]),iB 13 9 false (iQ .neq 3 12 0),iA 14 (.pick (.t 9) (.c (.bool true)) (.t 13)),iA 15 (iM 14),iB 16 15 false (iF 7 1),iB 17 15 false (iL 16),iB 18 15 false (iG 17),iB 19 15 false (iF 1 1),iB 20 15 false (iF 3 19),iB 21 15 false (iL 20),iB 22 15 false (iP .neq 3 18 21),iA 23 (.pick (.t 15) (.c (.bool true)) (.t 22))] (iD 23 (iS [iA 2 (iO false)] .ret) .skip)) (.seq (iS [iA 3 (iN 0)] (.blk 0 (.loop (.seq (iS [iA 24 (iM 3),iA 25 (iF 7 1),iA 26 (iL 25),iA 27 (iG 26),iA 28 (iP .lss 3 24 27)] (iD 28 .skip (.exit 0))) (.seq (.blk 1 (iS [iA 31 (iF 7 1),iA 32 (iL 31),iA 33 (iM 3),iA 34 (iI 4 32 33),iA 35 (iF 0 34),iA 36 (iL 35),iA 37 (.call 66 [.t 36,.c (.int .i64 1),.c (.int .i64 6)]),iA 38 (iU 37)] (iD 38 (iS [iA 2 (iO false)] .ret) .skip))) (.reg [iA 29 (iM 3),iA 30 (iQ .add 3 29 1),iA 3 (iM 30)])))))) (.seq (iS [iA 4 (iN 0)] (.blk 2 (.loop (.seq (iS [iA 39 (iM 4),iA 40 (iF 7 1),iA 41 (iL 40),iA 42 (iG 41),iA 43 (iP .lss 3 39 42)] (iD 43 .skip (.exit 2))) (.seq (.blk 3 (iS [iA 46 (iT 8 1),iA 47 (iM 4),iA 48 (.call 112 [.t 46,.t 47]),iA 49 (iU 48)] (iD 49 (iS [iA 2 (iO false)] .ret) .skip))) (.reg [iA 44 (iM 4),iA 45 (iQ .add 3 44 1),iA 4 (iM 45)])))))) (.seq (.dreg (T.pure 0 (iA 50 (iF 6 1)) (T.pure 1 (iA 51 (iL 50)) (T.pure 2 (iA 52 (iT 8 1)) (T.alt (iA 53 (.call 113 [.t 52])) [1,0] (T.pure 4 (iA 54 (iP .eql 3 51 53)) (T.pure 5 (iA 55 (iM 54)) (T.pure 6 (iB 56 55 true (iF 6 1)) (T.pure 7 (iB 57 55 true (iL 56)) (T.pure 8 (iB 58 55 true (iQ .neq 3 57 0)) (T.pure 9 (iA 59 (.pick (.t 55) (.t 58) (.c (.bool false)))) (T.pure 10 (iA 2 (iM 59)) T.done))))))) T.stop))))) .ret))))
theorem jhW:fnC Try.prog Try.f81=some (jf2,[.t 2],60):=by kernel_rfl
def jqe (ts:List Tk) (l:List Int):Nat:=(l.filter fun b=>stT ts b !=4).length
theorem jve {ts:List Tk} {l:List Int} {k:Nat} {v:Int} {y:Tk} (hv:l[k]?=some v) (hy:ts[v.toNat]?=some y) (h:(y.state !=4)=true):jqe ts (l.take (k+1))=jqe ts (l.take k)+1:=by
 rw [List.take_add_one,hv];simp [jqe,List.filter_append,jjC hy,h]
theorem jxZ {ts:List Tk} {l:List Int} {k:Nat} {v:Int} {y:Tk} (hv:l[k]?=some v) (hy:ts[v.toNat]?=some y) (h:(y.state !=4)=false):jqe ts (l.take (k+1))=jqe ts (l.take k):=by
 rw [List.take_add_one,hv];simp [jqe,List.filter_append,jjC hy,h]
theorem jx0 (ts:List Tk) (l:List Int):jqe ts l≤l.length:=List.length_filter_le _ _
theorem jx6 {p:Pl} {n:Nat} (hn:p.tasks=n) {t v:Int} (h:v∈jaZ p t):0≤v∧v<n:=by
 have:=(jdD h).1;rw [hn,Int.toNat_natCast] at this;exact this
theorem jvp {p:Pl} {n:Nat} (hn:p.tasks=n) (h12:n≤12) (h30:p.edges.length≤30) (t:Int):(jaZ p t).length≤1000:=by
 have h1:=jjD (jfF p.edges t) p.tasks.toNat;have h3:=jtj p.edges t;have h5:p.tasks.toNat*(jfF p.edges t).length≤12*30:=Nat.mul_le_mul (by omega) (by omega)
 unfold jaZ;omega
theorem jte {p:Pl} {n:Nat} (hn:p.tasks=n) {t v:Int} (h:v∈jeG p t):0≤v∧v<n:=by
 have:=(jdD h).1;rw [hn,Int.toNat_natCast] at this;exact this
theorem jvo {p:Pl} {n:Nat} (hn:p.tasks=n) (h12:n≤12) (h30:p.edges.length≤30) (t:Int):(jeG p t).length≤1000:=by
 have h1:=jjD (jf5 p.edges t) p.tasks.toNat;have h3:=jtg p.edges t;have h5:p.tasks.toNat*(jf5 p.edges t).length≤12*30:=Nat.mul_le_mul (by omega) (by omega)
 unfold jeG;omega
theorem jwq (s:Int):s=1∨s=2∨s=3∨s=4∨s=5∨s=6∨((s==1)=false∧(s==2)=false∧(s==3)=false∧(s==4)=false∧(s==5)=false∧(s==6)=false):=by
 by_cases h1:s=1; · simp [h1]
 by_cases h2:s=2; · simp [h2]
 by_cases h3:s=3; · simp [h3]
 by_cases h4:s=4; · simp [h4]
 by_cases h5:s=5; · simp [h5]
 by_cases h6:s=6; · simp [h6]
 simp [h1,h2,h3,h4,h5,h6]
theorem jij (r:Rn) (t:Nat) (x:Tk) (hx:r.tasks[t]?=some x) (h0:jz r.plan=0) (hlen:(r.tasks.length:Int)=r.plan.tasks):kl Try.prog 112 [.agg (jd r),.c (.val (.int .i64 t))] (.c (.val (.bool (kt r.plan r.tasks t x)))):=by
 obtain ⟨n,hn,hn1,h12,h30,hes,hnd,-⟩:=jgL h0;have htl:=(List.getElem?_eq_some_iff.1 hx).1;refine jr Try.func112 jfc (by simp) ?_
 unfold jcE;have hbl:=jvp hn h12 h30 t;have h0t:(t:Int)≥0:=by omega
 simp only [go_sem,jd,ja,htl,h0t,kb hx,ju];intro b b2;refine jb (jaK r.plan t n hn h12 h30) (by simp only [go_sem,jd,ja]) fun η=>?_
 simp only [go_sem,jd,ja];refine jq (fun i:Nat=>St.of [(2,Bx 200 b),(5,Bx 500 b2),(6,Ni (jqe r.tasks ((jaZ r.plan t).take i))),(7,Hd 7 (η 0)),(8,Ni i)] [(200,Bi b _ (jd r)),(500,Bi b2 _ (ju x)),(7,.loose (jo (jaZ r.plan t)) (η 0))]) (fun i=>i≤(jaZ r.plan t).length) (fun i=>(jaZ r.plan t).length-i) 0 (by (try dsimp only);first|omega|(simp;done)|(and_intros<;>first|omega|simp)) (jl [some 200,some 500,some 1700] (by simp only [go_sem,jd,ja,ju,List.take_zero,jqe,List.filter_nil,List.length_nil]<;>and_intros<;>first|rfl|assumption|trivial)) ?_
 rintro k hk;by_cases hlt:k<(jaZ r.plan t).length
 ·have hlt':(k:Int)<(jaZ r.plan t).length:=by omega
  obtain ⟨v,hv⟩:=je hlt;have hvb:=jx6 hn (List.mem_of_getElem? hv);have hvl:v.toNat<r.tasks.length:=by omega
  have hv0:=hvb.1;obtain ⟨y,hy⟩:=je hvl;have hw:IntKind.i64.wrap ((k:Int)+1)=((k+1:Nat):Int):=jg (by omega) (by omega)
  have hcl:=jx0 r.tasks ((jaZ r.plan t).take k);rw [List.length_take] at hcl;have hw2:IntKind.i64.wrap ((jqe r.tasks ((jaZ r.plan t).take k):Int)+1)=((jqe r.tasks ((jaZ r.plan t).take k)+1:Nat):Int):=jg (by omega) (by omega)
  cases hc:y.state !=4
  ·have hs:=jxZ hv hy hc
   simp only [go_sem,jd,ja,hlt,hlt',ji hv,jj hlt,hvl,hv0,kb hy,ju,hc,hw];exact ⟨k+1,by (try dsimp only);first|omega|assumption|(and_intros<;>first|omega|assumption),(jl [some 200,some 500,some 7] (by simp only [go_sem,jd,ja,ju,hs]<;>and_intros<;>first|rfl|assumption|trivial)),by (try dsimp only);omega⟩
  ·have hs:=jve hv hy hc
   simp only [go_sem,jd,ja,hlt,hlt',ji hv,jj hlt,hvl,hv0,kb hy,ju,hc,hw,hw2];exact ⟨k+1,by (try dsimp only);first|omega|assumption|(and_intros<;>first|omega|assumption),(jl [some 200,some 500,some 7] (by simp only [go_sem,jd,ja,ju,hs]<;>and_intros<;>first|rfl|assumption|trivial)),by (try dsimp only);omega⟩
 have hlt':¬(k:Int)<(jaZ r.plan t).length:=by omega
 rw [List.take_of_length_le (by omega)]
 have hnd:zG r.plan r.tasks t=(jqe r.tasks (jaZ r.plan t):Int):=rfl;generalize jqe r.tasks (jaZ r.plan t)=N at*;cases hne:x.need !=(N:Int);rotate_left
 ·have hb:kt r.plan r.tasks t x=false:=by
   have:¬x.need=N:=by simpa using hne
   simp [kt,hnd,this]
  simp only [go_sem,jd,ja,ju,hlt',hne,hb]
 have hne':x.need=N:=by simpa using hne
 simp only [go_sem,jd,ja,ju,hlt',hne];refine jb (jw x.tri 0 r.plan.most) (by simp only [go_sem,jd,ja,ju]) fun η=>?_
 simp only [go_sem,jd,ja,ju];cases htr:decide (0≤x.tri∧x.tri≤r.plan.most)
 ·have hb:kt r.plan r.tasks t x=false:=by simp [kt,inB,htr]
  simp only [go_sem,jd,ja,ju,hb]
 have htr':0≤x.tri∧x.tri≤r.plan.most:=by simpa using htr
 rcases jwq x.state with hs|hs|hs|hs|hs|hs|⟨s1,s2,s3,s4,s5,s6⟩
 ·cases ht:x.til !=0
  rotate_left
  ·have hb:kt r.plan r.tasks t x=false:=by
    have:¬x.til=0:=by simpa using ht
    simp [kt,jf7,hs,this]
   simp only [go_sem,jd,ja,ju,htr,hs,ht,hb]
  have ht':x.til=0:=by simpa using ht
  have hb:kt r.plan r.tasks t x=decide ((N:Int)>0):=by simp [kt,jf7,vE,inB,hs,hnd,hne',ht',htr']
  simp only [go_sem,jd,ja,ju,htr,hs,ht,hb]
 ·cases ht:x.til !=0
  rotate_left
  ·have hb:kt r.plan r.tasks t x=false:=by
    have:¬x.til=0:=by simpa using ht
    simp [kt,jf7,hs,this]
   simp only [go_sem,jd,ja,ju,htr,hs,ht,hb]
  have ht':x.til=0:=by simpa using ht
  cases hz:(N:Int)==0
  ·have hz':¬N=0:=by simpa using hz
   have hb:kt r.plan r.tasks t x=false:=by simp [kt,jf7,vE,inB,hs,hnd,hne',ht',htr',hz']
   simp only [go_sem,jd,ja,ju,htr,hs,ht,hz,hb]
  ·have hz':N=0:=by simpa using hz
   have hb:kt r.plan r.tasks t x=decide (x.tri<r.plan.most):=by simp [kt,jf7,vE,inB,hs,hnd,hne',ht',htr',hz']
   simp only [go_sem,jd,ja,ju,htr,hs,ht,hz,hb]
 ·simp only [go_sem,jd,ja,ju,htr,hs]
  refine jb (jw x.til 1 1000000000) (by simp only [go_sem,jd,ja,ju,hs]) fun η=>?_
  simp only [go_sem,jd,ja,ju,hs];cases ht:decide (1≤x.til∧x.til≤1000000000)
  ·have hb:kt r.plan r.tasks t x=false:=by simp [kt,jf7,inB,hs,ht]
   simp only [go_sem,jd,ja,ju,htr,hs,hb]
  have ht':1≤x.til∧x.til≤1000000000:=by simpa using ht
  cases hz:(N:Int)==0
  ·have hz':¬N=0:=by simpa using hz
   have hb:kt r.plan r.tasks t x=false:=by simp [kt,jf7,vE,inB,hs,hnd,hne',ht',htr',hz']
   simp only [go_sem,jd,ja,ju,htr,hs,ht,hz,hb]
  ·have hz':N=0:=by simpa using hz
   have hb:kt r.plan r.tasks t x=decide (x.tri≥1):=by simp [kt,jf7,vE,inB,hs,hnd,hne',ht',htr',hz']
   simp only [go_sem,jd,ja,ju,htr,hs,ht,hz,hb]
 ·cases ht:x.til !=0
  rotate_left
  ·have hb:kt r.plan r.tasks t x=false:=by
    have:¬x.til=0:=by simpa using ht
    simp [kt,jf7,hs,this]
   simp only [go_sem,jd,ja,ju,htr,hs,ht,hb]
  have ht':x.til=0:=by simpa using ht
  cases hz:(N:Int)==0
  ·have hz':¬N=0:=by simpa using hz
   have hb:kt r.plan r.tasks t x=false:=by simp [kt,jf7,vE,inB,hs,hnd,hne',ht',htr',hz']
   simp only [go_sem,jd,ja,ju,htr,hs,ht,hz,hb]
  ·have hz':N=0:=by simpa using hz
   have hb:kt r.plan r.tasks t x=decide (x.tri≥1):=by simp [kt,jf7,vE,inB,hs,hnd,hne',ht',htr',hz']
   simp only [go_sem,jd,ja,ju,htr,hs,ht,hz,hb]
 ·cases ht:x.til !=0
  rotate_left
  ·have hb:kt r.plan r.tasks t x=false:=by
    have:¬x.til=0:=by simpa using ht
    simp [kt,jf7,hs,this]
   simp only [go_sem,jd,ja,ju,htr,hs,ht,hb]
  have ht':x.til=0:=by simpa using ht
  cases hz:(N:Int)==0
  ·have hz':¬N=0:=by simpa using hz
   have hb:kt r.plan r.tasks t x=false:=by simp [kt,jf7,vE,inB,hs,hnd,hne',ht',htr',hz']
   simp only [go_sem,jd,ja,ju,htr,hs,ht,hz,hb]
  ·have hz':N=0:=by simpa using hz
   have hb:kt r.plan r.tasks t x=decide (x.tri≥1):=by simp [kt,jf7,vE,inB,hs,hnd,hne',ht',htr',hz']
   simp only [go_sem,jd,ja,ju,htr,hs,ht,hz,hb]
 ·cases ht:x.til !=0
  rotate_left
  ·have hb:kt r.plan r.tasks t x=false:=by
    have:¬x.til=0:=by simpa using ht
    simp [kt,jf7,hs,this]
   simp only [go_sem,jd,ja,ju,htr,hs,ht,hb]
  have ht':x.til=0:=by simpa using ht
  have hb:kt r.plan r.tasks t x=true:=by simp [kt,jf7,vE,inB,hs,hnd,hne',ht',htr']
  simp only [go_sem,jd,ja,ju,htr,hs,ht,hb]
 ·have hb:kt r.plan r.tasks t x=false:=by
   have h1:¬x.state=1:=by simpa using s1
   have h2:¬x.state=2:=by simpa using s2
   have h3:¬x.state=3:=by simpa using s3
   have h4:¬x.state=4:=by simpa using s4
   have h5:¬x.state=5:=by simpa using s5
   have h6:¬x.state=6:=by simpa using s6
   have:¬(1≤x.state∧x.state≤6):=by omega
   simp [kt,inB,this]
  have s3':(x.state !=3)=true:=by simp [bne,s3]
  cases ht:x.til !=0
  ·simp only [go_sem,jd,ja,ju,htr,s1,s2,s3,s3',s4,s5,s6,ht,hb]
  ·simp only [go_sem,jd,ja,ju,htr,s1,s2,s3,s3',s4,s5,s6,ht,hb]
theorem jzx {a b:Nat} (h:((a:Int)==(b:Int))=true):a=b:=by have:=eq_of_beq h;omega
theorem jzy {a b:Nat} (h:((a:Int)==(b:Int))=false):¬a=b:=by have:=ne_of_beq_false h;omega
def cN (ts:List Tk) (k:Nat):List Int:=(List.range 7).map fun (s:Nat)=>(((vh (s:Int) ts k).length:Nat):Int)
theorem jmf (ts:List Tk) (k:Nat):(cN ts k).length=7:=by simp [cN]
theorem jc4 {ts:List Tk} {k s:Nat} (h:s<7):(cN ts k)[s]?=some (((vh (s:Int) ts k).length:Nat):Int):=by simp [cN,h]
theorem jx5 {ts:List Tk} {k:Nat} {x:Tk} (hx:ts[k]?=some x) (h:1≤x.state∧x.state≤6):(cN ts k).set x.state.toNat (((vh x.state ts k).length+1:Nat):Int)=cN ts (k+1):=by
 apply List.ext_getElem?
 intro s;rw [List.getElem?_set,jmf];by_cases e:x.state.toNat=s
 ·subst e
  rw [if_pos rfl,if_pos (by omega),jc4 (by omega),jdB hx]
  have:((x.state.toNat:Nat):Int)=x.state:=by omega
  simp [this]
 ·rw [if_neg e]
  by_cases hs:s<7
  ·rw [jc4 hs,jc4 hs,jdB hx,if_neg (by omega)];simp
  ·rw [List.getElem?_eq_none (by rw [jmf];omega),List.getElem?_eq_none (by rw [jmf];omega)]
theorem jbl (r:Rn) (hst:∀x∈r.tasks,1≤x.state∧x.state≤6) (hl:r.tasks.length≤2000000):kl Try.prog 113 [.agg (jd r)] (.c (.val (.int .i64 (jkV r.tasks)))):=by
 refine jr Try.func113 jd4 (by simp) ?_
 unfold jbD;have hz:D.sl 1 joU [.val (.int .i64 0),.val (.int .i64 0),.val (.int .i64 0),.val (.int .i64 0),.val (.int .i64 0),.val (.int .i64 0),.val (.int .i64 0)]=jo (cN r.tasks 0):=rfl;simp only [go_sem,jd,ja,hz];intro b η0;refine jq (fun i:Nat×jm=>St.of [(1,Bx 100 b),(3,Hd 3 i.2),(4,Ni i.1)] [(100,Bi b _ (jd r)),(3,.loose (jo (cN r.tasks i.1)) i.2)]) (fun i=>i.1≤r.tasks.length) (fun i=>r.tasks.length-i.1) (0,η0) (by (try dsimp only);first|omega|(simp;done)|(and_intros<;>first|omega|simp)) (jl [some 100,some 600] (by simp only [go_sem,jd,ja]<;>and_intros<;>first|rfl|assumption|trivial)) ?_
 rintro ⟨k,η⟩ hk;dsimp only at hk;by_cases hlt:k<r.tasks.length
 ·have hlt':(k:Int)<r.tasks.length:=by omega
  obtain ⟨x,hx⟩:=je hlt;have hs:=hst x (List.mem_of_getElem? hx);have hs0:=hs.1;have hs1:x.state≥0:=by omega
  have hs2:0≤x.state:=by omega
  have hs7:x.state.toNat<7:=by omega
  have hsn:x.state.toNat<(cN r.tasks k).length:=by rw [jmf];exact hs7
  have hw:IntKind.i64.wrap ((k:Int)+1)=((k+1:Nat):Int):=jg (by omega) (by omega)
  have hg:=jc4 (ts:=r.tasks) (k:=k) hs7;rw [show ((x.state.toNat:Nat):Int)=x.state by omega] at hg
  have hle:=jdC x.state r.tasks k;have hw2:IntKind.i64.wrap (((vh x.state r.tasks k).length:Int)+1)=(((vh x.state r.tasks k).length+1:Nat):Int):=jg (by omega) (by omega)
  have hset:=jx5 hx hs;generalize cN r.tasks k=L at*;simp only [go_sem,jd,ja,hlt,hlt',kb hx,ju,hs1,hs2,hsn,ji hg,jj hsn,hw2,jmK _ hsn,hset,hw];exact ⟨(k+1,η),by (try dsimp only);first|omega|assumption|(and_intros<;>first|omega|assumption),(jl [some 100,some 3] (by simp only [go_sem,jd,ja]<;>and_intros<;>first|rfl|assumption|trivial)),by (try dsimp only);omega⟩
 have hlt':¬(k:Int)<r.tasks.length:=by omega
 obtain rfl:k=r.tasks.length:=by omega
 have hsum:=jba hst r.tasks.length (Nat.le_refl _);have hdef:jkV r.tasks=if (vh 4 r.tasks r.tasks.length).length=r.tasks.length then 2 else if (vh 5 r.tasks r.tasks.length).length=1∧(vh 4 r.tasks r.tasks.length).length+(vh 5 r.tasks r.tasks.length).length+(vh 6 r.tasks r.tasks.length).length=r.tasks.length then 3 else if (vh 5 r.tasks r.tasks.length).length=0∧0<(vh 6 r.tasks r.tasks.length).length∧(vh 4 r.tasks r.tasks.length).length+(vh 5 r.tasks r.tasks.length).length+(vh 6 r.tasks r.tasks.length).length=r.tasks.length then 4 else if (vh 5 r.tasks r.tasks.length).length=0∧(vh 6 r.tasks r.tasks.length).length=0 then 1 else 0:=rfl
 have g1:(cN r.tasks r.tasks.length)[1]?=some (((vh 1 r.tasks r.tasks.length).length:Nat):Int):=jc4 (s:=1) (by omega)
 have g2:(cN r.tasks r.tasks.length)[2]?=some (((vh 2 r.tasks r.tasks.length).length:Nat):Int):=jc4 (s:=2) (by omega)
 have g3:(cN r.tasks r.tasks.length)[3]?=some (((vh 3 r.tasks r.tasks.length).length:Nat):Int):=jc4 (s:=3) (by omega)
 have g4:(cN r.tasks r.tasks.length)[4]?=some (((vh 4 r.tasks r.tasks.length).length:Nat):Int):=jc4 (s:=4) (by omega)
 have g5:(cN r.tasks r.tasks.length)[5]?=some (((vh 5 r.tasks r.tasks.length).length:Nat):Int):=jc4 (s:=5) (by omega)
 have g6:(cN r.tasks r.tasks.length)[6]?=some (((vh 6 r.tasks r.tasks.length).length:Nat):Int):=jc4 (s:=6) (by omega)
 have hcl:=jmf r.tasks r.tasks.length;rw [hdef];generalize hL:r.tasks.length=len at*;generalize (vh 1 r.tasks len).length=c1 at*;generalize (vh 2 r.tasks len).length=c2 at*;generalize (vh 3 r.tasks len).length=c3 at*;generalize (vh 4 r.tasks len).length=c4 at*;generalize (vh 5 r.tasks len).length=c5 at*;generalize (vh 6 r.tasks len).length=c6 at*;generalize cN r.tasks len=L at*;clear hdef;have i1:1<L.length:=by omega
 have i2:2<L.length:=by omega
 have i3:3<L.length:=by omega
 have i4:4<L.length:=by omega
 have i5:5<L.length:=by omega
 have i6:6<L.length:=by omega
 have w12:IntKind.i64.wrap ((c1:Int)+c2)=((c1+c2:Nat):Int):=by rw [jg (by omega) (by omega)];omega
 have w123:IntKind.i64.wrap (((c1+c2:Nat):Int)+c3)=((c1+c2+c3:Nat):Int):=by rw [jg (by omega) (by omega)];omega
 simp only [go_sem,jd,ja,hL,hlt',i1,i2,i3,i4,i5,i6,ji g1,ji g2,ji g3,ji g4,ji g5,ji g6,jj i1,jj i2,jj i3,jj i4,jj i5,jj i6,w12,w123];cases hA:(c4:Int)==len;rotate_left
 ·have hA':c4=len:=jzx hA
  rw [if_pos (by omega)]
  simp only [go_sem,jd,ja,hL,i1,i2,i3,i4,i5,i6,ji g1,ji g2,ji g3,ji g4,ji g5,ji g6,jj i1,jj i2,jj i3,jj i4,jj i5,jj i6,w12,w123,hA]
 have hA':¬c4=len:=jzy hA;cases hB:(c5:Int)==1;rotate_left
 ·have hB':c5=1:=jzx hB
  have hB0:((c5:Int)==0)=false:=by rw [hB'];rfl
  cases hR:((c1+c2+c3:Nat):Int)==0
  ·have hR':¬c1+c2+c3=0:=jzy hR
   rw [if_neg (by omega),if_neg (by omega),if_neg (by omega),if_neg (by omega)]
   simp only [go_sem,jd,ja,hL,i1,i2,i3,i4,i5,i6,ji g1,ji g2,ji g3,ji g4,ji g5,ji g6,jj i1,jj i2,jj i3,jj i4,jj i5,jj i6,w12,w123,hA,hB,hB0,hR]
  ·have hR':c1+c2+c3=0:=jzx hR
   rw [if_neg (by omega),if_pos (by omega)]
   simp only [go_sem,jd,ja,hL,i1,i2,i3,i4,i5,i6,ji g1,ji g2,ji g3,ji g4,ji g5,ji g6,jj i1,jj i2,jj i3,jj i4,jj i5,jj i6,w12,w123,hA,hB,hR]
 have hB':¬c5=1:=jzy hB;cases hC:(c5:Int)==0
 ·have hC':¬c5=0:=jzy hC
  rw [if_neg (by omega),if_neg (by omega),if_neg (by omega),if_neg (by omega)]
  simp only [go_sem,jd,ja,hL,i1,i2,i3,i4,i5,i6,ji g1,ji g2,ji g3,ji g4,ji g5,ji g6,jj i1,jj i2,jj i3,jj i4,jj i5,jj i6,w12,w123,hA,hB,hC]
 have hC':c5=0:=jzx hC;by_cases h6:0<c6
 ·have h6':(c6:Int)>0:=by omega
  have h60:((c6:Int)==0)=false:=by simp only [beq_eq_false_iff_ne,ne_eq];omega
  cases hR:((c1+c2+c3:Nat):Int)==0
  ·have hR':¬c1+c2+c3=0:=jzy hR
   rw [if_neg (by omega),if_neg (by omega),if_neg (by omega),if_neg (by omega)]
   simp only [go_sem,jd,ja,hL,i1,i2,i3,i4,i5,i6,ji g1,ji g2,ji g3,ji g4,ji g5,ji g6,jj i1,jj i2,jj i3,jj i4,jj i5,jj i6,w12,w123,hA,hB,hC,h6',h60,hR]
  ·have hR':c1+c2+c3=0:=jzx hR
   rw [if_neg (by omega),if_neg (by omega),if_pos (by omega)]
   simp only [go_sem,jd,ja,hL,i1,i2,i3,i4,i5,i6,ji g1,ji g2,ji g3,ji g4,ji g5,ji g6,jj i1,jj i2,jj i3,jj i4,jj i5,jj i6,w12,w123,hA,hB,hC,h6',hR]
 ·have h6':¬(c6:Int)>0:=by omega
  have h60:((c6:Int)==0)=true:=by simp only [beq_iff_eq];omega
  rw [if_neg (by omega),if_neg (by omega),if_neg (by omega),if_pos (by omega)]
  simp only [go_sem,jd,ja,hL,i1,i2,i3,i4,i5,i6,ji g1,ji g2,ji g3,ji g4,ji g5,ji g6,jj i1,jj i2,jj i3,jj i4,jj i5,jj i6,w12,w123,hA,hB,hC,h6',h60]
theorem jrh {r:Rn} (h1:inB r.id 1 9999=true) (h2:jz r.plan=0) (h3:(r.tasks.length:Int)=r.plan.tasks) (h4:∀(t:Nat) (x:Tk),r.tasks[t]?=some x→kt r.plan r.tasks t x=true) (h5:r.state=jkV r.tasks) (h6:r.state≠0):qu r=true:=runOk_iff.2 ⟨h1,h2,h3,h4,h5,h6⟩
theorem jtQ {p:Pl} {ts:List Tk} {t:Nat} {x:Tk} (h:¬(1≤x.state∧x.state≤6)):kt p ts t x=false:=by simp [kt,inB,h]
theorem jbn (r:Rn):kl Try.prog 81 [.agg (jd r)] (.c (.val (.bool (qu r)))):=by
 refine jr Try.func81 jhW (by simp) ?_
 unfold jf2;simp only [go_sem,jd,ja];intro b;refine jb (jw r.id 1 9999) (by simp only [go_sem,jd,ja]) fun η=>?_
 simp only [go_sem,jd,ja];cases h1:decide (1≤r.id∧r.id≤9999)
 ·have hb:qu r=false:=jam fun h=>by have:=h.id;simp [inB,h1] at this
  simp only [go_sem,jd,ja,h1,hb]
 simp only [go_sem,jd,ja,h1];refine jb (qD r.plan) (by simp only [go_sem,jd,ja]) fun η=>?_
 simp only [go_sem,jd,ja];cases h2:jz r.plan !=0;rotate_left
 ·have hb:qu r=false:=jam fun h=>by have:=h.plan;simp [this] at h2
  simp only [go_sem,jd,ja,h2,hb]
 have h0:jz r.plan=0:=by simpa using h2
 obtain ⟨n,hn,hn1,h12,h30,hes,hnd,-⟩:=jgL h0;simp only [go_sem,jd,ja,h2];cases h3:(r.tasks.length:Int) !=r.plan.tasks;rotate_left
 ·have hb:qu r=false:=jam fun h=>by have:=h.len;simp [this] at h3
  simp only [go_sem,jd,ja,h3,hb]
 have hlen:(r.tasks.length:Int)=r.plan.tasks:=by simpa using h3
 have hlb:r.tasks.length≤12:=by omega
 simp only [go_sem,jd,ja,h3];refine jq (fun i:Nat=>St.of [(1,Bx 100 b),(3,Ni i)] [(100,Bi b _ (jd r))]) (fun i=>i≤r.tasks.length∧∀x∈r.tasks.take i,1≤x.state∧x.state≤6) (fun i=>r.tasks.length-i) 0 (by (try dsimp only);first|omega|(simp;done)|(and_intros<;>first|omega|simp)) (jl [some 100] (by simp only [go_sem,jd,ja]<;>and_intros<;>first|rfl|assumption|trivial)) ?_
 rintro k ⟨hk,hko⟩;by_cases hlt:k<r.tasks.length
 ·have hlt':(k:Int)<r.tasks.length:=by omega
  obtain ⟨x,hx⟩:=je hlt;have hw:IntKind.i64.wrap ((k:Int)+1)=((k+1:Nat):Int):=jg (by omega) (by omega)
  simp only [go_sem,jd,ja,hlt,hlt',kb hx,ju];refine jb (jw x.state 1 6) (by simp only [go_sem,jd,ja]) fun η=>?_
  simp only [go_sem,jd,ja];cases hs:decide (1≤x.state∧x.state≤6)
  ·have hb:qu r=false:=jam fun h=>by have:=h.tasks k x hx;rw [jtQ (by simpa using hs)] at this;cases this
   simp only [go_sem,jd,ja,hs,hb]
  ·have hs':1≤x.state∧x.state≤6:=by simpa using hs
   simp only [go_sem,jd,ja,hs,hw];exact ⟨k+1,⟨hlt,fun y hy=>by rw [List.take_add_one,hx] at hy;simp at hy;rcases hy with hy|hy;exact hko y hy;exact hy▸hs'⟩,(jl [some 100] (by simp only [go_sem,jd,ja]<;>and_intros<;>first|rfl|assumption|trivial)),by (try dsimp only);omega⟩
 have hlt':¬(k:Int)<r.tasks.length:=by omega
 rw [List.take_of_length_le (by omega)] at hko
 simp only [go_sem,jd,ja,hlt'];refine jq (fun i:Nat=>St.of [(1,Bx 100 b),(4,Ni i)] [(100,Bi b _ (jd r))]) (fun i=>i≤r.tasks.length∧∀(t:Nat) (x:Tk),t<i→r.tasks[t]?=some x→kt r.plan r.tasks t x=true) (fun i=>r.tasks.length-i) 0 (by (try dsimp only);first|omega|(simp;done)|(and_intros<;>first|omega|simp)) (jl [some 100] (by simp only [go_sem,jd,ja]<;>and_intros<;>first|rfl|assumption|trivial)) ?_
 rintro j ⟨hj,hjo⟩;by_cases hjl:j<r.tasks.length
 ·have hjl':(j:Int)<r.tasks.length:=by omega
  obtain ⟨x,hx⟩:=je hjl;have hw:IntKind.i64.wrap ((j:Int)+1)=((j+1:Nat):Int):=jg (by omega) (by omega)
  simp only [go_sem,jd,ja,hjl'];refine jb (jij r j x hx h0 hlen) (by simp only [go_sem,jd,ja]) fun η=>?_
  simp only [go_sem,jd,ja];cases hs:kt r.plan r.tasks j x
  ·have hb:qu r=false:=jam fun h=>by have:=h.tasks j x hx;rw [hs] at this;cases this
   simp only [go_sem,jd,ja,hs,hb]
  ·simp only [go_sem,jd,ja,hs,hw]
   exact ⟨j+1,⟨hjl,fun t y ht hy=>by rcases Nat.lt_or_ge t j with h'|h';exact hjo t y h' hy;obtain rfl:t=j:=(by omega);rw [hx] at hy;cases hy;exact hs⟩,(jl [some 100] (by simp only [go_sem,jd,ja]<;>and_intros<;>first|rfl|assumption|trivial)),by (try dsimp only);omega⟩
 have hjl':¬(j:Int)<r.tasks.length:=by omega
 have hall:∀(t:Nat) (x:Tk),r.tasks[t]?=some x→kt r.plan r.tasks t x=true:=fun t x hx=>hjo t x (by have:=(List.getElem?_eq_some_iff.1 hx).1;omega) hx
 simp only [go_sem,jd,ja,hjl'];refine jb (jbl r hko (by omega)) (by simp only [go_sem,jd,ja]) fun η=>?_
 simp only [go_sem,jd,ja];cases h5:r.state==jkV r.tasks
 ·have hb:qu r=false:=jam fun h=>by have:=h.state;simp [←this] at h5
  simp only [go_sem,jd,ja,h5,hb]
 cases h6:r.state !=0
 ·have hb:qu r=false:=jam fun h=>h.live (by simpa using h6)
  simp only [go_sem,jd,ja,h5,h6,hb]
 ·have hb:qu r=true:=jrh (by simpa [inB] using h1) h0 hlen hall (by simpa using h5) (by simpa using h6)
  simp only [go_sem,jd,ja,h5,h6,hb]
end Go.Proofs.Ytmnpailnelmpiaa
