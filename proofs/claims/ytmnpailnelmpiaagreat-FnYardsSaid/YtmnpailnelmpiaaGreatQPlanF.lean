/- Parts. -/
import Derived.Test.YtmnpailnelmpiaaGreatQW
set_option linter.unusedSimpArgs false
set_option linter.unusedVariables false
set_option maxHeartbeats 4000000
set_option maxRecDepth 100000
namespace Go.Proofs.YtmnpailnelmpiaaGreat
open Go.RowKit Go.Sort
def jdV:C:=iS [iA 1 (.box 71 5 (.t 0)),iA 2 (iO false)] (iS [iA 3 (iF 3 1),iA 4 (iL 3),iA 5 (.call 74 [.t 4,.c (.int .i64 1),.c (.int .i64 12)]),iA 6 (iU 5),iA 7 (iM 6),iB 8 7 false (iF 4 1),iB 9 7 false (iL 8),iB 10 7 false (iG 9),iB 11 7 false (iQ .gtr 3 10 30),iA 12 (.pick (.t 7) (.c (.bool true)) (.t 11)),iA 13 (iM 12),iB 14 13 false (iF 0 1),iB 15 13 false (iL 14),iB 16 13 false (.call 74 [.t 15,.c (.int .i64 0),.c (.int .i64 9)]),iB 17 13 false (iU 16),iA 18 (.pick (.t 13) (.c (.bool true)) (.t 17)),iA 19 (iM 18),iB 20 19 false (iF 1 1),iB 21 19 false (iL 20),iB 22 19 false (.call 74 [.t 21,.c (.int .i64 1),.c (.int .i64 5)]),iB 23 19 false (iU 22),iA 24 (.pick (.t 19) (.c (.bool true)) (.t 23)),iA 25 (iM 24),iB 26 25 false (iF 2 1),iB 27 25 false (iL 26),iB 28 25 false (.call 74 [.t 27,.c (.int .i64 1),.c (.int .i64 20)]),iB 29 25 false (iU 28),iA 30 (.pick (.t 25) (.c (.bool true)) (.t 29)),iA 2 (iM 30)] .ret)
theorem jgB:fnC Tryz.prog Tryz.f257=some (jdV,[.t 2],31):=by kernel_rfl
def jdW:C:=iS [iA 2 (.box 71 5 (.t 0)),iA 4 (.mov (.c (.slice none 0 0)))] (iS [iA 10 (iF 3 2),iA 11 (iL 10),iA 12 (.mks 4 1 1 [D.val (.bool false)] (.t 11) (.t 11)),iA 5 (iM 12)] (iS [iA 13 (iM 1),iA 14 (.bsl 3 1 1 [none] [(0,1,.t 13)]),iA 6 (iM 14)] (.seq (iS [iA 7 (iN 0)] (.blk 0 (.loop (.seq (iS [iA 15 (iM 7),iA 16 (iM 6),iA 17 (iG 16),iA 18 (iP .lss 3 15 17)] (iD 18 .skip (.exit 0))) (.seq (.blk 1 (iS [iA 8 (iN 0)] (.blk 2 (.loop (.seq (iS [iA 21 (iM 8),iA 22 (iF 4 2),iA 23 (iL 22),iA 24 (iG 23),iA 25 (iP .lss 3 21 24)] (iD 25 .skip (.exit 2))) (.seq (.blk 3 (iS [iA 28 (iF 4 2),iA 29 (iL 28),iA 30 (iM 8),iA 31 (iI 2 29 30),iA 32 (iT 2 31),iA 9 (.alloc 253 [.int .i64 0,.int .i64 0]),iC (.st 2 [none,none] (.t 9) (.t 32))] (.seq (.dreg (T.pure 0 (iA 33 (iF 0 9)) (T.pure 1 (iA 34 (iL 33)) (T.pure 2 (iA 35 (iM 6)) (T.pure 3 (iA 36 (iM 7)) (T.pure 4 (iA 37 (iI 1 35 36)) (T.pure 5 (iA 38 (iL 37)) (T.pure 6 (iA 39 (iP .eql 3 34 38)) (T.pure 7 (iA 40 (iM 39)) (T.pure 8 (iB 41 40 true (iM 5)) (T.pure 9 (iB 42 40 true (iF 1 9)) (T.pure 10 (iB 43 40 true (iL 42)) (T.pure 11 (iB 44 40 true (iI 1 41 43)) (T.pure 12 (iB 45 40 true (iL 44)) (T.pure 13 (iB 46 40 true (iU 45)) (T.pure 14 (iA 47 (.pick (.t 40) (.t 46) (.c (.bool false)))) T.done)))))))))))))))) (iD 47 (iS [iA 48 (iM 5),iA 49 (iF 1 9),iA 50 (iL 49),iA 51 (iI 1 48 50),iC (.st 1 [none] (.t 51) (.c (.bool true)))] (.reg [iA 52 (iM 6),iA 53 (iF 1 9),iA 54 (iL 53),iA 55 (.bsl 3 1 1 [none] [(0,1,.t 54)]),iA 56 (.app 3 1 8 (.t 52) (.t 55)),iA 6 (iM 56)])) .skip)))) (.reg [iA 26 (iM 8),iA 27 (iQ .add 3 26 1),iA 8 (iM 27)]))))))) (.reg [iA 19 (iM 7),iA 20 (iQ .add 3 19 1),iA 7 (iM 20)])))))) (iS [iA 57 (iM 5),iA 4 (iM 57)] .ret))))
theorem jgC:fnC Tryz.prog Tryz.f258=some (jdW,[.t 4],58):=by kernel_rfl
def jbU:C:=iS [iA 1 (.box 71 5 (.t 0)),iA 2 (iN 0)] (.seq (iS [iA 7 (iT 5 1),iA 8 (.call 257 [.t 7])] (iD 8 (iS [iA 2 (iN 1)] .ret) .skip)) (.seq (iS [iA 3 (iN 0)] (.blk 0 (.loop (.seq (iS [iA 9 (iM 3),iA 10 (iF 4 1),iA 11 (iL 10),iA 12 (iG 11),iA 13 (iP .lss 3 9 12)] (iD 13 .skip (.exit 0))) (.seq (.blk 1 (.seq (.dreg (T.pure 0 (iA 16 (iF 4 1)) (T.pure 1 (iA 17 (iL 16)) (T.pure 2 (iA 18 (iM 3)) (T.pure 3 (iA 19 (iI 2 17 18)) (T.pure 4 (iA 20 (iF 0 19)) (T.pure 5 (iA 21 (iL 20)) (T.pure 6 (iA 22 (iF 3 1)) (T.pure 7 (iA 23 (iL 22)) (T.pure 8 (iA 24 (iQ .sub 3 23 1)) (T.alt (iA 25 (.call 74 [.t 21,.c (.int .i64 0),.t 24])) [] (T.pure 10 (iA 26 (iU 25)) (T.pure 11 (iA 27 (iM 26)) (T.pure 12 (iB 28 27 false (iF 4 1)) (T.pure 13 (iB 29 27 false (iL 28)) (T.pure 14 (iB 30 27 false (iM 3)) (T.pure 15 (iB 31 27 false (iI 2 29 30)) (T.pure 16 (iB 32 27 false (iF 1 31)) (T.pure 17 (iB 33 27 false (iL 32)) (T.pure 18 (iB 34 27 false (iF 3 1)) (T.pure 19 (iB 35 27 false (iL 34)) (T.pure 20 (iB 36 27 false (iQ .sub 3 35 1)) (T.alt (iB 37 27 false (.call 74 [.t 33,.c (.int .i64 0),.t 36])) [] (T.pure 22 (iB 38 27 false (iU 37)) (T.pure 23 (iA 39 (.pick (.t 27) (.c (.bool true)) (.t 38))) T.done)) T.stop)))))))))))) T.stop))))))))))) (iD 39 (iS [iA 2 (iN 2)] .ret) .skip))) (.reg [iA 14 (iM 3),iA 15 (iQ .add 3 14 1),iA 3 (iM 15)])))))) (.seq (iS [iA 4 (iN 0)] (.blk 2 (.loop (.seq (iS [iA 40 (iM 4),iA 41 (iF 4 1),iA 42 (iL 41),iA 43 (iG 42),iA 44 (iP .lss 3 40 43)] (iD 44 .skip (.exit 2))) (.seq (.blk 3 (iS [iA 5 (iN 0)] (.blk 4 (.loop (.seq (iS [iA 47 (iM 5),iA 48 (iM 4),iA 49 (iP .lss 3 47 48)] (iD 49 .skip (.exit 4))) (.seq (.blk 5 (.seq (.dreg (T.pure 0 (iA 52 (iF 4 1)) (T.pure 1 (iA 53 (iL 52)) (T.pure 2 (iA 54 (iM 4)) (T.pure 3 (iA 55 (iI 2 53 54)) (T.pure 4 (iA 56 (iT 2 55)) (T.pure 5 (iA 57 (iF 4 1)) (T.pure 6 (iA 58 (iL 57)) (T.pure 7 (iA 59 (iM 5)) (T.pure 8 (iA 60 (iI 2 58 59)) (T.pure 9 (iA 61 (iT 2 60)) (T.pure 10 (iA 62 (iP .eql 253 56 61)) T.done)))))))))))) (iD 62 (iS [iA 2 (iN 3)] .ret) .skip))) (.reg [iA 50 (iM 5),iA 51 (iQ .add 3 50 1),iA 5 (iM 51)]))))))) (.reg [iA 45 (iM 4),iA 46 (iQ .add 3 45 1),iA 4 (iM 46)])))))) (.seq (iS [iA 6 (iN 0)] (.blk 6 (.loop (.seq (iS [iA 63 (iM 6),iA 64 (iF 3 1),iA 65 (iL 64),iA 66 (iP .lss 3 63 65)] (iD 66 .skip (.exit 6))) (.seq (.blk 7 (iS [iA 69 (iT 5 1),iA 70 (iM 6),iA 71 (.call 258 [.t 69,.t 70]),iA 72 (iM 6),iA 73 (iI 1 71 72),iA 74 (iL 73)] (iD 74 (iS [iA 2 (iN 4)] .ret) .skip))) (.reg [iA 67 (iM 6),iA 68 (iQ .add 3 67 1),iA 6 (iM 68)])))))) (iS [iA 2 (iN 0)] .ret)))))
theorem jeD:fnC Tryz.prog Tryz.f186=some (jbU,[.t 2],75):=by kernel_rfl
def qc:C:=iS [iA 3 (.box 253 2 (.t 1)),iA 4 (iN 0)] (.seq (iS [iA 6 (iM 0),iA 7 (iG 6),iA 8 (iN 0)] (.blk 0 (.loop (iS [iA 9 (iP .lss 3 8 7)] (.seq (iD 9 .skip (.exit 0)) (.seq (.blk 1 (iS [iA 10 (iM 8),iA 5 (iM 10)] (.seq (.dreg (T.pure 0 (iA 11 (iT 2 3)) (T.pure 1 (iA 12 (iM 0)) (T.pure 2 (iA 13 (iM 5)) (T.pure 3 (iA 14 (iI 2 12 13)) (T.pure 4 (iA 15 (iT 2 14)) (T.pure 5 (iA 16 (iP .eql 253 11 15)) T.done))))))) (iD 16 (iS [iA 17 (iM 5),iA 4 (iM 17)] .ret) .skip)))) (.reg [iA 18 (iQ .add 3 8 1),iA 8 (iM 18)]))))))) (iS [iA 4 (iN (-1))] .ret))
theorem vm:fnC Tryz.prog Tryz.f287=some (qc,[.t 4],19):=by kernel_rfl
def kN:C:=iS [iA 3 (.box 253 2 (.t 1)),iA 4 (iO false)] (iS [iA 5 (iM 0),iA 6 (iT 2 3),iA 7 (.call 287 [.t 5,.t 6]),iA 8 (iQ .geq 3 7 0),iA 4 (iM 8)] .ret)
theorem qP:fnC Tryz.prog Tryz.f271=some (kN,[.t 4],9):=by kernel_rfl
theorem jjP (p:Pl):kp Tryz.prog 257 [.agg (ja p)] (.c (.val (.bool (vF p)))):=by
 refine js Tryz.func257 jgB (by simp) ?_
 unfold jdV;simp only [go_sem,ja];intro b;refine jc (jJ p.tasks 1 12) (by simp only [go_sem,ja]) fun η=>?_
 simp only [go_sem,ja];cases h1:decide (1≤p.tasks∧p.tasks≤12)
 ·simp only [go_sem,ja,h1,vF,inB]
 ·by_cases h2:30<p.edges.length
  ·have h2':(p.edges.length:Int)>30:=by omega
   simp only [go_sem,ja,h1,h2,h2',vF,inB]
  ·have h2':¬(p.edges.length:Int)>30:=by omega
   simp only [go_sem,ja,h1,h2,h2'];refine jc (jJ p.prio 0 9) (by simp only [go_sem,ja]) fun η=>?_
   simp only [go_sem,ja];cases h3:decide (0≤p.prio∧p.prio≤9)
   ·simp only [go_sem,ja,h1,h2,h2',h3,vF,inB]
   ·simp only [go_sem,ja,h1,h2,h2',h3]
    refine jc (jJ p.most 1 5) (by simp only [go_sem,ja]) fun η=>?_
    simp only [go_sem,ja];cases h4:decide (1≤p.most∧p.most≤5)
    ·simp only [go_sem,ja,h1,h2,h2',h3,h4,vF,inB]
    ·simp only [go_sem,ja,h1,h2,h2',h3,h4]
     refine jc (jJ p.wait 1 20) (by simp only [go_sem,ja]) fun η=>?_
     simp only [go_sem,ja];cases h5:decide (1≤p.wait∧p.wait≤20)
     ·simp only [go_sem,ja,h1,h2,h2',h3,h4,h5,vF,inB]
     ·simp only [go_sem,ja,h1,h2,h2',h3,h4,h5,vF,inB]
theorem jjQ (p:Pl) (n:Nat) (hn:p.tasks=n) (h12:n≤12) (h30:p.edges.length≤30) (hes:∀e∈p.edges,okE n e) (t:Nat) (ht:t<n):kp Tryz.prog 258 [.agg (ja p),.c (.val (.int .i64 t))] (.c (qu (ji9 p.edges n t))):=by
 refine js Tryz.func258 jgC (by simp) ?_
 unfold jdW;have hm:1*n≤281474976710656:=by omega
 have hml:n≤maxLen:=by unfold maxLen;omega
 have hrep:D.sl 1 jxw (List.replicate n [D.val (.bool false)]).flatten=qu (jn2 n []):=by
  rw [jvM]
  congr 1
  apply List.ext_getElem?
  intro k;by_cases hk:k<n
  ·rw [jis hk];simp [hk]
  ·rw [List.getElem?_eq_none (by simp;omega),List.getElem?_eq_none (by rw [zY];omega)]
 have hint:D.sl 1 jf5 [D.val (.int .i64 t)]=jh [(t:Int)]:=by simp [jh]
 simp only [go_sem,ja,hn];intro b;rw [jsV];refine ⟨.i64,.i64,n,by simp only [go_sem],by simp only [go_sem],hm,hml,fun η=>?_⟩
 simp only [go_sem,ja,hn,hrep,hint];intro η1;refine jp (fun i:Nat×List Int×jq×jq=>St.of [(2,Bx 200 b),(5,Hd 5 i.2.2.1),(6,Hd 6 i.2.2.2),(7,Ni i.1)] [(200,Bi b _ (ja p)),(5,.loose (qu (jn2 n i.2.1)) i.2.2.1),(6,.loose (jh ((t:Int)::i.2.1)) i.2.2.2)]) (fun i=>jy5 p.edges n t i.1 i.2.1) (fun i=>n+1-i.1) (0,[],η,η1) (jBa) (jj [some 200,some 1200,some 1400] (by simp only [go_sem,ja,hn]<;>and_intros<;>first|rfl|assumption|trivial)) ?_
 rintro ⟨h,r,η2,η3⟩ hb;dsimp only at hb;have hrl:=jqC hb;have hll:((t:Int)::r).length=r.length+1:=rfl;by_cases hlt:h<r.length+1
 ·have hlt':(h:Int)<((r.length+1:Nat):Int):=by omega
  obtain ⟨x,hx⟩:=je (l:=(t:Int)::r) hlt;have hwh:IntKind.i64.wrap ((h:Int)+1)=((h+1:Nat):Int):=jg (by omega) (by omega)
  simp only [go_sem,hlt,hlt'];refine jp (fun i:Nat×List Int×jq×jq=>St.of [(2,Bx 200 b),(5,Hd 5 i.2.2.1),(6,Hd 6 i.2.2.2),(7,Ni h),(8,Ni i.1)] [(200,Bi b _ (ja p)),(5,.loose (qu (jn2 n i.2.1)) i.2.2.1),(6,.loose (jh ((t:Int)::i.2.1)) i.2.2.2)]) (fun i=>BIn p.edges n t h x i.1 i.2.1∧i.1≤p.edges.length) (fun i=>p.edges.length-i.1) (0,r,η2,η3) (⟨bIn_0 hb hx,Nat.zero_le _⟩) (jj [some 200,some 5,some 6] (by simp only [go_sem,ja,hn]<;>and_intros<;>first|rfl|assumption|trivial)) ?_
  rintro ⟨j,r1,η4,η5⟩ ⟨hj,hjl⟩;dsimp only at hj hjl;have hrl1:=jqC hj.1;have hll1:((t:Int)::r1).length=r1.length+1:=rfl;by_cases hjt:j<p.edges.length
  ·have hjt':(j:Int)<p.edges.length:=by omega
   obtain ⟨e,he⟩:=je hjt;obtain ⟨⟨e1,e2⟩,e3,e4⟩:=hes e (List.mem_of_getElem? he);have hwj:IntKind.i64.wrap ((j:Int)+1)=((j+1:Nat):Int):=jg (by omega) (by omega)
   have hqx:((t:Int)::r1)[h]?=some x:=hj.2.1;have hhl:h<((t:Int)::r1).length:=(List.getElem?_eq_some_iff.1 hqx).1;have hd:e.dst.toNat<n:=by omega
   have hdi:((e.dst.toNat:Nat):Int)=e.dst:=by omega
   have hgd:(jn2 n r1)[e.dst.toNat]?=some (decide (e.dst∈r1)):=by rw [jis hd,hdi]
   have hdl:e.dst.toNat<(jn2 n r1).length:=by rw [zY];exact hd
   have hset:(jn2 n r1).set e.dst.toNat true=jn2 n (r1++[e.dst]):=by rw [jwz hd,hdi]
   have hone:1≤maxLen:=by unfold maxLen;omega
   have hq1:((t:Int)::r1).length+1≤maxLen:=by unfold maxLen;omega
   have hq2:(((t:Int)::r1).length+1)*8≤140737488355328:=by omega
   have hint2:D.sl 1 jf5 [D.val (.int .i64 e.dst)]=jh [e.dst]:=by simp [jh]
   dsimp only;generalize hq:(t:Int)::r1=q at hqx hhl hll1 hq1 hq2⊢;simp only [go_sem,ja,hn,hjt,hjt',jx he,jP,zY,e3,hd];intro b2;simp only [go_sem,ja,hn,jP,jk hqx,ji hhl,hhl,e3,hd,zY];cases hxe:(e.src==x)
   ·have hne:e.src≠x:=by simpa using hxe
    simp only [go_sem,hwj];exact ⟨(j+1,r1,η4,η5),⟨jxg hj he fun h'=>absurd h' hne,by omega⟩,(jj [some 200,some 5,some 6] (by simp only [go_sem,ja,hn,←hq]<;>and_intros<;>first|rfl|assumption|trivial)),by (try dsimp only);omega⟩
   ·have hse:e.src=x:=by simpa using hxe
    simp only [go_sem,jP,e3,hd,zY,jeJ hgd,jbz hdl,jfj hgd];by_cases hin:e.dst∈r1
    ·simp only [go_sem,hin,hwj]
     exact ⟨(j+1,r1,η4,η5),⟨jxg hj he fun _=>hin,by omega⟩,(jj [some 200,some 5,some 6] (by simp only [go_sem,ja,hn,←hq]<;>and_intros<;>first|rfl|assumption|trivial)),by (try dsimp only);omega⟩
    ·simp only [go_sem,hin,hwj,jP,e3,hd,zY,jm0 true hdl,jbz hdl,hset,hq1,hq2,jvU,vi]
     intro η6 η7;exact ⟨(j+1,r1++[e.dst],η4,η7),⟨jy1 hj he hse hin ⟨e3,e4⟩ (fun h0=>by subst h0;simpa using hj.2.1.symm),by omega⟩,(jj [some 200,some 5,some 5600] (by simp only [go_sem,ja,hn,←hq,List.cons_append]<;>and_intros<;>first|rfl|assumption|trivial)),by (try dsimp only);omega⟩
  ·have hjt':¬(j:Int)<p.edges.length:=by omega
   simp only [go_sem,ja,hn,hjt',hwh];exact ⟨(h+1,r1,η4,η5),juG hj (by omega),(jj [some 200,some 5,some 6] (by simp only [go_sem,ja,hn]<;>and_intros<;>first|rfl|assumption|trivial)),by (try dsimp only);omega⟩
 ·have hlt':¬(h:Int)<((r.length+1:Nat):Int):=by omega
  simp only [go_sem,ja,hn,hlt',juH hb (by omega)]
theorem jtA {p:Pl} (h:vF p=false):∃n:Nat,p.tasks=n∧1≤n∧n≤12∧p.edges.length≤30∧(0≤p.prio∧p.prio≤9)∧(1≤p.most∧p.most≤5)∧(1≤p.wait∧p.wait≤20):=by
 simp only [vF,inB,Bool.or_eq_false_iff,Bool.not_eq_false',decide_eq_true_eq,decide_eq_false_iff_not] at h;obtain ⟨⟨⟨⟨h1,h2⟩,h3⟩,h4⟩,h5⟩:=h;exact ⟨p.tasks.toNat,by omega,by omega,by omega,by omega,h3,h4,h5⟩
theorem jgl {p:Pl} (h:vF p=true):jw p=1:=by simp [jw,h]
theorem jlw {p:Pl} (h:vF p=false) {e:Ed} (he:e∈p.edges) (h2:jir p.tasks e=true):jw p=2:=by
 have:p.edges.any (jir p.tasks)=true:=List.any_eq_true.2 ⟨e,he,h2⟩;simp [jw,h,this]
theorem jwW {p:Pl} (h:vF p=false) (h2:p.edges.any (jir p.tasks)=false) (h3:¬p.edges.Nodup):jw p=3:=by simp [jw,h,h2,h3]
theorem jwX {p:Pl} (h:vF p=false) (h2:p.edges.any (jir p.tasks)=false) (h3:p.edges.Nodup) {t:Nat} (ht:(t:Int)<p.tasks) (h4:Rc p.edges t t):jw p=4:=by
 have:jA3 p=true:=by simp only [jA3,decide_eq_true_eq];exact ⟨t,ht,h4⟩
 simp [jw,h,h2,h3,this]
theorem jx7 {p:Pl} (h:vF p=false) (h2:p.edges.any (jir p.tasks)=false) (h3:p.edges.Nodup) (h4:∀t:Nat,(t:Int)<p.tasks→¬Rc p.edges t t):jw p=0:=by
 have:jA3 p=false:=by simp only [jA3,decide_eq_false_iff_not,not_exists,not_and];exact h4
 simp [jw,h,h2,h3,this]
theorem jqH {α:Type} {f:α→Bool} {l:List α} {k:Nat} {x:α} (h:l[k]?=some x) (hx:f x=false) (hn:(l.take k).any f=false):(l.take (k+1)).any f=false:=by
 rw [List.take_add_one,h];simp_all
theorem jqm {l:List Ed} {k j:Nat} {x:Ed} (h:l[k]?=some x) (hj:j<k) (hx:l[j]?=some x):¬l.Nodup:=by
 intro hd;obtain ⟨h1,h2⟩:=List.getElem?_eq_some_iff.1 h;obtain ⟨h3,h4⟩:=List.getElem?_eq_some_iff.1 hx;exact List.pairwise_iff_getElem.1 hd j k h3 h1 hj (h4.trans h2.symm)
theorem jkI {l:List Ed} {k:Nat} {x:Ed} (h:l[k]?=some x) (hn:(l.take k).Nodup) (hx:x∉l.take k):(l.take (k+1)).Nodup:=by
 rw [List.take_add_one,h];simp only [Option.toList_some];rw [List.nodup_append];exact ⟨hn,by simp,fun a ha b hb e=>by simp at hb;subst hb;exact hx (e▸ha)⟩
theorem vD (p:Pl):kp Tryz.prog 186 [.agg (ja p)] (.c (.val (.int .i64 (jw p)))):=by
 refine js Tryz.func186 jeD (by simp) ?_
 unfold jbU;simp only [go_sem,ja];intro b;refine jc (jjP p) (by simp only [go_sem,ja]) fun η=>?_
 simp only [go_sem,ja];cases hm:vF p;rotate_left
 ·simp only [go_sem,ja,hm,jgl hm]
 obtain ⟨n,hn,hn1,hn12,hel,-⟩:=jtA hm;have hw1:IntKind.i64.wrap ((n:Int)-1)=n-1:=jg (by omega) (by omega)
 simp only [go_sem,ja,hm];refine jp (fun i:Nat=>St.of [(1,Bx 100 b),(3,Ni i)] [(100,Bi b _ (ja p))]) (fun i=>i≤p.edges.length∧(p.edges.take i).any (jir n)=false) (fun i=>p.edges.length-i) 0 (by (try dsimp only);first|omega|(simp;done)|(and_intros<;>first|omega|simp)) (jj [some 100] (by simp only [go_sem,ja]<;>and_intros<;>first|rfl|assumption|trivial)) ?_
 rintro k ⟨hk,hko⟩;by_cases hlt:k<p.edges.length
 ·have hlt':(k:Int)<p.edges.length:=by omega
  obtain ⟨e,he⟩:=je hlt;have hw:IntKind.i64.wrap ((k:Int)+1)=((k+1:Nat):Int):=jg (by omega) (by omega)
  simp only [go_sem,ja,hn,hlt,hlt',jx he,jP,hw1];refine jc (jJ e.src 0 (n-1)) (by simp only [go_sem,ja,hlt,hlt',jx he,jP,hw1]) fun η=>?_
  simp only [go_sem,ja,hlt,hlt',jx he,jP,hw1];cases h1:decide (0≤e.src∧e.src≤n-1)
  ·have hbe:jir p.tasks e=true:=by simp [jir,inB,hn,h1]
   simp only [go_sem,ja,h1,jlw hm (List.mem_of_getElem? he) hbe]
  ·simp only [go_sem,ja,h1,hlt,hlt',jx he,jP,hw1,hn]
   refine jc (jJ e.dst 0 (n-1)) (by simp only [go_sem,ja,hlt,hlt',jx he,jP,hw1]) fun η=>?_
   simp only [go_sem,ja,hlt,hlt',jx he,jP,hw1];cases h2:decide (0≤e.dst∧e.dst≤n-1)
   ·have hbe:jir p.tasks e=true:=by simp [jir,inB,hn,h2]
    simp only [go_sem,ja,h2,jlw hm (List.mem_of_getElem? he) hbe]
   ·have hbe:jir n e=false:=by simp [jir,inB,h1,h2]
    simp only [go_sem,ja,h2,hw];exact ⟨k+1,⟨hlt,jqH he hbe hko⟩,(jj [some 100] (by simp only [go_sem,ja]<;>and_intros<;>first|rfl|assumption|trivial)),by (try dsimp only);omega⟩
 have hlt':¬(k:Int)<p.edges.length:=by omega
 rw [List.take_of_length_le (by omega),←hn] at hko
 have hes:=jtu hko;simp only [go_sem,ja,hlt'];refine jp (fun i:Nat=>St.of [(1,Bx 100 b),(4,Ni i)] [(100,Bi b _ (ja p))]) (fun i=>i≤p.edges.length∧(p.edges.take i).Nodup) (fun i=>p.edges.length-i) 0 (by (try dsimp only);first|omega|(simp;done)|(and_intros<;>first|omega|simp)) (jj [some 100] (by simp only [go_sem,ja]<;>and_intros<;>first|rfl|assumption|trivial)) ?_
 rintro j ⟨hj,hjo⟩;by_cases hjl:j<p.edges.length
 ·have hjl':(j:Int)<p.edges.length:=by omega
  obtain ⟨e,he⟩:=je hjl;have hw:IntKind.i64.wrap ((j:Int)+1)=((j+1:Nat):Int):=jg (by omega) (by omega)
  simp only [go_sem,ja,hjl'];refine jp (fun i:Nat=>St.of [(1,Bx 100 b),(4,Ni j),(5,Ni i)] [(100,Bi b _ (ja p))]) (fun i=>i≤j∧e∉p.edges.take i) (fun i=>j-i) 0 (by (try dsimp only);first|omega|(simp;done)|(and_intros<;>first|omega|simp)) (jj [some 100] (by simp only [go_sem,ja]<;>and_intros<;>first|rfl|assumption|trivial)) ?_
  rintro m ⟨hm1,hmo⟩;by_cases hml:m<j
  ·have hml':(m:Int)<j:=by omega
   obtain ⟨e2,he2⟩:=je (show m<p.edges.length by omega)
   have hw2:IntKind.i64.wrap ((m:Int)+1)=((m+1:Nat):Int):=jg (by omega) (by omega)
   have hm3:m<p.edges.length:=by omega
   have hm3':(m:Int)<p.edges.length:=by omega
   by_cases heq:e=e2
   ·subst heq
    simp only [go_sem,ja,hml',hjl,hjl',hm3,hm3',jx he,jx he2,jP,jwW hm hko (jqm he hml he2)]
   ·simp only [go_sem,ja,hml',hjl,hjl',hm3,hm3',jx he,jx he2,jP,heq,hw2]
    exact ⟨m+1,⟨hml,fun h'=>by rw [List.take_add_one,he2] at h';simp at h';rcases h' with h'|h';exact hmo h';exact heq h'⟩,(jj [some 100] (by simp only [go_sem,ja]<;>and_intros<;>first|rfl|assumption|trivial)),by (try dsimp only);omega⟩
  ·have hml':¬(m:Int)<j:=by omega
   obtain rfl:m=j:=by omega
   simp only [go_sem,ja,hml',hw];exact ⟨m+1,⟨hjl,jkI he hjo hmo⟩,(jj [some 100] (by simp only [go_sem,ja]<;>and_intros<;>first|rfl|assumption|trivial)),by (try dsimp only);omega⟩
 have hjl':¬(j:Int)<p.edges.length:=by omega
 rw [List.take_of_length_le (by omega)] at hjo
 simp only [go_sem,ja,hjl'];refine jp (fun i:Nat=>St.of [(1,Bx 100 b),(6,Ni i)] [(100,Bi b _ (ja p))]) (fun i=>i≤n∧∀t:Nat,t<i→¬Rc p.edges t t) (fun i=>n-i) 0 (by (try dsimp only);first|omega|(simp;done)|(and_intros<;>first|omega|simp)) (jj [some 100] (by simp only [go_sem,ja]<;>and_intros<;>first|rfl|assumption|trivial)) ?_
 rintro t ⟨ht,hto⟩;by_cases htl:t<n
 ·have htl':(t:Int)<n:=by omega
  have hw:IntKind.i64.wrap ((t:Int)+1)=((t+1:Nat):Int):=jg (by omega) (by omega)
  have hes':∀e∈p.edges,okE n e:=fun e he=>by have:=hes e he;rwa [hn,Int.toNat_natCast] at this
  simp only [go_sem,ja,hn,htl'];refine jc (jjQ p n hn hn12 hel hes' t htl) (by simp only [go_sem,ja,hn]) fun η=>?_
  simp only [go_sem,ja,hn];cases hr:rcB p.edges t t
  ·have hg:(ji9 p.edges n t)[t]?=some false:=by rw [jnz htl,hr]
   simp only [go_sem,ja,htl,htl',jfc,jeJ hg,jbz (show t<(ji9 p.edges n t).length by rw [jfc];exact htl),hw]
   exact ⟨t+1,⟨htl,fun s hs h'=>by rcases Nat.lt_or_ge s t with h2|h2;exact hto s h2 h';obtain rfl:s=t:=(by omega);rw [rcB_iff.2 h'] at hr;cases hr⟩,(jj [some 100] (by simp only [go_sem,ja]<;>and_intros<;>first|rfl|assumption|trivial)),by (try dsimp only);omega⟩
  ·have hg:(ji9 p.edges n t)[t]?=some true:=by rw [jnz htl,hr]
   simp only [go_sem,ja,htl,htl',jfc,jeJ hg,jbz (show t<(ji9 p.edges n t).length by rw [jfc];exact htl),hw,jwX hm hko hjo (by rw [hn];exact htl') (rcB_iff.1 hr)]
 ·have htl':¬(t:Int)<n:=by omega
  simp only [go_sem,ja,hn,htl',jx7 hm hko hjo (fun s hs=>hto s (by omega))]
theorem jtn (l:List Ed) (e:Ed) (hl:l.length≤4000000):kp Tryz.prog 287 [.c (jy l),.agg (jP e)] (.c (.val (.int .i64 (jdm (fun x=>decide (e=x)) l)))):=by
 refine js Tryz.func287 vm (by simp) ?_
 unfold qc;simp only [go_sem,jP];intro b;refine jp (fun i:Nat=>St.of [(0,Ro (jy l)),(3,Bx 300 b),(7,Ni l.length),(8,Ni i)] [(300,Bi b _ (jP e))]) (fun i=>i≤l.length∧∀y∈l.take i,(fun x=>decide (e=x)) y=false) (fun i=>l.length-i) 0 (by (try dsimp only);first|omega|(simp;done)|(and_intros<;>first|omega|simp)) (jj [some 300] (by simp only [go_sem,jP]<;>and_intros<;>first|rfl|assumption|trivial)) ?_
 rintro k ⟨hk,hko⟩;by_cases hlt:k<l.length
 ·have hlt':(k:Int)<l.length:=by omega
  obtain ⟨x,hx⟩:=je hlt;have hw:IntKind.i64.wrap ((k:Int)+1)=((k+1:Nat):Int):=jg (by omega) (by omega)
  by_cases heq:e=x
  ·subst heq
   simp only [go_sem,jP,hlt,hlt',jx hx,jbe hx (decide_eq_true rfl) hko]
  ·simp only [go_sem,jP,hlt,hlt',jx hx,heq,hw]
   exact ⟨k+1,⟨hlt,jle hx (decide_eq_false heq) hko⟩,(jj [some 300] (by simp only [go_sem,jP]<;>and_intros<;>first|rfl|assumption|trivial)),by (try dsimp only);omega⟩
 ·have hlt':¬(k:Int)<l.length:=by omega
  rw [List.take_of_length_le (by omega)] at hko
  simp only [go_sem,jP,hlt',jab hko]
theorem jna (l:List Ed) (e:Ed) (hl:l.length≤4000000):kp Tryz.prog 271 [.c (jy l),.agg (jP e)] (.c (.val (.bool (decide (e∈l))))):=by
 refine js Tryz.func271 qP (by simp) ?_
 unfold kN;simp only [go_sem,jP];intro b;refine jc (jtn l e hl) (by simp only [go_sem,jP]) fun η=>?_
 simp only [go_sem,jP];rcases zl (fun x=>decide (e=x)) l with ⟨h1,h2⟩|⟨k,x,h1,h2,h3,-⟩
 ·have hm:decide (e∈l)=false:=decide_eq_false fun h=>by have:=h2 e h;simp at this
  rw [h1,hm];simp only [go_sem]
 ·have hm:decide (e∈l)=true:=decide_eq_true (by have:e=x:=by simpa using h3
                                                exact this▸List.mem_of_getElem? h2)
  have hk:(k:Int)≥0:=by omega
  rw [h1,hm];simp only [go_sem,hk]
theorem jpc {a:Nat} (h:a<4096):(BitVec.ofInt 64 (a:Int))=BitVec.ofNat 64 a:=by
 apply BitVec.eq_of_toNat_eq
 simp
theorem jvF {a b:Nat} (ha:a<4096) (hb:b<4096):IntKind.i64.wrap ((BitVec.ofInt 64 (a:Int)|||BitVec.ofInt 64 (b:Int)).toNat:Int)=((a|||b:Nat):Int):=by
 have hab:a|||b<2^12:=Nat.or_lt_two_pow ha hb
 have e:(BitVec.ofInt 64 (a:Int)|||BitVec.ofInt 64 (b:Int)).toNat=a|||b:=by
  rw [jpc ha,jpc hb,BitVec.toNat_or,BitVec.toNat_ofNat,BitVec.toNat_ofNat,Nat.mod_eq_of_lt (by omega),Nat.mod_eq_of_lt (by omega)]
 rw [e];exact jg (by omega) (by omega)
theorem jsM {d:Int} (h0:0≤d) (h:d<12):IntKind.i64.wrap (1*2^min d.toNat 64)=((2^d.toNat:Nat):Int):=by
 have e:min d.toNat 64=d.toNat:=Nat.min_eq_left (by omega)
 have hlt:2^d.toNat<4096:=(show 2^d.toNat<2^12 from Nat.pow_lt_pow_right (by omega) (by omega))
 rw [e,Int.one_mul,show (2:Int)^d.toNat=((2^d.toNat:Nat):Int) by simp]
 generalize 2^d.toNat=q at*;exact jg (by omega) (by omega)
theorem jww {a t:Nat} (ha:a<4096) (ht:t<12):(IntKind.i64.wrap ((BitVec.ofInt 64 (Int.fdiv (a:Int) (2^min t 64))&&&BitVec.ofInt 64 1).toNat:Int)==1)=a.testBit t:=by
 have e:min t 64=t:=Nat.min_eq_left (by omega)
 have e1:Int.fdiv (a:Int) (2^t)=((a/2^t:Nat):Int):=by
  rw [show (2:Int)^t=((2^t:Nat):Int) by simp,Int.fdiv_eq_ediv_of_nonneg _ (Int.natCast_nonneg _)];rfl
 have hq:a/2^t<4096:=Nat.lt_of_le_of_lt (Nat.div_le_self _ _) ha
 have e2:(BitVec.ofInt 64 ((a/2^t:Nat):Int)&&&BitVec.ofInt 64 1).toNat=(a/2^t)%2:=by
  rw [jpc hq,show BitVec.ofInt 64 1=BitVec.ofNat 64 1 from rfl,BitVec.toNat_and,BitVec.toNat_ofNat,BitVec.toNat_ofNat,Nat.mod_eq_of_lt (by omega),Nat.mod_eq_of_lt (by omega)]
  exact Nat.and_one_is_mod _
 rw [e,e1,e2,jg (by omega) (by omega),Nat.testBit_eq_decide_div_mod_eq]
 by_cases h:a/2^t%2=1
 ·rw [h];rfl
 ·have h0:a/2^t%2=0:=by omega
  rw [h0];rfl
theorem jnc {a b:Nat} (ha:a<4096) (hb:b<4096):IntKind.i64.wrap ((@BitVec.toNat 64 (@HOr.hOr (BitVec 64) (BitVec 64) (BitVec 64) (@instHOrOfOrOp (BitVec IntKind.i64.bits) (@BitVec.instOrOp IntKind.i64.bits)) (BitVec.ofInt 64 (a:Int)) (BitVec.ofInt 64 (b:Int))):Nat):Int)=((a|||b:Nat):Int):=jvF ha hb
theorem juC {a t:Nat} (ha:a<4096) (ht:t<12):(IntKind.i64.wrap ((@BitVec.toNat 64 (@HAnd.hAnd (BitVec 64) (BitVec 64) (BitVec 64) (@instHAndOfAndOp (BitVec IntKind.i64.bits) (@BitVec.instAndOp IntKind.i64.bits)) (BitVec.ofInt 64 (Int.fdiv (a:Int) (2^min t 64))) (BitVec.ofInt 64 1)):Nat):Int)==1)=a.testBit t:=jww ha ht
def zL (S:List Nat):List Int:=S.map fun (k:Nat)=>(k:Int)
theorem jeN (S:List Nat):(zL S).length=S.length:=by simp [zL]
theorem jsf {S:List Nat} {k:Nat} (h:k<S.length):(zL S)[k]?=some ((S.getD k 0:Nat):Int):=by simp [zL,h]
theorem jy7 (S:List Nat) (k v:Nat):(zL S).set k (v:Int)=zL (S.set k v):=by simp [zL,List.map_set]
theorem jvu {es:List Ed} {k:Nat} {e:Ed} (h:es[k]?=some e) (S:List Nat):(es.take (k+1)).foldl zE S=zE ((es.take k).foldl zE S) e:=by
 rw [List.take_add_one,h];simp
theorem jo2 {n:Nat}:∀{l:List Ed} {S:List Nat},(∀e∈l,okE n e)→(∀x∈S,x<2^n)→∀x∈l.foldl zE S,x<2^n
 |[],_,_,h=>h
 |e::l,S,hl,h=>jo2 (l:=l) (S:=zE S e) (fun e he=>hl e (by simp [he])) (jxx (hl e (by simp)) h)
theorem jop {n:Nat} {es:List Ed} (hes:∀e∈es,okE n e):∀(k:Nat),∀x∈joc es k (List.replicate n 0),x<2^n
 |0=>fun x hx=>by simp [joc] at hx;have:=Nat.two_pow_pos n;omega
 |k+1=>jo2 hes (jop hes k)
theorem jo1 {S:List Nat} {n:Nat} (h:∀x∈S,x<2^n) (hn:n≤12) (k:Nat):S.getD k 0<4096:=by
 have h2:2^n≤2^12:=Nat.pow_le_pow_right (by omega) hn
 rw [List.getD_eq_getElem?_getD];cases hk:S[k]? with
 |none=>simp
 |some v=>have:=h v (List.mem_of_getElem? hk);simp;omega
def jhn:C:=iS [iA 1 (.box 71 5 (.t 0)),iA 2 (.mov (.c (.slice none 0 0)))] (iS [iA 6 (iF 3 1),iA 7 (iL 6),iA 8 (.mks 3 1 8 [D.val (.int .i64 0)] (.t 7) (.t 7)),iA 3 (iM 8)] (.seq (iS [iA 9 (iF 3 1),iA 10 (iL 9),iA 11 (iN 0)] (.blk 0 (.loop (iS [iA 12 (iP .lss 3 11 10)] (.seq (iD 12 .skip (.exit 0)) (.seq (.blk 1 (iS [iA 13 (iF 4 1),iA 14 (iL 13),iA 15 (iG 14),iA 16 (iN 0)] (.blk 2 (.loop (iS [iA 17 (iP .lss 3 16 15)] (.seq (iD 17 .skip (.exit 2)) (.seq (.blk 3 (iS [iA 18 (iI 2 14 16),iA 19 (iT 2 18),iA 5 (.alloc 253 [.int .i64 0,.int .i64 0]),iC (.st 2 [none,none] (.t 5) (.t 19))] (.dreg (T.pure 0 (iA 20 (iM 3)) (T.pure 1 (iA 21 (iF 0 5)) (T.pure 2 (iA 22 (iL 21)) (T.pure 3 (iA 23 (iI 1 20 22)) (T.pure 4 (iA 24 (iL 23)) (T.pure 5 (iA 25 (iF 1 5)) (T.pure 6 (iA 26 (iL 25)) (T.pure 7 (iA 27 (.bin .shl 3 (.c (.int .i64 1)) (.t 26))) (T.pure 8 (iA 28 (iM 3)) (T.pure 9 (iA 29 (iF 1 5)) (T.pure 10 (iA 30 (iL 29)) (T.pure 11 (iA 31 (iI 1 28 30)) (T.pure 12 (iA 32 (iL 31)) (T.pure 13 (iA 33 (iP .or 3 27 32)) (T.pure 14 (iA 34 (iP .or 3 24 33)) (T.pure 15 (iA 35 (iI 1 20 22)) (T.alt (iC (.st 1 [none] (.t 35) (.t 34))) [] T.done T.stop)))))))))))))))))))) (.reg [iA 36 (iQ .add 3 16 1),iA 16 (iM 36)])))))))) (.reg [iA 37 (iQ .add 3 11 1),iA 11 (iM 37)]))))))) (iS [iA 38 (iM 3),iA 2 (iM 38)] .ret)))
theorem jjr:fnC Tryz.prog Tryz.f272=some (jhn,[.t 2],39):=by kernel_rfl
def jbY:C:=iS [iA 1 (.box 71 5 (.t 0)),iA 2 (iN 0)] (.seq (iS [iA 9 (iF 3 1),iA 10 (iL 9),iA 11 (.call 78 [.t 10,.c (.int .i64 1),.c (.int .i64 12)]),iA 12 (iU 11),iA 13 (iM 12),iB 14 13 false (iF 4 1),iB 15 13 false (iL 14),iB 16 13 false (iG 15),iB 17 13 false (iQ .gtr 3 16 30),iA 18 (.pick (.t 13) (.c (.bool true)) (.t 17)),iA 19 (iM 18),iB 20 19 false (iF 0 1),iB 21 19 false (iL 20),iB 22 19 false (.call 78 [.t 21,.c (.int .i64 0),.c (.int .i64 9)]),iB 23 19 false (iU 22),iA 24 (.pick (.t 19) (.c (.bool true)) (.t 23)),iA 25 (iM 24),iB 26 25 false (iF 1 1),iB 27 25 false (iL 26),iB 28 25 false (.call 78 [.t 27,.c (.int .i64 1),.c (.int .i64 5)]),iB 29 25 false (iU 28),iA 30 (.pick (.t 25) (.c (.bool true)) (.t 29)),iA 31 (iM 30),iB 32 31 false (iF 2 1),iB 33 31 false (iL 32),iB 34 31 false (.call 78 [.t 33,.c (.int .i64 1),.c (.int .i64 20)]),iB 35 31 false (iU 34),iA 36 (.pick (.t 31) (.c (.bool true)) (.t 35))] (iD 36 (iS [iA 2 (iN 1)] .ret) .skip)) (.seq (iS [iA 37 (iF 4 1),iA 38 (iL 37),iA 39 (iG 38),iA 40 (iN 0)] (.blk 0 (.loop (iS [iA 41 (iP .lss 3 40 39)] (.seq (iD 41 .skip (.exit 0)) (.seq (.blk 1 (iS [iA 42 (iI 2 38 40),iA 43 (iT 2 42),iA 4 (.alloc 253 [.int .i64 0,.int .i64 0]),iC (.st 2 [none,none] (.t 4) (.t 43))] (iS [iA 44 (iF 0 4),iA 45 (iL 44),iA 46 (iF 3 1),iA 47 (iL 46),iA 48 (iQ .sub 3 47 1),iA 49 (.call 78 [.t 45,.c (.int .i64 0),.t 48]),iA 50 (iU 49),iA 51 (iM 50),iB 52 51 false (iF 1 4),iB 53 51 false (iL 52),iB 54 51 false (iF 3 1),iB 55 51 false (iL 54),iB 56 51 false (iQ .sub 3 55 1),iB 57 51 false (.call 78 [.t 53,.c (.int .i64 0),.t 56]),iB 58 51 false (iU 57),iA 59 (.pick (.t 51) (.c (.bool true)) (.t 58))] (iD 59 (iS [iA 2 (iN 2)] .ret) .skip)))) (.reg [iA 60 (iQ .add 3 40 1),iA 40 (iM 60)]))))))) (.seq (iS [iA 61 (iF 4 1),iA 62 (iL 61),iA 63 (iG 62),iA 64 (iN 0)] (.blk 2 (.loop (iS [iA 65 (iP .lss 3 64 63)] (.seq (iD 65 .skip (.exit 2)) (.seq (.blk 3 (iS [iA 66 (iM 64),iA 67 (iI 2 62 64),iA 68 (iT 2 67),iA 6 (.alloc 253 [.int .i64 0,.int .i64 0]),iA 5 (iM 66),iC (.st 2 [none,none] (.t 6) (.t 68))] (.seq (.dreg (T.pure 0 (iA 69 (iF 4 1)) (T.pure 1 (iA 70 (iL 69)) (T.pure 2 (iA 71 (iM 5)) (T.pure 3 (iA 72 (.sl 2 (.t 70) none (some (.t 71)))) (T.pure 4 (iA 73 (iT 2 6)) (T.alt (iA 74 (.call 271 [.t 72,.t 73])) [] T.done T.stop))))))) (iD 74 (iS [iA 2 (iN 3)] .ret) .skip)))) (.reg [iA 75 (iQ .add 3 64 1),iA 64 (iM 75)]))))))) (.seq (iS [iA 76 (iT 5 1),iA 77 (.call 272 [.t 76]),iA 78 (iG 77),iA 79 (iN 0)] (.blk 4 (.loop (iS [iA 80 (iP .lss 3 79 78)] (.seq (iD 80 .skip (.exit 4)) (.seq (.blk 5 (iS [iA 81 (iM 79),iA 82 (iI 1 77 79),iA 83 (iL 82),iA 7 (iM 81),iA 8 (iM 83)] (iS [iA 84 (iM 8),iA 85 (iM 7),iA 86 (iP .shr 3 84 85),iA 87 (iQ .and 3 86 1),iA 88 (iQ .eql 3 87 1)] (iD 88 (iS [iA 2 (iN 4)] .ret) .skip)))) (.reg [iA 89 (iQ .add 3 79 1),iA 79 (iM 89)]))))))) (iS [iA 2 (iN 0)] .ret)))))
theorem jeH:fnC Tryz.prog Tryz.f210=some (jbY,[.t 2],90):=by kernel_rfl
theorem jm8 (p:Pl) (n:Nat) (hn:p.tasks=n) (h12:n≤12) (h30:p.edges.length≤30) (hes:∀e∈p.edges,okE n e):kp Tryz.prog 272 [.agg (ja p)] (.c (jh (zL (jdy p.edges n)))):=by
 refine js Tryz.func272 jjr (by simp) ?_
 unfold jhn;have hrep:jh (List.replicate n 0)=jh (zL (joc p.edges 0 (List.replicate n 0))):=by simp [joc,zL]
 simp only [go_sem,ja,hn];intro b;rw [jsV];refine ⟨.i64,.i64,n,by simp only [go_sem],by simp only [go_sem],by omega,by unfold maxLen;omega,fun η=>?_⟩
 simp only [go_sem,ja,hn,jyg,hrep];refine jp (fun i:Nat×jq=>St.of [(1,Bx 100 b),(3,Hd 3 i.2),(10,Ni n),(11,Ni i.1)] [(100,Bi b _ (ja p)),(3,.loose (jh (zL (joc p.edges i.1 (List.replicate n 0)))) i.2)]) (fun i=>i.1≤n) (fun i=>n-i.1) (0,η) (by (try dsimp only);first|omega|(simp;done)|(and_intros<;>first|omega|simp)) (jj [some 100,some 800] (by simp only [go_sem,ja,hn]<;>and_intros<;>first|rfl|assumption|trivial)) ?_
 rintro ⟨k,η1⟩ hk;dsimp only at hk;by_cases hlt:k<n
 ·have hlt':(k:Int)<n:=by omega
  have hw:IntKind.i64.wrap ((k:Int)+1)=((k+1:Nat):Int):=jg (by omega) (by omega)
  have hSl:=jpE (es:=p.edges) k (List.replicate n 0);have hSb:=jop hes k;rw [List.length_replicate] at hSl;have hnext:joc p.edges (k+1) (List.replicate n 0)=p.edges.foldl zE (joc p.edges k (List.replicate n 0)):=rfl;dsimp only;generalize joc p.edges k (List.replicate n 0)=S at*;simp only [go_sem,ja,hlt',hn];refine jp (fun i:Nat×jq=>St.of [(1,Bx 100 b),(3,Hd 3 i.2),(10,Ni n),(11,Ni k),(14,Ro (jy p.edges)),(15,Ni p.edges.length),(16,Ni i.1)] [(100,Bi b _ (ja p)),(3,.loose (jh (zL ((p.edges.take i.1).foldl zE S))) i.2)]) (fun i=>i.1≤p.edges.length) (fun i=>p.edges.length-i.1) (0,η1) (by (try dsimp only);first|omega|(simp;done)|(and_intros<;>first|omega|simp)) (jj [some 100,some 3] (by simp only [go_sem,ja,hn,List.take_zero,List.foldl_nil]<;>and_intros<;>first|rfl|assumption|trivial)) ?_
  rintro ⟨j,η2⟩ hj;dsimp only at hj;by_cases hjt:j<p.edges.length
  ·have hjt':(j:Int)<p.edges.length:=by omega
   obtain ⟨e,he⟩:=je hjt;have hm:e∈p.edges:=List.mem_of_getElem? he;obtain ⟨⟨e1,e2⟩,e3,e4⟩:=hes e hm;have hwj:IntKind.i64.wrap ((j:Int)+1)=((j+1:Nat):Int):=jg (by omega) (by omega)
   have hTl:=jl8 (p.edges.take j) S;have hTb:=jo2 (n:=n) (l:=p.edges.take j) (S:=S) (fun e he=>hes e (List.mem_of_mem_take he)) hSb
   have htk:=jvu he S;dsimp only;generalize (p.edges.take j).foldl zE S=U at*;have hsl:e.src.toNat<U.length:=by omega
   have hdl:e.dst.toNat<U.length:=by omega
   have hs':=jsf hsl;have hd':=jsf hdl;have hzs:e.src.toNat<(zL U).length:=by rw [jeN];exact hsl
   have hzd:e.dst.toNat<(zL U).length:=by rw [jeN];exact hdl
   have hu1:=jo1 hTb h12 e.src.toNat;have hu2:=jo1 hTb h12 e.dst.toNat;have hp:2^e.dst.toNat<4096:=(show 2^e.dst.toNat<2^12 from Nat.pow_lt_pow_right (by omega) (by omega))
   have ho:2^e.dst.toNat|||U.getD e.dst.toNat 0<4096:=Nat.or_lt_two_pow (n:=12) hp hu2
   have hst:(zL U).set e.src.toNat ((U.getD e.src.toNat 0|||(2^e.dst.toNat|||U.getD e.dst.toNat 0):Nat):Int)=zL (zE U e):=jy7 _ _ _
   simp only [go_sem,ja,hn,hjt,hjt',jx he,jP,e1,e3,hsl,hdl,jeN];intro b2;simp only [go_sem,ja,hn,hjt,hjt',jP,e1,e3,hsl,hdl,jeN,jk hs',ji hzs,jk hd',ji hzd,jsM e3 (by omega),jnc hp hu2,jnc hu1 ho,jbv _ hzs,hst,hwj]
   exact ⟨(j+1,η2),by (try dsimp only);first|omega|assumption|(and_intros<;>first|omega|assumption),(jj [some 100,some 3] (by simp only [go_sem,ja,hn,htk]<;>and_intros<;>first|rfl|assumption|trivial)),by (try dsimp only);omega⟩
  ·have hjt':¬(j:Int)<p.edges.length:=by omega
   rw [List.take_of_length_le (by omega)]
   simp only [go_sem,ja,hn,hjt',hw];exact ⟨(k+1,η2),by (try dsimp only);first|omega|assumption|(and_intros<;>first|omega|assumption),(jj [some 100,some 3] (by simp only [go_sem,ja,hn,hnext]<;>and_intros<;>first|rfl|assumption|trivial)),by (try dsimp only);omega⟩
 ·have hlt':¬(k:Int)<n:=by omega
  obtain rfl:k=n:=by omega
  simp only [go_sem,ja,hn,hlt',jdy]
theorem qe (p:Pl) (hpl:p.edges.length≤4000000):kp Tryz.prog 210 [.agg (ja p)] (.c (.val (.int .i64 (jw p)))):=by
 refine js Tryz.func210 jeH (by simp) ?_
 unfold jbY;simp only [go_sem,ja];intro b;refine jc (jD p.tasks 1 12) (by simp only [go_sem,ja]) fun η=>?_
 simp only [go_sem,ja];cases h1:decide (1≤p.tasks∧p.tasks≤12)
 ·simp only [go_sem,ja,h1,jgl (show vF p=true by simp [vF,inB,h1])]
 by_cases h2:30<p.edges.length
 ·have h2':(p.edges.length:Int)>30:=by omega
  simp only [go_sem,ja,h1,h2',jgl (show vF p=true by simp [vF,inB,h1,h2])]
 have h2':¬(p.edges.length:Int)>30:=by omega
 simp only [go_sem,ja,h1,h2'];refine jc (jD p.prio 0 9) (by simp only [go_sem,ja]) fun η=>?_
 simp only [go_sem,ja];cases h3:decide (0≤p.prio∧p.prio≤9)
 ·simp only [go_sem,ja,h3,jgl (show vF p=true by simp [vF,inB,h3])]
 simp only [go_sem,ja,h3];refine jc (jD p.most 1 5) (by simp only [go_sem,ja]) fun η=>?_
 simp only [go_sem,ja];cases h4:decide (1≤p.most∧p.most≤5)
 ·simp only [go_sem,ja,h4,jgl (show vF p=true by simp [vF,inB,h4])]
 simp only [go_sem,ja,h4];refine jc (jD p.wait 1 20) (by simp only [go_sem,ja]) fun η=>?_
 simp only [go_sem,ja];cases h5:decide (1≤p.wait∧p.wait≤20)
 ·simp only [go_sem,ja,h5,jgl (show vF p=true by simp [vF,inB,h5])]
 have hm:vF p=false:=by simp [vF,inB,h1,h2,h3,h4,h5]
 obtain ⟨n,hn,hn1,hn12,hel,-⟩:=jtA hm;have hw1:IntKind.i64.wrap ((n:Int)-1)=n-1:=jg (by omega) (by omega)
 simp only [go_sem,ja,h5,hn];refine jp (fun i:Nat=>St.of [(1,Bx 100 b),(38,Ro (jy p.edges)),(39,Ni p.edges.length),(40,Ni i)] [(100,Bi b _ (ja p))]) (fun i=>i≤p.edges.length∧(p.edges.take i).any (jir n)=false) (fun i=>p.edges.length-i) 0 (by (try dsimp only);first|omega|(simp;done)|(and_intros<;>first|omega|simp)) (jj [some 100] (by simp only [go_sem,ja,hn]<;>and_intros<;>first|rfl|assumption|trivial)) ?_
 rintro k ⟨hk,hko⟩;by_cases hlt:k<p.edges.length
 ·have hlt':(k:Int)<p.edges.length:=by omega
  obtain ⟨e,he⟩:=je hlt;have hw:IntKind.i64.wrap ((k:Int)+1)=((k+1:Nat):Int):=jg (by omega) (by omega)
  simp only [go_sem,ja,hn,hlt,hlt',jx he,jP,hw1];intro b2;refine jc (jD e.src 0 (n-1)) (by simp only [go_sem,ja,jP,hw1]) fun η=>?_
  simp only [go_sem,ja,jP,hw1];cases h1:decide (0≤e.src∧e.src≤n-1)
  ·have hbe:jir p.tasks e=true:=by simp [jir,inB,hn,h1]
   simp only [go_sem,ja,h1,jlw hm (List.mem_of_getElem? he) hbe]
  ·simp only [go_sem,ja,h1,jP,hw1,hn]
   refine jc (jD e.dst 0 (n-1)) (by simp only [go_sem,ja,jP,hw1]) fun η=>?_
   simp only [go_sem,ja,jP,hw1];cases h2:decide (0≤e.dst∧e.dst≤n-1)
   ·have hbe:jir p.tasks e=true:=by simp [jir,inB,hn,h2]
    simp only [go_sem,ja,h2,jlw hm (List.mem_of_getElem? he) hbe]
   ·have hbe:jir n e=false:=by simp [jir,inB,h1,h2]
    simp only [go_sem,ja,h2,hw];exact ⟨k+1,⟨hlt,jqH he hbe hko⟩,(jj [some 100] (by simp only [go_sem,ja,hn]<;>and_intros<;>first|rfl|assumption|trivial)),by (try dsimp only);omega⟩
 have hlt':¬(k:Int)<p.edges.length:=by omega
 rw [List.take_of_length_le (by omega),←hn] at hko
 have hes:=jtu hko;have hes':∀e∈p.edges,okE n e:=fun e he=>by have:=hes e he;rwa [hn,Int.toNat_natCast] at this
 simp only [go_sem,ja,hlt',hn];refine jp (fun i:Nat=>St.of [(1,Bx 100 b),(62,Ro (jy p.edges)),(63,Ni p.edges.length),(64,Ni i)] [(100,Bi b _ (ja p))]) (fun i=>i≤p.edges.length∧(p.edges.take i).Nodup) (fun i=>p.edges.length-i) 0 (by (try dsimp only);first|omega|(simp;done)|(and_intros<;>first|omega|simp)) (jj [some 100] (by simp only [go_sem,ja,hn]<;>and_intros<;>first|rfl|assumption|trivial)) ?_
 rintro j ⟨hj,hjo⟩;by_cases hjl:j<p.edges.length
 ·have hjl':(j:Int)<p.edges.length:=by omega
  obtain ⟨e,he⟩:=je hjl;have hw:IntKind.i64.wrap ((j:Int)+1)=((j+1:Nat):Int):=jg (by omega) (by omega)
  have hjle:j≤p.edges.length:=by omega
  simp only [go_sem,ja,hjl,hjl',hjle,jx he,jP,hn];intro b2;refine jc (jna (p.edges.take j) e (by rw [List.length_take];omega)) (by simp only [go_sem,ja,jP]) fun η=>?_
  simp only [go_sem,ja,jP];by_cases hin:e∈p.edges.take j
  ·have hd:¬p.edges.Nodup:=by
    obtain ⟨m,hm1,hm2⟩:=List.getElem_of_mem hin;rw [List.length_take] at hm1;rw [List.getElem_take] at hm2;exact jqm he (show m<j by omega) (by rw [List.getElem?_eq_getElem (by omega),hm2])
   simp only [go_sem,ja,hin,jwW hm hko hd]
  ·simp only [go_sem,ja,hin,hw]
   exact ⟨j+1,⟨hjl,jkI he hjo hin⟩,(jj [some 100] (by simp only [go_sem,ja,hn]<;>and_intros<;>first|rfl|assumption|trivial)),by (try dsimp only);omega⟩
 have hjl':¬(j:Int)<p.edges.length:=by omega
 rw [List.take_of_length_le (by omega)] at hjo
 simp only [go_sem,ja,hjl',hn];refine jc (jm8 p n hn hn12 hel hes') (by simp only [go_sem,ja,hn]) fun η=>?_
 simp only [go_sem,ja,hn];have hwl:=jsl (es:=p.edges) (n:=n);have hwb:=jsm (n:=n) hes';have hwm:∀k:Nat,(jdy p.edges n).getD k 0<4096:=jo1 (jop hes' n) hn12;simp only [go_sem,jeN,hwl];refine jp (fun i:Nat=>St.of [(77,Hd 7700 (η 0)),(78,Ni n),(79,Ni i)] [(7700,.loose (jh (zL (jdy p.edges n))) (η 0))]) (fun i=>i≤n∧∀t:Nat,t<i→¬Rc p.edges t t) (fun i=>n-i) 0 (by (try dsimp only);first|omega|(simp;done)|(and_intros<;>first|omega|simp)) (jj [some 7700] (by simp only [go_sem,jeN,hwl]<;>and_intros<;>first|rfl|assumption|trivial)) ?_
 rintro t ⟨ht,hto⟩;by_cases htl:t<n
 ·have htl':(t:Int)<n:=by omega
  have hw:IntKind.i64.wrap ((t:Int)+1)=((t+1:Nat):Int):=jg (by omega) (by omega)
  have htw:t<(jdy p.edges n).length:=by rw [hwl];exact htl
  have hg:=jsf htw;have hzt:t<(zL (jdy p.edges n)).length:=by rw [jeN];exact htw
  have hbt:=juC (hwm t) (show t<12 by omega)
  have h0t:(t:Int)≥0:=by omega
  cases hr:((jdy p.edges n).getD t 0).testBit t
  ·rw [hr] at hbt
   simp only [go_sem,htl,htl',jeN,hwl,jk hg,ji hzt,hbt,hw];exact ⟨t+1,⟨htl,fun s hs h'=>by rcases Nat.lt_or_ge s t with h2|h2;exact hto s h2 h';obtain rfl:s=t:=(by omega);rw [(hwb s s).2 h'] at hr;cases hr⟩,(jj [some 7700] (by simp only [go_sem]<;>and_intros<;>first|rfl|assumption|trivial)),by (try dsimp only);omega⟩
  ·rw [hr] at hbt
   simp only [go_sem,htl,htl',jeN,hwl,jk hg,ji hzt,hbt,hw,jwX hm hko hjo (by rw [hn];exact htl') ((hwb t t).1 hr)]
 ·have htl':¬(t:Int)<n:=by omega
  simp only [go_sem,htl',jx7 hm hko hjo (fun s hs=>hto s (by omega))]
end Go.Proofs.YtmnpailnelmpiaaGreat
