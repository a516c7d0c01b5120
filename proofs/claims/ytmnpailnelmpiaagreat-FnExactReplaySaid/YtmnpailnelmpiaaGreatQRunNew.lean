/- Parts. -/
import Derived.Test.YtmnpailnelmpiaaGreatQHole
set_option linter.unusedSimpArgs false
set_option linter.unusedVariables false
set_option maxHeartbeats 8000000
set_option maxRecDepth 100000
namespace Go.Proofs.YtmnpailnelmpiaaGreat
open Go.RowKit Go.Sort
def jue (p:Pl) (t:Nat):Tk:=⟨if 0<(jbN p t).length then 1 else 2,((jbN p t).length:Int),0,0⟩
def jdV (p:Pl) (k:Nat):List Tk:=(List.range k).map (jue p)
def qQ (id:Int) (p:Pl):Rn:=⟨id,p,1,jdV p p.tasks.toNat⟩
theorem jsR (p:Pl):jdV p 0=[]:=rfl
theorem jsQ (p:Pl) (k:Nat):jdV p (k+1)=jdV p k++[jue p k]:=by simp [jdV,List.range_succ]
theorem jaY (p:Pl) (k:Nat):(jdV p k).length=k:=by simp [jdV]
theorem jel (l:List Tk) (a b c d:Int):D.sl 4 tTk (l.flatMap jn++[.val (.int .i64 a),.val (.int .i64 b),.val (.int .i64 c),.val (.int .i64 d)])=jx (l++[⟨a,b,c,d⟩]):=by simp [jx,jn]
def je6:C:=iS [iA 3 (.box 71 5 (.t 1)),iA 4 (.alloc 108 [.int .i64 0,.int .i64 0,.int .i64 0,.int .i64 0,.int .i64 0,.slice none 0 0,.int .i64 0,.slice none 0 0]),iA 5 (iO false)] (.seq (iS [iA 9 (iM 0),iA 10 (.call 74 [.t 9,.c (.int .i64 1),.c (.int .i64 9999)]),iA 11 (iU 10),iA 12 (iM 11),iB 13 12 false (iT 5 3),iB 14 12 false (.call 186 [.t 13]),iB 15 12 false (iQ .neq 3 14 0),iA 16 (.pick (.t 12) (.c (.bool true)) (.t 15))] (iD 16 (iS [iA 17 (.bld [.int .i64 0,.int .i64 0,.int .i64 0,.int .i64 0,.int .i64 0,.slice none 0 0,.int .i64 0,.slice none 0 0] []),iC (.st 8 [none,none,none,none,none,some (2,253),none,some (4,172)] (.t 4) (.t 17)),iA 5 (iO false)] .ret) .skip)) (iS [iA 18 (iM 0),iA 19 (iT 5 3),iA 20 (.call 256 [.t 19]),iA 21 (.bld [.int .i64 0,.int .i64 0,.int .i64 0,.int .i64 0,.int .i64 0,.slice none 0 0,.int .i64 0,.slice none 0 0] [(0,1,.t 18),(1,5,.t 20),(6,1,.c (.int .i64 1))]),iA 6 (.alloc 108 [.int .i64 0,.int .i64 0,.int .i64 0,.int .i64 0,.int .i64 0,.slice none 0 0,.int .i64 0,.slice none 0 0]),iC (.st 8 [none,none,none,none,none,some (2,253),none,some (4,172)] (.t 6) (.t 21))] (.seq (iS [iA 7 (iN 0)] (.blk 0 (.loop (.seq (iS [iA 22 (iM 7),iA 23 (iF 3 3),iA 24 (iL 23),iA 25 (iP .lss 3 22 24)] (iD 25 .skip (.exit 0))) (.seq (.blk 1 (iS [iA 28 (iT 5 3),iA 29 (iM 7),iA 30 (.call 259 [.t 28,.t 29]),iA 31 (iG 30),iA 32 (.bld [.int .i64 0,.int .i64 0,.int .i64 0,.int .i64 0] [(0,1,.c (.int .i64 2)),(1,1,.t 31)]),iA 8 (.alloc 172 [.int .i64 0,.int .i64 0,.int .i64 0,.int .i64 0]),iC (.st 4 [none,none,none,none] (.t 8) (.t 32))] (.seq (iS [iA 33 (iF 1 8),iA 34 (iL 33),iA 35 (iQ .gtr 3 34 0)] (iD 35 (.reg [iA 36 (iF 0 8),iC (.st 1 [none] (.t 36) (.c (.int .i64 1)))]) .skip)) (.reg [iA 37 (iF 7 6),iA 38 (iL 37),iA 39 (iT 4 8),iA 40 (.bsl 172 4 1 [none,none,none,none] [(0,4,.t 39)]),iA 41 (.app 172 4 32 (.t 38) (.t 40)),iA 42 (iF 7 6),iC (.st 1 [some (4,172)] (.t 42) (.t 41))])))) (.reg [iA 26 (iM 7),iA 27 (iQ .add 3 26 1),iA 7 (iM 27)])))))) (iS [iA 43 (iT 8 6),iC (.st 8 [none,none,none,none,none,some (2,253),none,some (4,172)] (.t 4) (.t 43)),iA 5 (iO true)] .ret))))
theorem jha:fnC Tryz.prog Tryz.f188=some (je6,[.cell 4 true 8,.t 5],44):=by kernel_rfl
def jfm:C:=iS [iA 3 (.box 71 5 (.t 1)),iA 4 (.alloc 108 [.int .i64 0,.int .i64 0,.int .i64 0,.int .i64 0,.int .i64 0,.slice none 0 0,.int .i64 0,.slice none 0 0]),iA 5 (iO false)] (.seq (iS [iA 9 (iM 0),iA 10 (.call 78 [.t 9,.c (.int .i64 1),.c (.int .i64 9999)]),iA 11 (iU 10),iA 12 (iM 11),iB 13 12 false (iT 5 3),iB 14 12 false (.call 210 [.t 13]),iB 15 12 false (iQ .neq 3 14 0),iA 16 (.pick (.t 12) (.c (.bool true)) (.t 15))] (iD 16 (iS [iA 17 (.bld [.int .i64 0,.int .i64 0,.int .i64 0,.int .i64 0,.int .i64 0,.slice none 0 0,.int .i64 0,.slice none 0 0] []),iC (.st 8 [none,none,none,none,none,some (2,253),none,some (4,172)] (.t 4) (.t 17)),iA 5 (iO false)] .ret) .skip)) (iS [iA 18 (iM 0),iA 19 (iT 5 3),iA 20 (.call 270 [.t 19]),iA 21 (.bld [.int .i64 0,.int .i64 0,.int .i64 0,.int .i64 0,.int .i64 0,.slice none 0 0,.int .i64 0,.slice none 0 0] [(0,1,.t 18),(1,5,.t 20),(6,1,.c (.int .i64 1))]),iA 6 (.alloc 108 [.int .i64 0,.int .i64 0,.int .i64 0,.int .i64 0,.int .i64 0,.slice none 0 0,.int .i64 0,.slice none 0 0]),iC (.st 8 [none,none,none,none,none,some (2,253),none,some (4,172)] (.t 6) (.t 21))] (.seq (iS [iA 7 (iN 0)] (.blk 0 (.loop (.seq (iS [iA 22 (iM 7),iA 23 (iF 3 3),iA 24 (iL 23),iA 25 (iP .lss 3 22 24)] (iD 25 .skip (.exit 0))) (.seq (.blk 1 (iS [iA 28 (iT 5 3),iA 29 (iM 7),iA 30 (.call 273 [.t 28,.t 29]),iA 31 (iG 30),iA 32 (.bld [.int .i64 0,.int .i64 0,.int .i64 0,.int .i64 0] [(0,1,.c (.int .i64 1)),(1,1,.t 31)]),iA 8 (.alloc 172 [.int .i64 0,.int .i64 0,.int .i64 0,.int .i64 0]),iC (.st 4 [none,none,none,none] (.t 8) (.t 32))] (.seq (iS [iA 33 (iF 1 8),iA 34 (iL 33),iA 35 (iQ .eql 3 34 0)] (iD 35 (.reg [iA 36 (iF 0 8),iC (.st 1 [none] (.t 36) (.c (.int .i64 2)))]) .skip)) (.reg [iA 37 (iF 7 6),iA 38 (iL 37),iA 39 (iT 4 8),iA 40 (.bsl 172 4 1 [none,none,none,none] [(0,4,.t 39)]),iA 41 (.app 172 4 32 (.t 38) (.t 40)),iA 42 (iF 7 6),iC (.st 1 [some (4,172)] (.t 42) (.t 41))])))) (.reg [iA 26 (iM 7),iA 27 (iQ .add 3 26 1),iA 7 (iM 27)])))))) (iS [iA 43 (iT 8 6),iC (.st 8 [none,none,none,none,none,some (2,253),none,some (4,172)] (.t 4) (.t 43)),iA 5 (iO true)] .ret))))
theorem jhq:fnC Tryz.prog Tryz.f212=some (jfm,[.cell 4 true 8,.t 5],44):=by kernel_rfl
theorem jkP (id:Int) (p:Pl) (hid:1≤id∧id≤9999) (hp:jz p=0):kf Tryz.prog 188 [.c (.val (.int .i64 id)),.agg (ja p)] (.tup [(true,jd (qQ id p)),(false,[.val (.bool true)])]):=by
 refine jr Tryz.func188 jha (by simp) ?_
 unfold je6;obtain ⟨n,hn,hn1,h12,h30,hes,hnd,-⟩:=ji6 hp;have hi:decide (1≤id∧id≤9999)=true:=decide_eq_true hid;have hp0:(jz p !=0)=false:=by simp [hp]
 simp only [go_sem,ja];intro b3 b4;refine jc (jG id 1 9999) (by simp only [go_sem,ja]) fun η=>?_
 simp only [go_sem,ja];simp only [go_sem,ja,hi];refine jc (vC p) (by simp only [go_sem,ja]) fun η=>?_
 simp only [go_sem,ja];simp only [go_sem,ja,hp0];refine jc (jde p (by omega)) (by simp only [go_sem,ja]) fun ηc=>?_
 simp only [go_sem,ja];intro b6;refine jq (fun i:Nat×jp=>St.of [(3,Bx 300 b3),(4,Bx 400 b4),(6,Bx 600 b6),(7,Ni i.1)] [(300,Bi b3 _ (ja p)),(400,ZRn b4 tRn),(600,jap b6 tRn ⟨id,p,1,jdV p i.1⟩ (ηc 4) i.2)]) (fun i=>i.1≤n) (fun i=>n-i.1) (0,jlF) (by (try dsimp only);first|omega|(simp;done)|(and_intros<;>first|omega|simp)) (jk [some 300,some 400,some 600] (by simp only [go_sem,ja,jd,jsR]<;>and_intros<;>first|rfl|assumption)) ?_
 rintro ⟨k,η⟩ hk;dsimp only at hk;by_cases hlt:k<n
 ·have hlt':(k:Int)<p.tasks:=by omega
  have hw:IntKind.i64.wrap ((k:Int)+1)=((k+1:Nat):Int):=jo (by omega) (by omega)
  have hnx:=jsQ p k;have hnl:=jaY p k;generalize jdV p k=M at*;have m1:M.length+1≤maxLen:=by unfold maxLen;omega
  have m2:(M.length+1)*32≤140737488355328:=by omega
  simp only [go_sem,ja,hlt'];refine jc (jbv p k n hn h12 h30) (by simp only [go_sem,ja]) fun η=>?_
  simp only [go_sem,ja];generalize hL:(jbN p k).length=L at*;intro b8;by_cases h0:0<L
  ·have h0':(0:Int)<(L:Int):=by omega
   have hT:jue p k=⟨1,(L:Int),0,0⟩:=by simp [jue,hL,h0]
   rw [hT] at hnx;simp only [go_sem,ja,jn,jd,h0',m1,m2,jel,hw];intro η40 η41;exact ⟨(k+1,η41),by (try dsimp only);first|omega|assumption|(and_intros<;>first|omega|assumption),(jk [some 300,some 400,some 600] (by simp only [go_sem,ja,jd,hnx]<;>and_intros<;>first|rfl|assumption)),by (try dsimp only);omega⟩
  ·have h0':¬(0:Int)<(L:Int):=by omega
   have hT:jue p k=⟨2,(L:Int),0,0⟩:=by simp [jue,hL,h0]
   rw [hT] at hnx;simp only [go_sem,ja,jn,jd,h0',m1,m2,jel,hw];intro η40 η41;exact ⟨(k+1,η41),by (try dsimp only);first|omega|assumption|(and_intros<;>first|omega|assumption),(jk [some 300,some 400,some 600] (by simp only [go_sem,ja,jd,hnx]<;>and_intros<;>first|rfl|assumption)),by (try dsimp only);omega⟩
 have hlt':¬(k:Int)<p.tasks:=by omega
 obtain rfl:k=n:=by omega
 have hr:qQ id p=⟨id,p,1,jdV p k⟩:=by rw [qQ,hn,Int.toNat_natCast]
 rw [hr];generalize jdV p k=M at*;simp only [go_sem,ja,jd,hlt'];refine qh _ _ _ _ _ ?_;simp only [go_sem,ja,jd]
theorem jk1 (id:Int) (p:Pl) (hid:1≤id∧id≤9999) (hp:jz p=0):kf Tryz.prog 212 [.c (.val (.int .i64 id)),.agg (ja p)] (.tup [(true,jd (qQ id p)),(false,[.val (.bool true)])]):=by
 refine jr Tryz.func212 jhq (by simp) ?_
 unfold jfm;obtain ⟨n,hn,hn1,h12,h30,hes,hnd,-⟩:=ji6 hp;have hi:decide (1≤id∧id≤9999)=true:=decide_eq_true hid;have hp0:(jz p !=0)=false:=by simp [hp]
 simp only [go_sem,ja];intro b3 b4;refine jc (jC id 1 9999) (by simp only [go_sem,ja]) fun η=>?_
 simp only [go_sem,ja];simp only [go_sem,ja,hi];refine jc (qd p (by omega)) (by simp only [go_sem,ja]) fun η=>?_
 simp only [go_sem,ja];simp only [go_sem,ja,hp0];refine jc (jb2 p (by omega)) (by simp only [go_sem,ja]) fun ηc=>?_
 simp only [go_sem,ja];intro b6;refine jq (fun i:Nat×jp=>St.of [(3,Bx 300 b3),(4,Bx 400 b4),(6,Bx 600 b6),(7,Ni i.1)] [(300,Bi b3 _ (ja p)),(400,ZRn b4 tRn),(600,jap b6 tRn ⟨id,p,1,jdV p i.1⟩ (ηc 4) i.2)]) (fun i=>i.1≤n) (fun i=>n-i.1) (0,jlF) (by (try dsimp only);first|omega|(simp;done)|(and_intros<;>first|omega|simp)) (jk [some 300,some 400,some 600] (by simp only [go_sem,ja,jd,jsR]<;>and_intros<;>first|rfl|assumption)) ?_
 rintro ⟨k,η⟩ hk;dsimp only at hk;by_cases hlt:k<n
 ·have hlt':(k:Int)<p.tasks:=by omega
  have hw:IntKind.i64.wrap ((k:Int)+1)=((k+1:Nat):Int):=jo (by omega) (by omega)
  have hnx:=jsQ p k;have hnl:=jaY p k;generalize jdV p k=M at*;have m1:M.length+1≤maxLen:=by unfold maxLen;omega
  have m2:(M.length+1)*32≤140737488355328:=by omega
  simp only [go_sem,ja,hlt'];refine jc (jb4 p k hp) (by simp only [go_sem,ja]) fun η=>?_
  simp only [go_sem,ja];generalize hL:(jbN p k).length=L at*;intro b8;cases h0:((L:Int)==0)
  ·have h0':0<L:=by have:¬(L:Int)=0:=by simpa using h0
                    omega
   have hT:jue p k=⟨1,(L:Int),0,0⟩:=by simp [jue,hL,h0']
   rw [hT] at hnx;simp only [go_sem,ja,jn,jd,h0,m1,m2,jel,hw];intro η40 η41;exact ⟨(k+1,η41),by (try dsimp only);first|omega|assumption|(and_intros<;>first|omega|assumption),(jk [some 300,some 400,some 600] (by simp only [go_sem,ja,jd,hnx]<;>and_intros<;>first|rfl|assumption)),by (try dsimp only);omega⟩
  ·have h0':¬0<L:=by have:(L:Int)=0:=by simpa using h0
                     omega
   have hT:jue p k=⟨2,(L:Int),0,0⟩:=by simp [jue,hL,h0']
   rw [hT] at hnx;simp only [go_sem,ja,jn,jd,h0,m1,m2,jel,hw];intro η40 η41;exact ⟨(k+1,η41),by (try dsimp only);first|omega|assumption|(and_intros<;>first|omega|assumption),(jk [some 300,some 400,some 600] (by simp only [go_sem,ja,jd,hnx]<;>and_intros<;>first|rfl|assumption)),by (try dsimp only);omega⟩
 have hlt':¬(k:Int)<p.tasks:=by omega
 obtain rfl:k=n:=by omega
 have hr:qQ id p=⟨id,p,1,jdV p k⟩:=by rw [qQ,hn,Int.toNat_natCast]
 rw [hr];generalize jdV p k=M at*;simp only [go_sem,ja,jd,hlt'];refine qh _ _ _ _ _ ?_;simp only [go_sem,ja,jd]
end Go.Proofs.YtmnpailnelmpiaaGreat
