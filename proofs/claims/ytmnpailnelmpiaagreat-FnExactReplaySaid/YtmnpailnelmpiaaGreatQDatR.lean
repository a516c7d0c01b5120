/- Parts. -/
import Derived.Test.YtmnpailnelmpiaaGreatQAb
import Derived.Test.YtmnpailnelmpiaaGreatQDo
import Derived.Test.YtmnpailnelmpiaaGreatQE6
import Derived.Test.YtmnpailnelmpiaaGreatQHole
import Derived.Test.YtmnpailnelmpiaaGreatQMarkB
import Derived.Test.YtmnpailnelmpiaaGreatQOpen
import Derived.Test.YtmnpailnelmpiaaGreatQPoll
import Derived.Test.YtmnpailnelmpiaaGreatProg
import Derived.ProofKit
import Derived.Below
import Derived.ChangeSame
import Derived.OpenShut
set_option linter.unusedSimpArgs false
set_option linter.unusedVariables false
set_option maxHeartbeats 8000000
set_option maxRecDepth 100000
namespace Go.Proofs.YtmnpailnelmpiaaGreat
open Go.RowKit Go.Sort
noncomputable def jjX (y:Yd) (l:List Nt):Yd:=l.foldl (fun z n=>doY z n.deed) y
theorem jwq {y:Yd} {l:List Nt} {k:Nat} {n:Nt} (h:l[k]?=some n):jjX y (l.take (k+1))=doY (jjX y (l.take k)) n.deed:=by
 rw [List.take_add_one,h];simp [jjX]
theorem jcH:∀(l:List Nt) (y:Yd),jt y≤1100000→jt (jjX y l)≤1100000
 |[],_,h=>h
 |n::l,y,h=>jcH l (doY y n.deed) (jvV y n.deed h)
theorem jwv {l:List Nt} {k:Nat} {n:Nt} (h:l[k]?=some n) (ht:zb l≤2000000):jac n.deed≤2000000:=by
 have h1:=kJ (tot:=jba) h;have h2:=qD jba l (k+1);simp only [zb] at ht;have h3:jba n=jac n.deed:=rfl;omega
def jfn:C:=iS [iA 2 (.box 37 4 (.t 0)),iA 4 (.alloc 37 [.int .i64 0,.int .i64 0,.slice none 0 0,.slice none 0 0])] (iS [iA 8 (iT 4 2),iA 9 (.call 118 [.t 8]),iA 5 (.alloc 37 [.int .i64 0,.int .i64 0,.slice none 0 0,.slice none 0 0]),iC (.st 4 [none,none,some (1,102),some (8,108)] (.t 5) (.t 9))] (.seq (iS [iA 10 (iM 1),iA 11 (iG 10),iA 12 (iN 0)] (.blk 0 (.loop (iS [iA 13 (iP .lss 3 12 11)] (.seq (iD 13 .skip (.exit 0)) (.seq (.blk 1 (iS [iA 14 (iI 12 10 12),iA 15 (iT 12 14),iA 7 (.alloc 165 [.int .i64 0,.int .i64 0,.int .i64 0,.int .i64 0,.int .i64 0,.int .i64 0,.int .i64 0,.slice none 0 0,.int .i64 0,.int .i64 0,.int .i64 0,.int .i64 0]),iC (.st 12 [none,none,none,none,none,none,none,some (2,253),none,none,none,none] (.t 7) (.t 15))] (.reg [iA 17 (iT 4 5),iA 18 (iF 1 7),iA 19 (iT 11 18),iA 20 (.call 33 [.t 17,.t 19]),iA 16 (iM 20),iA 21 (iE 16 0),iA 22 (iE 16 1),iC (.st 4 [none,none,some (1,102),some (8,108)] (.t 5) (.t 21))]))) (.reg [iA 23 (iQ .add 3 12 1),iA 12 (iM 23)]))))))) (iS [iA 24 (iT 4 5),iC (.st 4 [none,none,some (1,102),some (8,108)] (.t 4) (.t 24))] .ret)))
theorem jhr:fnC Tryz.prog Tryz.f49=some (jfn,[.cell 4 true 4],25):=by kernel_rfl
def je7:C:=iS [iA 2 (.box 37 4 (.t 0)),iA 4 (.alloc 37 [.int .i64 0,.int .i64 0,.slice none 0 0,.slice none 0 0])] (iS [iA 7 (iT 4 2),iA 8 (.call 105 [.t 7]),iA 5 (.alloc 37 [.int .i64 0,.int .i64 0,.slice none 0 0,.slice none 0 0]),iC (.st 4 [none,none,some (1,102),some (8,108)] (.t 5) (.t 8))] (.seq (iS [iA 6 (iN 0)] (.blk 0 (.loop (.seq (iS [iA 9 (iM 6),iA 10 (iM 1),iA 11 (iG 10),iA 12 (iP .lss 3 9 11)] (iD 12 .skip (.exit 0))) (.seq (.blk 1 (.dreg (T.pure 0 (iA 16 (iT 4 5)) (T.pure 1 (iA 17 (iM 1)) (T.pure 2 (iA 18 (iM 6)) (T.pure 3 (iA 19 (iI 12 17 18)) (T.pure 4 (iA 20 (iF 1 19)) (T.pure 5 (iA 21 (iT 11 20)) (T.alt (iA 22 (.call 30 [.t 16,.t 21])) [] (T.pure 7 (iA 15 (iM 22)) (T.pure 8 (iA 23 (iE 15 0)) (T.pure 9 (iA 24 (iE 15 1)) (T.alt (iC (.st 4 [none,none,some (1,102),some (8,108)] (.t 5) (.t 23))) [9] T.done T.stop)))) T.stop))))))))) (.reg [iA 13 (iM 6),iA 14 (iQ .add 3 13 1),iA 6 (iM 14)])))))) (iS [iA 25 (iT 4 5),iC (.st 4 [none,none,some (1,102),some (8,108)] (.t 4) (.t 25))] .ret)))
theorem jhb:fnC Tryz.prog Tryz.f47=some (je7,[.cell 4 true 4],26):=by kernel_rfl
theorem jk2 (y:Yd) (l:List Nt) (ht:jt y≤1100000) (hd:zb l≤2000000):kf Tryz.prog 49 [.agg (jb y),.c (qa l)] (.agg (jb (jjX y l))):=by
 refine jr Tryz.func49 jhr (by simp) ?_
 unfold jfn;have ht2:jt y≤2000000:=by omega
 have hl:l.length≤2000000:=Nat.le_trans (Nat.le_add_right _ _) hd;simp only [go_sem,jb];intro b2 b4;refine jc (jX y ht2) (by simp only [go_sem,jb]) fun ηc=>?_
 simp only [go_sem,jb];intro b5;refine jq (fun i:Nat×jp×jp=>St.of [(4,Bx 400 b4),(5,Bx 500 b5),(10,Ro (qa l)),(11,Ni l.length),(12,Ni i.1)] [(400,ZYd b4 tYd),(500,ky b5 tYd (jjX y (l.take i.1)).now (jjX y (l.take i.1)).seq (jjX y (l.take i.1)).shelf i.2.1 (jjX y (l.take i.1)).runs i.2.2)]) (fun i=>i.1≤l.length) (fun i=>l.length-i.1) (0,ηc 2,ηc 3) (by (try dsimp only);first|omega|(simp;done)|(and_intros<;>first|omega|simp)) (jk [some 400,some 500] (by simp only [go_sem,jb,List.take_zero,show jjX y []=y from rfl]<;>and_intros<;>first|rfl|assumption)) ?_
 rintro ⟨n,f2,f3⟩ hn;dsimp only at hn;have hz:=jcH (l.take n) y ht;by_cases hlt:n<l.length
 ·have hlt':(n:Int)<l.length:=by omega
  have h0k:(n:Int)≥0:=by omega
  obtain ⟨d,hx⟩:=je hlt;have hw:IntKind.i64.wrap ((n:Int)+1)=((n+1:Nat):Int):=jo (by omega) (by omega)
  have hF:=jwq (y:=y) hx;have hdt:=jwv hx hd;generalize jjX y (l.take n)=z at*;simp only [go_sem,hlt,hlt',h0k,jbo hx,jN,jh,ja,List.cons_append,List.nil_append];intro b7;refine jc (jsD z d.deed (by omega) hdt) (by simp only [go_sem,jb,jh,ja,List.cons_append,List.nil_append]) fun ηd=>?_
  simp only [go_sem,jb,jh,ja,List.cons_append,List.nil_append];simp only [go_sem,jb,hw];exact ⟨(n+1,ηd 2,ηd 3),by (try dsimp only);first|omega|assumption|(and_intros<;>first|omega|assumption),(jk [some 400,some 500] (by simp only [go_sem,jb,hF,jQ]<;>and_intros<;>first|rfl|assumption)),by (try dsimp only);omega⟩
 ·have hlt':¬(n:Int)<l.length:=by omega
  obtain rfl:n=l.length:=by omega
  rw [List.take_length];simp only [go_sem,hlt',jb]
theorem jkQ (y:Yd) (l:List Nt) (ht:jt y≤1100000) (hd:zb l≤2000000):kf Tryz.prog 47 [.agg (jb y),.c (qa l)] (.agg (jb (jjX y l))):=by
 refine jr Tryz.func47 jhb (by simp) ?_
 unfold je7;have ht2:jt y≤2000000:=by omega
 have hl:l.length≤2000000:=Nat.le_trans (Nat.le_add_right _ _) hd;simp only [go_sem,jb];intro b2 b4;refine jc (kg y ht2) (by simp only [go_sem,jb]) fun ηc=>?_
 simp only [go_sem,jb];intro b5;refine jq (fun i:Nat×jp×jp=>St.of [(1,Ro (qa l)),(4,Bx 400 b4),(5,Bx 500 b5),(6,Ni i.1)] [(400,ZYd b4 tYd),(500,ky b5 tYd (jjX y (l.take i.1)).now (jjX y (l.take i.1)).seq (jjX y (l.take i.1)).shelf i.2.1 (jjX y (l.take i.1)).runs i.2.2)]) (fun i=>i.1≤l.length) (fun i=>l.length-i.1) (0,ηc 2,ηc 3) (by (try dsimp only);first|omega|(simp;done)|(and_intros<;>first|omega|simp)) (jk [some 400,some 500] (by simp only [go_sem,jb,List.take_zero,show jjX y []=y from rfl]<;>and_intros<;>first|rfl|assumption)) ?_
 rintro ⟨n,f2,f3⟩ hn;dsimp only at hn;have hz:=jcH (l.take n) y ht;by_cases hlt:n<l.length
 ·have hlt':(n:Int)<l.length:=by omega
  have h0k:(n:Int)≥0:=by omega
  obtain ⟨d,hx⟩:=je hlt;have hw:IntKind.i64.wrap ((n:Int)+1)=((n+1:Nat):Int):=jo (by omega) (by omega)
  have hF:=jwq (y:=y) hx;have hdt:=jwv hx hd;generalize jjX y (l.take n)=z at*;simp only [go_sem,hlt,hlt',h0k,jbo hx,jN,jh,ja,List.cons_append,List.nil_append];refine jc (jsB z d.deed (by omega) hdt) (by simp only [go_sem,hlt,hlt',h0k,jbo hx,jN,jb,jh,ja,List.cons_append,List.nil_append]) fun ηd=>?_
  simp only [go_sem,hlt,hlt',h0k,jbo hx,jN,jb,jh,ja,List.cons_append,List.nil_append];simp only [go_sem,jb,hw];exact ⟨(n+1,ηd 2,ηd 3),by (try dsimp only);first|omega|assumption|(and_intros<;>first|omega|assumption),(jk [some 400,some 500] (by simp only [go_sem,jb,hF,jQ]<;>and_intros<;>first|rfl|assumption)),by (try dsimp only);omega⟩
 ·have hlt':¬(n:Int)<l.length:=by omega
  obtain rfl:n=l.length:=by omega
  rw [List.take_length];simp only [go_sem,hlt',jb]
theorem jhO (x y:Yd):kf Tryz.prog 25 [.agg (jb x),.agg (jb y)] (.c (.val (.bool (decide (x=y))))):=jgX ⟨_,Tryz.func25,by kernel_rfl,by kernel_rfl⟩ fun w a b ⟨S,ha⟩ ⟨S2,hb⟩=>jvM x y a b S S2 w false false ha hb
theorem jhN (x:Yd) (hsz:jt x≤2000000):kf Tryz.prog 31 [.agg (jb x)] (.agg (jb x)):=ju7 ⟨_,Tryz.func31,by kernel_rfl,by kernel_rfl⟩ fun w a ⟨S,ha⟩=>juq x a S w false ha hsz
theorem ju9 (x:Yd) (left:Int) (h0:0≤left) (h1:left≤1048576):kf Tryz.prog 28 [.agg (jb x),.c (.val (.int .i64 left))] (.c (.val (.int .i64 (szf (jt x) left)))):=jgX ⟨_,Tryz.func28,by kernel_rfl,by kernel_rfl⟩ fun w a b ⟨S,ha⟩ hb=>by rw [vO hb];exact juB x a S w false left ha h0 h1
theorem jsE (x y:List Nt):kf Tryz.prog 50 [.c (qa x),.c (qa y)] (.c (.val (.bool (decide (x=y))))):=jgX ⟨_,Tryz.func50,by kernel_rfl,by kernel_rfl⟩ fun w a b ⟨S,ha⟩ ⟨S2,hb⟩=>jtn x y a b S S2 w false false ha hb
theorem jes (x:List Nt) (hsz:zb x≤2000000):kf Tryz.prog 48 [.c (qa x)] (.c (qa x)):=ju6 ⟨_,Tryz.func48,by kernel_rfl,by kernel_rfl⟩ fun w a ⟨S,ha⟩=>jrz x a S w false ha hsz
theorem jsA (x:List Nt) (left:Int) (h0:0≤left) (h1:left≤1048576):kf Tryz.prog 46 [.c (qa x),.c (.val (.int .i64 left))] (.c (.val (.int .i64 (szf (zb x) left)))):=jgX ⟨_,Tryz.func46,by kernel_rfl,by kernel_rfl⟩ fun w a b ⟨S,ha⟩ hb=>by rw [vO hb];exact jrJ x a S w false left ha h0 h1
theorem jjZ (y:Yd) (k:Int) (h0:0≤k) (h1:k+(cYd y:Nat)≤2305843009213693952) (h2:y.shelf.length≤2305843009213693952) (h3:y.runs.length≤2305843009213693952):kf Tryz.prog 27 [.agg (jb (jug y k)),.c (.val (.int .i64 k))] (.c (.val (.int .i64 (k+(cYd y:Nat))))):=jgX ⟨_,Tryz.func27,by kernel_rfl,by kernel_rfl⟩ fun w a b ⟨S,ha⟩ hb=>by rw [vO hb];exact jqO y k a S w false ha h0 h1 h2 h3
theorem jhD {α:Type} {c t:α→Nat} {K:Nat} (h:∀x,c x≤K*t x+K):∀l:List α,kj c l≤K*kj t l+K*l.length
 |[]=>by simp [kj]
 |x::l=>by
  have h1:=h x;have h2:=jhD h l;simp only [kj,List.map_cons,List.sum_cons,List.length_cons] at h2⊢;rw [Nat.mul_add,Nat.mul_add];omega
theorem b_cRn (r:Rn):cRn r≤16*km r+16:=by
 simp only [cRn,km,zP];omega
theorem b_cNt (n:Nt):cNt n≤16*jba n+16:=by
 simp only [cNt,jba,jac,zP];omega
theorem b_nts (l:List Nt):kj cNt l≤16*zb l:=by
 have:=jhD b_cNt l;have h:zb l=l.length+kj jba l:=rfl;omega
theorem b_yd (y:Yd):cYd y≤16*jt y:=by
 have h1:=jhD (c:=c4) (t:=kO) (K:=16) (fun l=>by simp only [c4,kO];omega) y.shelf
 have h2:=jhD b_cRn y.runs;have h3:jt y=(y.shelf.length+kj kO y.shelf)+(y.runs.length+kj km y.runs):=rfl;have h4:cYd y=kj c4 y.shelf+kj cRn y.runs:=rfl;omega
@[go_sem] theorem jBc (y:Yd) (k:Int):(jug y k).now=y.now:=(rfl)
@[go_sem] theorem jBb (y:Yd) (k:Int):(jug y k).seq=y.seq:=(rfl)
def zJ:C:=iS [iA 2 (.box 25 4 (.t 0)),iA 4 (iO false)] (iS [iA 5 (iN 1048576)] (iS [iA 14 (iT 4 2),iA 15 (iM 5),iA 16 (.call 28 [.t 14,.t 15]),iA 5 (iM 16)] (.seq (iS [iA 17 (iM 5),iA 18 (iQ .lss 3 17 0)] (iD 18 (iS [iA 4 (iO true)] .ret) .skip)) (iS [iA 19 (iM 1),iA 20 (iM 5),iA 21 (.call 46 [.t 19,.t 20]),iA 5 (iM 21)] (.seq (iS [iA 22 (iM 5),iA 23 (iQ .lss 3 22 0)] (iD 23 (iS [iA 4 (iO true)] .ret) .skip)) (iS [iA 24 (iT 4 2),iA 25 (.call 31 [.t 24]),iA 26 (iM 1),iA 27 (.call 48 [.t 26]),iA 28 (.call 47 [.t 25,.t 27]),iA 6 (.alloc 37 [.int .i64 0,.int .i64 0,.slice none 0 0,.slice none 0 0]),iC (.st 4 [none,none,some (1,102),some (8,108)] (.t 6) (.t 28))] (iS [iA 29 (iT 4 2),iA 30 (.call 31 [.t 29]),iA 7 (.alloc 37 [.int .i64 0,.int .i64 0,.slice none 0 0,.slice none 0 0]),iC (.st 4 [none,none,some (1,102),some (8,108)] (.t 7) (.t 30))] (iS [iA 31 (iM 1),iA 32 (.call 48 [.t 31]),iA 8 (iM 32)] (iS [iA 33 (iT 4 7),iA 34 (iM 8),iA 35 (.call 49 [.t 33,.t 34]),iA 9 (.alloc 37 [.int .i64 0,.int .i64 0,.slice none 0 0,.slice none 0 0]),iC (.st 4 [none,none,some (1,102),some (8,108)] (.t 9) (.t 35))] (.seq (iS [iA 36 (iT 4 9),iA 37 (iT 4 6),iA 38 (.call 25 [.t 36,.t 37]),iA 39 (iU 38)] (iD 39 (iS [iA 4 (iO false)] .ret) .skip)) (.seq (.seq (.dreg (T.pure 0 (iA 40 (iT 4 7)) (T.pure 1 (iA 41 (iT 4 2)) (T.alt (iA 42 (.call 31 [.t 41])) [0] (T.alt (iA 43 (.call 25 [.t 40,.t 42])) [] (T.pure 4 (iA 44 (iU 43)) T.done) T.stop) T.stop)))) (iD 44 (iS [iA 4 (iO false)] .ret) .skip)) (.seq (iS [iA 45 (iM 8),iA 46 (iM 1),iA 47 (.call 48 [.t 46]),iA 48 (.call 50 [.t 45,.t 47]),iA 49 (iU 48)] (iD 49 (iS [iA 4 (iO false)] .ret) .skip)) (iS [iA 10 (iN 1)] (iS [iA 50 (iT 4 7),iA 51 (iM 10),iA 52 (.call 26 [.t 50,.t 51]),iA 10 (iM 52)] (iS [iA 53 (iM 8),iA 54 (iM 10),iA 55 (.call 51 [.t 53,.t 54]),iA 10 (iM 55)] (.seq (iS [iA 56 (iM 10),iA 57 (iQ .lss 3 56 0),iA 58 (iM 57),iB 59 58 false (iT 4 9),iB 60 58 false (iT 4 6),iB 61 58 false (.call 25 [.t 59,.t 60]),iB 62 58 false (iU 61),iA 63 (.pick (.t 58) (.c (.bool true)) (.t 62))] (iD 63 (iS [iA 4 (iO false)] .ret) .skip)) (iS [iA 11 (iN 1)] (iS [iA 64 (iT 4 9),iA 65 (iM 11),iA 66 (.call 26 [.t 64,.t 65]),iA 11 (iM 66)] (iS [iA 12 (iN 1)] (iS [iA 67 (iT 4 9),iA 68 (iM 12),iA 69 (.call 27 [.t 67,.t 68]),iA 12 (iM 69)] (.seq (iS [iA 70 (iM 12),iA 71 (iQ .lss 3 70 0)] (iD 71 (iS [iA 4 (iO false)] .ret) .skip)) (.seq (iS [iA 72 (iM 12),iA 73 (iM 11),iA 74 (iP .neq 3 72 73)] (iD 74 (iS [iA 4 (iO false)] .ret) .skip)) (iS [iA 75 (iT 4 2),iA 76 (.call 31 [.t 75]),iA 77 (iM 1),iA 78 (.call 48 [.t 77]),iA 79 (.call 49 [.t 76,.t 78]),iA 13 (.alloc 37 [.int .i64 0,.int .i64 0,.slice none 0 0,.slice none 0 0]),iC (.st 4 [none,none,some (1,102),some (8,108)] (.t 13) (.t 79))] (.seq (iS [iA 80 (iT 4 13),iA 81 (iT 4 6),iA 82 (.call 25 [.t 80,.t 81]),iA 83 (iU 82)] (iD 83 (iS [iA 4 (iO false)] .ret) .skip)) (iS [iA 12 (iN 1)] (iS [iA 84 (iT 4 9),iA 85 (iM 12),iA 86 (.call 27 [.t 84,.t 85]),iA 12 (iM 86)] (.seq (iS [iA 87 (iM 12),iA 88 (iQ .lss 3 87 0)] (iD 88 (iS [iA 4 (iO false)] .ret) .skip)) (.seq (iS [iA 89 (iM 12),iA 90 (iM 11),iA 91 (iP .neq 3 89 90)] (iD 91 (iS [iA 4 (iO false)] .ret) .skip)) (iS [iA 4 (iO true)] .ret)))))))))))))))))))))))))))))
theorem jbq:fnC Tryz.prog Tryz.f8=some (zJ,[.t 4],92):=by kernel_rfl
theorem jva (b0:Yd) (b1:List Nt):kf Tryz.prog 8 [.agg (jb b0),.c (qa b1)] (.c (.val (.bool true))):=by
 refine jr Tryz.func8 jbq (by simp) ?_
 unfold zJ;simp only [go_sem,jb,jN,jh,ja,jd,jf,bne_self_eq_false,beq_self_eq_true];intros;refine jc (ju9 b0 (1048576) (by omega) (by omega)) (by simp only [go_sem,jb,jN,jh,ja,jd,jf,bne_self_eq_false,beq_self_eq_true]) fun η=>?_
 rcases kz (jt b0) (1048576) with ⟨hle0,hz0⟩|⟨hle0,hz0⟩;rotate_left
 ·simp only [go_sem,jb,jN,jh,ja,jd,jf,bne_self_eq_false,beq_self_eq_true,hz0]
 have ht0:jt b0≤2000000:=by omega
 have hn0:¬(1048576-(jt b0:Int)<0):=by omega
 simp only [go_sem,jb,jN,jh,ja,jd,jf,bne_self_eq_false,beq_self_eq_true,hz0,hn0];intros;refine jc (jsA b1 (1048576-(jt b0:Int)) (by omega) (by omega)) (by simp only [go_sem,jb,jN,jh,ja,jd,jf,bne_self_eq_false,beq_self_eq_true,hz0,hn0]) fun η=>?_
 rcases kz (zb b1) (1048576-(jt b0:Int)) with ⟨hle1,hz1⟩|⟨hle1,hz1⟩;rotate_left
 ·simp only [go_sem,jb,jN,jh,ja,jd,jf,bne_self_eq_false,beq_self_eq_true,hz0,hn0,hz1]
 have ht1:zb b1≤2000000:=by omega
 have hn1:¬(1048576-(jt b0:Int)-(zb b1:Int)<0):=by omega
 simp only [go_sem,jb,jN,jh,ja,jd,jf,bne_self_eq_false,beq_self_eq_true,hz0,hn0,hz1,hn1];intros;have hca0:=b_yd b0;have hsa0:b0.shelf.length≤jt b0:=by simp only [jt,vL];omega
 have hra0:b0.runs.length≤jt b0:=by simp only [jt,qz];omega
 have hca1:=b_nts b1;have hsa1:b1.length≤zb b1:=Nat.le_add_right _ _;have hq0:jt (jjX b0 b1)≤2000000:=by have:=jcH b1 b0 (by omega);omega
 have pS:=jkQ b0 b1 (by omega) (by omega)
 have pI:=jk2 b0 b1 (by omega) (by omega)
 generalize jjX b0 b1=r0 at*;have hcr0:=b_yd r0;have hsr0:r0.shelf.length≤jt r0:=by simp only [jt,vL];omega
 have hrr0:r0.runs.length≤jt r0:=by simp only [jt,qz];omega
 refine jc (jhN b0 (by omega)) (by simp only [go_sem,jb,jN,jh,ja,jd,jf,bne_self_eq_false,beq_self_eq_true,hz0,hn0,hz1,hn1]) fun η1=>?_
 simp only [go_sem,jb,jN,jh,ja,jd,jf,bne_self_eq_false,beq_self_eq_true,hz0,hn0,hz1,hn1];intros;refine jc (jes b1 (by omega)) (by simp only [go_sem,jb,jN,jh,ja,jd,jf,bne_self_eq_false,beq_self_eq_true,hz0,hn0,hz1,hn1]) fun η2=>?_
 simp only [go_sem,jb,jN,jh,ja,jd,jf,bne_self_eq_false,beq_self_eq_true,hz0,hn0,hz1,hn1];intros;refine jc (pS) (by simp only [go_sem,jb,jN,jh,ja,jd,jf,bne_self_eq_false,beq_self_eq_true,hz0,hn0,hz1,hn1]) fun η3=>?_
 simp only [go_sem,jb,jN,jh,ja,jd,jf,bne_self_eq_false,beq_self_eq_true,hz0,hn0,hz1,hn1];intros;refine jc (jhN b0 (by omega)) (by simp only [go_sem,jb,jN,jh,ja,jd,jf,bne_self_eq_false,beq_self_eq_true,hz0,hn0,hz1,hn1]) fun η4=>?_
 simp only [go_sem,jb,jN,jh,ja,jd,jf,bne_self_eq_false,beq_self_eq_true,hz0,hn0,hz1,hn1];intros;refine jc (jes b1 (by omega)) (by simp only [go_sem,jb,jN,jh,ja,jd,jf,bne_self_eq_false,beq_self_eq_true,hz0,hn0,hz1,hn1]) fun η5=>?_
 simp only [go_sem,jb,jN,jh,ja,jd,jf,bne_self_eq_false,beq_self_eq_true,hz0,hn0,hz1,hn1];intros;refine jc (pI) (by simp only [go_sem,jb,jN,jh,ja,jd,jf,bne_self_eq_false,beq_self_eq_true,hz0,hn0,hz1,hn1]) fun η6=>?_
 simp only [go_sem,jb,jN,jh,ja,jd,jf,bne_self_eq_false,beq_self_eq_true,hz0,hn0,hz1,hn1];intros;refine jc (jhO r0 r0) (by simp only [go_sem,jb,jN,jh,ja,jd,jf,bne_self_eq_false,beq_self_eq_true,hz0,hn0,hz1,hn1]) fun η7=>?_
 simp only [go_sem,jb,jN,jh,ja,jd,jf,bne_self_eq_false,beq_self_eq_true,hz0,hn0,hz1,hn1];intros;refine jc (jhN b0 (by omega)) (by simp only [go_sem,jb,jN,jh,ja,jd,jf,bne_self_eq_false,beq_self_eq_true,hz0,hn0,hz1,hn1]) fun η8=>?_
 simp only [go_sem,jb,jN,jh,ja,jd,jf,bne_self_eq_false,beq_self_eq_true,hz0,hn0,hz1,hn1];intros;refine jc (jhO b0 b0) (by simp only [go_sem,jb,jN,jh,ja,jd,jf,bne_self_eq_false,beq_self_eq_true,hz0,hn0,hz1,hn1]) fun η9=>?_
 simp only [go_sem,jb,jN,jh,ja,jd,jf,bne_self_eq_false,beq_self_eq_true,hz0,hn0,hz1,hn1];intros;refine jc (jes b1 (by omega)) (by simp only [go_sem,jb,jN,jh,ja,jd,jf,bne_self_eq_false,beq_self_eq_true,hz0,hn0,hz1,hn1]) fun η10=>?_
 simp only [go_sem,jb,jN,jh,ja,jd,jf,bne_self_eq_false,beq_self_eq_true,hz0,hn0,hz1,hn1];intros;refine jc (jsE b1 b1) (by simp only [go_sem,jb,jN,jh,ja,jd,jf,bne_self_eq_false,beq_self_eq_true,hz0,hn0,hz1,hn1]) fun η11=>?_
 simp only [go_sem,jb,jN,jh,ja,jd,jf,bne_self_eq_false,beq_self_eq_true,hz0,hn0,hz1,hn1];intros;refine jo4 (k:=1) (r:=1+((cYd b0:Nat):Int)) (ds:=jb b0) (ds':=jb (jug b0 1)) ⟨_,Tryz.func26,by kernel_rfl,by kernel_rfl⟩ (fun B w v S h hF=>jj5 b0 1 v S B w h hF (by decide) (by omega) (by omega) (by omega)) ?_
 have hm12:¬(1+((cYd b0:Nat):Int)<0):=by omega
 simp only [go_sem,jb,jN,jh,ja,jd,jf,bne_self_eq_false,beq_self_eq_true,hz0,hn0,hz1,hn1,hm12];rintro η12 ⟨hm12h0,hm12h1⟩;intros;refine jAe (k:=1+((cYd b0:Nat):Int)) (r:=1+((cYd b0:Nat):Int)+((kj cNt b1:Nat):Int)) (dd:=qa b1) (dd':=qa (mkL jxN cNt b1 (1+((cYd b0:Nat):Int)))) ⟨_,Tryz.func51,by kernel_rfl,by kernel_rfl⟩ (fun B w v S h hF=>jnW b1 (1+((cYd b0:Nat):Int)) v S B w h hF (by omega) (by omega) (by omega)) ?_
 have hm13:¬(1+((cYd b0:Nat):Int)+((kj cNt b1:Nat):Int)<0):=by omega
 simp only [go_sem,jb,jN,jh,ja,jd,jf,bne_self_eq_false,beq_self_eq_true,hz0,hn0,hz1,hn1,hm12,hm12h0,hm12h1,hm13];rintro η13 hm13h0;intros;refine jc (jhO r0 r0) (by simp only [go_sem,jb,jN,jh,ja,jd,jf,bne_self_eq_false,beq_self_eq_true,hz0,hn0,hz1,hn1,hm12,hm12h0,hm12h1,hm13,hm13h0]) fun η14=>?_
 simp only [go_sem,jb,jN,jh,ja,jd,jf,bne_self_eq_false,beq_self_eq_true,hz0,hn0,hz1,hn1,hm12,hm12h0,hm12h1,hm13,hm13h0];intros;refine jo4 (k:=1) (r:=1+((cYd r0:Nat):Int)) (ds:=jb r0) (ds':=jb (jug r0 1)) ⟨_,Tryz.func26,by kernel_rfl,by kernel_rfl⟩ (fun B w v S h hF=>jj5 r0 1 v S B w h hF (by decide) (by omega) (by omega) (by omega)) ?_
 have hm15:¬(1+((cYd r0:Nat):Int)<0):=by omega
 simp only [go_sem,jb,jN,jh,ja,jd,jf,bne_self_eq_false,beq_self_eq_true,hz0,hn0,hz1,hn1,hm12,hm12h0,hm12h1,hm13,hm13h0,hm15];rintro η15 ⟨hm15h0,hm15h1⟩;intros;refine jc (jjZ r0 1 (by decide) (by omega) (by omega) (by omega)) (by simp only [go_sem,jb,jN,jh,ja,jd,jf,bne_self_eq_false,beq_self_eq_true,hz0,hn0,hz1,hn1,hm12,hm12h0,hm12h1,hm13,hm13h0,hm15,hm15h0,hm15h1]) fun η16=>?_
 simp only [go_sem,jb,jN,jh,ja,jd,jf,bne_self_eq_false,beq_self_eq_true,hz0,hn0,hz1,hn1,hm12,hm12h0,hm12h1,hm13,hm13h0,hm15,hm15h0,hm15h1];intros;refine jc (jhN b0 (by omega)) (by simp only [go_sem,jb,jN,jh,ja,jd,jf,bne_self_eq_false,beq_self_eq_true,hz0,hn0,hz1,hn1,hm12,hm12h0,hm12h1,hm13,hm13h0,hm15,hm15h0,hm15h1]) fun η17=>?_
 simp only [go_sem,jb,jN,jh,ja,jd,jf,bne_self_eq_false,beq_self_eq_true,hz0,hn0,hz1,hn1,hm12,hm12h0,hm12h1,hm13,hm13h0,hm15,hm15h0,hm15h1];intros;refine jc (jes b1 (by omega)) (by simp only [go_sem,jb,jN,jh,ja,jd,jf,bne_self_eq_false,beq_self_eq_true,hz0,hn0,hz1,hn1,hm12,hm12h0,hm12h1,hm13,hm13h0,hm15,hm15h0,hm15h1]) fun η18=>?_
 simp only [go_sem,jb,jN,jh,ja,jd,jf,bne_self_eq_false,beq_self_eq_true,hz0,hn0,hz1,hn1,hm12,hm12h0,hm12h1,hm13,hm13h0,hm15,hm15h0,hm15h1];intros;refine jc (pI) (by simp only [go_sem,jb,jN,jh,ja,jd,jf,bne_self_eq_false,beq_self_eq_true,hz0,hn0,hz1,hn1,hm12,hm12h0,hm12h1,hm13,hm13h0,hm15,hm15h0,hm15h1]) fun η19=>?_
 simp only [go_sem,jb,jN,jh,ja,jd,jf,bne_self_eq_false,beq_self_eq_true,hz0,hn0,hz1,hn1,hm12,hm12h0,hm12h1,hm13,hm13h0,hm15,hm15h0,hm15h1];intros;refine jc (jhO r0 r0) (by simp only [go_sem,jb,jN,jh,ja,jd,jf,bne_self_eq_false,beq_self_eq_true,hz0,hn0,hz1,hn1,hm12,hm12h0,hm12h1,hm13,hm13h0,hm15,hm15h0,hm15h1]) fun η20=>?_
 simp only [go_sem,jb,jN,jh,ja,jd,jf,bne_self_eq_false,beq_self_eq_true,hz0,hn0,hz1,hn1,hm12,hm12h0,hm12h1,hm13,hm13h0,hm15,hm15h0,hm15h1];intros;refine jc (jjZ r0 1 (by decide) (by omega) (by omega) (by omega)) (by simp only [go_sem,jb,jN,jh,ja,jd,jf,bne_self_eq_false,beq_self_eq_true,hz0,hn0,hz1,hn1,hm12,hm12h0,hm12h1,hm13,hm13h0,hm15,hm15h0,hm15h1]) fun η21=>?_
 simp only [go_sem,jb,jN,jh,ja,jd,jf,bne_self_eq_false,beq_self_eq_true,hz0,hn0,hz1,hn1,hm12,hm12h0,hm12h1,hm13,hm13h0,hm15,hm15h0,hm15h1]
open Go.ChangeShapes Go.WideShapes Go.ChangeAt Go.RowKit
theorem own:ownKnob Tryz.prog.godebug=none:=by kernel_rfl
theorem laid:laidOutB Tryz.prog=true:=by kernel_rfl
section
variable {H:Type} {enc:TypeId×Value→H} {P:Program}
theorem jqd {f:Func} {s:ChangeSpec} {apart kr handsOn again:Bool} {W W':World} {args:Array Value} {v:Value} {ds gs:List (DataW H)} {before pa pv:List MemPlace}
 (hW:DataW.Whole enc P f.params.toList s.vars apart W args.toList ds gs before)
 (hres:∀(b:Nat) (sp:Nat→Bool) (hd:Bool),DataW.TrodAll enc P W' b sp hd f.resultTypes.toList (v.resultList f.resultTypes.size) (s.fn H (ds++gs)).results [])
 (hargs:∀sp:Nat→Bool,(∀p∈before,sp p.block=true)→DataW.TrodAll enc P W' 0 sp true f.params.toList args.toList (s.fn H (ds++gs)).args pa)
 (hvars:∀sp:Nat→Bool,(∀p∈before,sp p.block=true)→DataW.TrodVars enc P W' sp s.vars (s.fn H (ds++gs)).vars pv)
 (hps:before=pa++pv) (hb:Below W.heap.size W W')
 (hok:∀(j:Nat) (t:TypeId) (r:Value),f.resultTypes[j]?=some t→(v.resultList f.resultTypes.size)[j]?=some r→Value.okWide P W' .any 0 t r):
 s.post enc P f apart kr handsOn again W args v W':=by
 have hlt:∀p∈before,p.block<W.heap.size:=fun p hp=>hW.lt p hp
 have hold:∀p∈before,(fun b=>decide (b<W.heap.size)) p.block=true:=fun p hp=>by simpa using hlt p hp
 refine ⟨ds,gs,before,[],pa,pv,hW,hres _ _ _,hargs _ hold,hvars _ hold,World.keptBut_mono (fun p hp=>⟨hp,?_⟩) (hb.frame (· ∈before)),fun _=>?_⟩
 ·rw [hps,List.mem_append] at hp
  exact Or.inr hp
 ·obtain ⟨_,_,_,_,_,hz,hn⟩:=hW
  refine ⟨hok,_,_,([]++pa)++pv,⟨[]++pa,pv,trodAll_append (hargs _ (fun _ _=>rfl)) (hres _ _ _),hvars _ (fun _ _=>rfl),rfl,?_,?_⟩,?_⟩
  ·intro b off hp
   have hin:MemPlace.cell b off∈before:=by rw [hps];simpa using hp
   rw [hb.frozen (hlt _ hin)];exact hz b off hin
  ·intro ha
   have:=hn ha;rw [hps] at this;simpa using this
  ·intro p hp _
   rw [hps];simpa using hp
theorem jnd {t:TypeId} (hl:laidOutB P=true) (hr:P.readableRec t=true) (hrow:t<P.types.size) {W W':World} {v:Value} {d:DataW H} {ps:List MemPlace} {sp:Nat→Bool}
 (h:DataW.Trod enc P W 0 (fun _=>true) true t v d ps) (hb:Below W.heap.size W W') (hlt:∀x∈ps,x.block<W.heap.size) (hsp:∀x∈ps,sp x.block=true):
 DataW.Trod enc P W' 0 sp true t v d ps:=
 WideElems.Trod_stays hl hr hrow h (fun x hx=>hb.same (hlt x hx)) (fun x hx=>hsp x hx)
end
theorem jsK {H:Type} {enc:TypeId×Value→H} {P:Program} {t:TypeId} {α:Type} {E:α→List D} {X:α→Prop} (hra:ReadsAs P t E X) {fs:Array Field} (ht:P.underlying t=some (.struct fs))
 {W:World} {v:Value} {d:DataW H} {p:List MemPlace} {base:Nat} {spare:Nat→Bool} {held:Bool} {r:_root_.Go.Reach} {b0:Nat} (hv:Value.okWide P W r b0 t v) (h:DataW.Trod enc P W base spare held t v d p):
 ∃x,X x∧∃S,AggRep W false (E x) v S:=by
 obtain ⟨cs,rfl,_⟩:=okWide_struct ht hv;obtain ⟨fuel,hf⟩:=h;obtain ⟨x,hx,S,hr⟩:=hra _ _ _ _ _ _ _ _ _ hf;exact ⟨x,hx,S,_,by simp [Value.cells],hr⟩
theorem jxG {H:Type} {enc:TypeId×Value→H} {P:Program} {t e:TypeId} {α:Type} {E:α→D} {X:α→Prop} (hra:ReadsAs P t (fun x=>[E x]) X) (ht:P.underlying t=some (.slice e))
 {W:World} {v:Value} {d:DataW H} {p:List MemPlace} {base:Nat} {spare:Nat→Bool} {held:Bool} {r:_root_.Go.Reach} {b0:Nat} (hv:Value.okWide P W r b0 t v) (h:DataW.Trod enc P W base spare held t v d p):
 ∃x,X x∧∃S,Rep W false (E x) v S:=by
 obtain ⟨a,len,cap,rfl⟩:=okWide_slice ht hv;obtain ⟨fuel,hf⟩:=h;obtain ⟨x,hx,S,hr⟩:=hra _ _ _ _ _ _ _ _ _ hf;obtain ⟨u,us,S1,S2,h1,rfl,h2,rfl,rfl⟩:=hr;have h1':[Value.slice a len cap]=[u]:=h1;cases h1';exact ⟨x,hx,S1,h2⟩
theorem jsX {P:Program} {f:FuncId} {vs:List View} {args:List Value} {w:World} (h:kf P f vs (.c (.val (.bool true)))) (hv:zw w vs args):
 Calls P f args.toArray w fun e w'=>e=.returned (.bool true)∧Below w.heap.size w w':=
 (h.2 w args hv).mono fun e w' ⟨v,S,he,hr,_,hb⟩=>⟨by rw [he,show v=_ from hr.1],hb⟩
end Go.Proofs.YtmnpailnelmpiaaGreat
namespace Go.Proofs.YtmnpailnelmpiaaGreat.lawReplay
open Go.ChangeShapes Go.WideShapes Go.ChangeAt Go.RowKit
set_option maxRecDepth 100000 in
theorem lifted (os:Os) (started:os.Started) (H:Type) (enc:TypeId×Value→H):
 ReturnsInHanded {} Tryz.checked os 8 .any (Rows.fnExactReplaySpec.pre6 enc Tryz.prog Tryz.f8 Rows.fnExactReplayRow.domain false) (Rows.fnExactReplaySpec.post enc Tryz.prog Tryz.f8 false true false false):=by
 refine returnsInHanded_of_change (C:=Tryz.checked) own started (by kernel_rfl) Tryz.func8
  (ChangeSpec.witness6 (enc:=enc) (C:=Tryz.checked) false ⟨#[],#[.agg #[.int .i64 0,.int .i64 0,.slice none 0 0,.slice none 0 0],.slice none 0 0],[]⟩ 8 (by kernel_rfl) (by kernel_rfl) (by kernel_rfl) (by kernel_rfl)) ?_
 intro W base args ds gs before hval0 hW hcnd _;have hval:∀(j:Nat) t v,Tryz.f8.params[j]?=some t→args[j]?=some v→Value.okWide Tryz.prog W .any base t v:=hval0;have hW':=hW;obtain ⟨p,q,hA0,hV,rfl,hfz,hnd⟩:=hW;have hA:DataW.TrodAll enc Tryz.prog W 0 (fun _=>true) true Tryz.f8.params.toList args.toList ds p:=hA0
 rw [Tryz.params8] at hA hval;obtain ⟨v0,vs0,d0,ds0,p0,q0,hargs,rfl,rfl,h0,r0⟩:=trodAll_cons hA;obtain ⟨v1,vs1,d1,ds1,p1,q1,rfl,rfl,rfl,h1,r1⟩:=trodAll_cons r0;obtain ⟨rfl,rfl,rfl⟩:=trodAll_nil r1;obtain rfl:args=#[v0,v1]:=by cases args;simp_all
 obtain ⟨rfl,rfl⟩:=trodVars_none hV;obtain ⟨b0,-,S0,hy0⟩:=jsK rYard Tryz.underlying25 (hval 0 _ v0 rfl rfl) h0;obtain ⟨b1,-,S1,hy1⟩:=jxG jzQ Tryz.underlying91 (hval 1 _ v1 rfl rfl) h1;clear hA0 hval0;simp only [List.append_nil] at hW';refine (jsX (args:=[v0,v1]) (jva b0 b1) ⟨_,_,rfl,⟨_,hy0⟩,⟨_,_,rfl,⟨_,hy1⟩,rfl⟩⟩).mono fun e W' ⟨he,hb⟩=>?_
 subst he;have hlt1:∀x∈p1,x.block<W.heap.size:=fun x hx=>hW'.lt x (by simp [hx])
 have hlt0:∀x∈p0,x.block<W.heap.size:=fun x hx=>hW'.lt x (by simp [hx])
 exact ⟨_,rfl,jqd (pa:=(p0++(p1++[]))) (pv:=[]) hW' (fun _ _ _=>trodAll_mk1 (shut_bool Tryz.underlying4 _)) (fun sp hsp=>(trodAll_cons_mk (jnd laid (by kernel_rfl) (of_decide_eq_true (by kernel_rfl)) h0 hb hlt0 (fun x hx=>hsp x (by simp [hx]))) (trodAll_cons_mk (jnd laid (by kernel_rfl) (of_decide_eq_true (by kernel_rfl)) h1 hb hlt1 (fun x hx=>hsp x (by simp [hx]))) trodAll_mk0))) (fun _ _=>rfl) (by simp) hb (ok_one (by kernel_rfl) rfl (okWide_bool_mk Tryz.underlying4 _))⟩
theorem proved:Rows.FnExactReplaySaid:=
 OpenClaim.holds_of_wide 8 Tryz.f8 rfl rfl rfl rfl rfl rfl rfl ⟨rfl,rfl,rfl,rfl,rfl⟩ rfl rfl rfl rfl rfl (by as_aux_lemma=>kernel_rfl) Tryz.func8 (by unfold joinedFacts;(repeat' (with_reducible refine Bool.and_eq_true_iff.mpr ⟨?_,?_⟩));all_goals (as_aux_lemma=>kernel_rfl))
  (of_decide_eq_true (by as_aux_lemma=>kernel_rfl)) (by unfold Func.isWrapper;first|(rw [if_pos (by decide+kernel)];kernel_rfl)|(rw [if_neg (by decide+kernel)];exact ⟨rfl,rfl⟩))
  (fun os started H enc _=>lifted os started H enc)
end Go.Proofs.YtmnpailnelmpiaaGreat.lawReplay
