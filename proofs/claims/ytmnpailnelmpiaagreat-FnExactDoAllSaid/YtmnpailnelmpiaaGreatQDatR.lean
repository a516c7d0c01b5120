/- Parts. -/
import Derived.Test.YtmnpailnelmpiaaGreatQCancel
set_option linter.unusedSimpArgs false
set_option linter.unusedVariables false
set_option maxHeartbeats 8000000
set_option maxRecDepth 100000
namespace Go.Proofs.YtmnpailnelmpiaaGreat
open Go.RowKit Go.Sort
abbrev tRp:TypeId:=65
def qp (l:List Rp):D:=.sl 4 tRp (l.flatMap (qP))
section
variable {P:Program} {β:Nat} {s:St}
theorem jqQ (l:List Rp):(qp l).len=l.length:=zz (enc:=qP) (fun _=>rfl) (by decide) _ _
theorem jd3 {l:List Rp} {k:Nat} {x:Rp} (h:l[k]?=some x):(qp l).elem k=qP x:=vA (enc:=qP) (fun _=>rfl) h
theorem jsc (l:List Rp):(qp l).isSl=true:=(rfl)
theorem jrU (l:List Rp):(qp l).size=4:=(rfl)
theorem jsA (l:List Rp):(qp l).toRo=.ro (qp l):=(rfl)
theorem jqC (l:List Rp) (g:Nat) (η:jp):(qp l).obj g η=[(g,.loose (qp l) η)]:=(rfl)
theorem jqu (l:List Rp) (g c:Nat) (p:List Nat) (η:jp):(qp l).toOwn g c p η=.h g c p (η p):=(rfl)
theorem jm9 (l:List Rp):(qp l).cells=l.flatMap (qP):=(rfl)
theorem jp5 (l:List Rp) (e:Nat) (k:List D→Prop):slK (qp l) e 4 k=(tRp=e∧k (l.flatMap (qP))):=by rw [show qp l=.sl 4 tRp (l.flatMap (qP)) from rfl,jwE];simp
theorem jrf (l:List Rp):(l.flatMap (qP)).length/4=l.length:=by rw [jG (enc:=qP) (size:=4) (fun _=>rfl)];exact Nat.mul_div_cancel _ (by decide)
theorem jks (l:List Rp) (x:Rp):D.sl 4 tRp (l.flatMap (qP)++qP x)=qp (l++[x]):=by simp [qp]
attribute [go_sem] jqQ jsc jrU jsA jqC jqu jm9 jp5 jrf
end
section
variable {w:World} {own:Bool} {vs:List Value} {S:List Nat}
theorem jex {e:Rp} (h:RepL w own (qP e) vs S):vs=[.int .i64 e.code,.int .i64 e.run,.int .i64 e.task,.int .i64 e.tri]∧S=[]:=by
 obtain ⟨_,rfl,g1⟩:=RepL.val_inv h;obtain ⟨_,rfl,g2⟩:=RepL.val_inv g1;obtain ⟨_,rfl,g3⟩:=RepL.val_inv g2;obtain ⟨_,rfl,g4⟩:=RepL.val_inv g3;obtain ⟨rfl,rfl⟩:=g4;exact ⟨rfl,rfl⟩
theorem jvh (w:World) (own:Bool) (e:Rp):RepL w own (qP e) [.int .i64 e.code,.int .i64 e.run,.int .i64 e.task,.int .i64 e.tri] []:=RepL.val_ (RepL.val_ (RepL.val_ (RepL.val_ RepL.nil_)))
end
noncomputable def doF (y:Yd) (l:List Dd):Yd:=l.foldl doY y
noncomputable def jlC:Yd→List Dd→List Rp
 |_,[]=>[]
 |y,d::l=>doQ y d::jlC (doY y d) l
theorem jA6 {y:Yd} {l:List Dd} {k:Nat} {d:Dd} (h:l[k]?=some d):doF y (l.take (k+1))=doY (doF y (l.take k)) d:=by
 rw [List.take_add_one,h];simp [doF]
theorem jtZ (l:List Dd) (d:Dd):∀y:Yd,jlC y (l++[d])=jlC y l++[doQ (doF y l) d]:=by
 induction l with
 |nil=>intro y;simp [jlC,doF]
 |cons a l ih=>intro y;simp [jlC,doF,ih]
theorem jwY {y:Yd} {l:List Dd} {k:Nat} {d:Dd} (h:l[k]?=some d):jlC y (l.take (k+1))=jlC y (l.take k)++[doQ (doF y (l.take k)) d]:=by
 rw [List.take_add_one,h];exact jtZ _ _ _
theorem jhZ:∀(l:List Dd) (y:Yd),(jlC y l).length=l.length
 |[],_=>rfl
 |d::l,y=>by simp [jlC,jhZ l]
theorem jeS:∀(l:List Dd) (y:Yd),jt y≤1100000→jt (doF y l)≤1100000
 |[],_,h=>h
 |d::l,y,h=>jeS l (doY y d) (jwf y d h)
theorem jpE {l:List Dd} {k:Nat} {d:Dd} (h:l[k]?=some d) (ht:ze l≤2000000):vQ d≤2000000:=by
 have h1:=kL (tot:=vQ) h;have h2:=qE vQ l (k+1);simp only [ze] at ht;omega
def jgW:C:=iS [iA 2 (.box 37 4 (.t 0)),iA 4 (.alloc 37 [.int .i64 0,.int .i64 0,.slice none 0 0,.slice none 0 0]),iA 5 (.mov (.c (.slice none 0 0)))] (iS [iA 12 (iT 4 2),iA 13 (.call 118 [.t 12]),iA 6 (.alloc 37 [.int .i64 0,.int .i64 0,.slice none 0 0,.slice none 0 0]),iC (.st 4 [none,none,some (1,102),some (8,108)] (.t 6) (.t 13))] (iS [iA 7 (.mov (.c (.slice none 0 0)))] (.seq (iS [iA 14 (iM 1),iA 15 (iG 14),iA 16 (iN 0)] (.blk 0 (.loop (iS [iA 17 (iP .lss 3 16 15)] (.seq (iD 17 .skip (.exit 0)) (.seq (.blk 1 (iS [iA 18 (iI 11 14 16),iA 19 (iT 11 18),iA 9 (.alloc 73 [.int .i64 0,.int .i64 0,.int .i64 0,.int .i64 0,.int .i64 0,.int .i64 0,.slice none 0 0,.int .i64 0,.int .i64 0,.int .i64 0,.int .i64 0]),iC (.st 11 [none,none,none,none,none,none,some (2,253),none,none,none,none] (.t 9) (.t 19))] (iS [iA 21 (iT 4 6),iA 22 (iT 11 9),iA 23 (.call 33 [.t 21,.t 22]),iA 20 (iM 23),iA 24 (iE 20 0),iA 25 (iE 20 1),iA 10 (.alloc 37 [.int .i64 0,.int .i64 0,.slice none 0 0,.slice none 0 0]),iA 11 (.alloc 65 [.int .i64 0,.int .i64 0,.int .i64 0,.int .i64 0]),iC (.st 4 [none,none,some (1,102),some (8,108)] (.t 10) (.t 24)),iC (.st 4 [none,none,none,none] (.t 11) (.t 25))] (iS [iA 26 (iT 4 10),iC (.st 4 [none,none,some (1,102),some (8,108)] (.t 6) (.t 26))] (.reg [iA 27 (iM 7),iA 28 (iT 4 11),iA 29 (.bsl 65 4 1 [none,none,none,none] [(0,4,.t 28)]),iA 30 (.app 65 4 32 (.t 27) (.t 29)),iA 7 (iM 30)]))))) (.reg [iA 31 (iQ .add 3 16 1),iA 16 (iM 31)]))))))) (iS [iA 32 (iT 4 6),iA 33 (iM 7),iC (.st 4 [none,none,some (1,102),some (8,108)] (.t 4) (.t 32)),iA 5 (iM 33)] .ret))))
theorem ji0:fnC Tryz.prog Tryz.f40=some (jgW,[.cell 4 true 4,.t 5],34):=by kernel_rfl
def jgQ:C:=iS [iA 2 (.box 37 4 (.t 0)),iA 4 (.alloc 37 [.int .i64 0,.int .i64 0,.slice none 0 0,.slice none 0 0]),iA 5 (.mov (.c (.slice none 0 0)))] (iS [iA 10 (iT 4 2),iA 11 (.call 105 [.t 10]),iA 6 (.alloc 37 [.int .i64 0,.int .i64 0,.slice none 0 0,.slice none 0 0]),iC (.st 4 [none,none,some (1,102),some (8,108)] (.t 6) (.t 11))] (iS [iA 12 (.bsl 65 4 0 [] []),iA 7 (iM 12)] (.seq (iS [iA 8 (iN 0)] (.blk 0 (.loop (.seq (iS [iA 13 (iM 8),iA 14 (iM 1),iA 15 (iG 14),iA 16 (iP .lss 3 13 15)] (iD 16 .skip (.exit 0))) (.seq (.blk 1 (iS [iA 19 (.bld [.int .i64 0,.int .i64 0,.int .i64 0,.int .i64 0] []),iA 9 (.alloc 65 [.int .i64 0,.int .i64 0,.int .i64 0,.int .i64 0]),iC (.st 4 [none,none,none,none] (.t 9) (.t 19))] (.seq (.dreg (T.pure 0 (iA 21 (iT 4 6)) (T.pure 1 (iA 22 (iM 1)) (T.pure 2 (iA 23 (iM 8)) (T.pure 3 (iA 24 (iI 11 22 23)) (T.pure 4 (iA 25 (iT 11 24)) (T.alt (iA 26 (.call 30 [.t 21,.t 25])) [] (T.pure 6 (iA 20 (iM 26)) (T.pure 7 (iA 27 (iE 20 0)) (T.pure 8 (iA 28 (iE 20 1)) (T.alt (iC (.st 4 [none,none,some (1,102),some (8,108)] (.t 6) (.t 27))) [8] (T.alt (iC (.st 4 [none,none,none,none] (.t 9) (.t 28))) [] T.done T.stop) T.stop)))) T.stop))))))) (.reg [iA 29 (iM 7),iA 30 (iT 4 9),iA 31 (.bsl 65 4 1 [none,none,none,none] [(0,4,.t 30)]),iA 32 (.app 65 4 32 (.t 29) (.t 31)),iA 7 (iM 32)])))) (.reg [iA 17 (iM 8),iA 18 (iQ .add 3 17 1),iA 8 (iM 18)])))))) (iS [iA 33 (iT 4 6),iA 34 (iM 7),iC (.st 4 [none,none,some (1,102),some (8,108)] (.t 4) (.t 33)),iA 5 (iM 34)] .ret))))
theorem jiT:fnC Tryz.prog Tryz.f38=some (jgQ,[.cell 4 true 4,.t 5],35):=by kernel_rfl
theorem jms (y:Yd) (l:List Dd) (ht:jt y≤1100000) (hd:ze l≤2000000):ka Tryz.prog 40 [.agg (jb y),.c (qb l)] (.tup [(true,jb (doF y l)),(false,[qp (jlC y l)])]):=by
 refine jr Tryz.func40 ji0 (by simp) ?_
 unfold jgW;have ht2:jt y≤2000000:=by omega
 have hl:l.length≤2000000:=Nat.le_trans (Nat.le_add_right _ _) hd;simp only [go_sem,jb];intro b2 b4;refine jc (jW y ht2) (by simp only [go_sem,jb]) fun ηc=>?_
 simp only [go_sem,jb];intro b6;refine jq (fun i:Nat×jp×jp×jp=>St.of [(4,Bx 400 b4),(6,Bx 600 b6),(7,Hd 7 i.2.2.2),(14,Ro (qb l)),(15,Ni l.length),(16,Ni i.1)] [(400,ZYd b4 tYd),(600,ky b6 tYd (doF y (l.take i.1)).now (doF y (l.take i.1)).seq (doF y (l.take i.1)).shelf i.2.1 (doF y (l.take i.1)).runs i.2.2.1),(7,.loose (qp (jlC y (l.take i.1))) i.2.2.2)]) (fun i=>i.1≤l.length) (fun i=>l.length-i.1) (0,ηc 2,ηc 3,jli) (by (try dsimp only);first|omega|(simp;done)|(and_intros<;>first|omega|simp)) (jk [some 400,some 600,none] (by simp only [go_sem,jb,List.take_zero,show doF y []=y from rfl,show jlC y []=[] from rfl]<;>and_intros<;>first|rfl|assumption)) ?_
 rintro ⟨n,f2,f3,f7⟩ hn;dsimp only at hn;have hz:=jeS (l.take n) y ht;have hrl:=jhZ (l.take n) y;rw [List.length_take,Nat.min_eq_left hn] at hrl;by_cases hlt:n<l.length
 ·have hlt':(n:Int)<l.length:=by omega
  have h0k:(n:Int)≥0:=by omega
  obtain ⟨d,hx⟩:=je hlt;have hw:IntKind.i64.wrap ((n:Int)+1)=((n+1:Nat):Int):=jo (by omega) (by omega)
  have hF:=jA6 (y:=y) hx;have hR:=jwY (y:=y) hx;have hdt:=jpE hx hd;generalize doF y (l.take n)=z at*;generalize jlC y (l.take n)=rs at*;have hsn:=jks rs (doQ z d);simp only [qP] at hsn;have h1':rs.length+1≤maxLen:=by unfold maxLen;omega
  have h2':(rs.length+1)*32≤140737488355328:=by omega
  simp only [go_sem,hlt,hlt',h0k,jbn hx,jg,ja,List.cons_append,List.nil_append];intro b9;refine jc (jsX z d (by omega) hdt) (by simp only [go_sem,jb,jg,ja,List.cons_append,List.nil_append]) fun ηd=>?_
  simp only [go_sem,jb,jg,ja,List.cons_append,List.nil_append];intro b10 b11;simp only [go_sem,jb,h1',h2',hsn,hw];intro η29 η30;exact ⟨(n+1,ηd 2,ηd 3,η30),by (try dsimp only);first|omega|assumption|(and_intros<;>first|omega|assumption),(jk [some 400,some 600,some 3000] (by simp only [go_sem,jb,hF,hR,hsn,jQ]<;>and_intros<;>first|rfl|assumption)),by (try dsimp only);omega⟩
 ·have hlt':¬(n:Int)<l.length:=by omega
  obtain rfl:n=l.length:=by omega
  rw [List.take_length];simp only [go_sem,hlt'];refine kZ _ _ _ _ _ ?_;simp only [go_sem,jb]
theorem jmo (y:Yd) (l:List Dd) (ht:jt y≤1100000) (hd:ze l≤2000000):ka Tryz.prog 38 [.agg (jb y),.c (qb l)] (.tup [(true,jb (doF y l)),(false,[qp (jlC y l)])]):=by
 refine jr Tryz.func38 jiT (by simp) ?_
 unfold jgQ;have ht2:jt y≤2000000:=by omega
 have hl:l.length≤2000000:=Nat.le_trans (Nat.le_add_right _ _) hd;simp only [go_sem,jb];intro b2 b4;refine jc (kg y ht2) (by simp only [go_sem,jb]) fun ηc=>?_
 simp only [go_sem,jb];intro b6 η12;refine jq (fun i:Nat×jp×jp×jp=>St.of [(1,Ro (qb l)),(4,Bx 400 b4),(6,Bx 600 b6),(7,Hd 7 i.2.2.2),(8,Ni i.1)] [(400,ZYd b4 tYd),(600,ky b6 tYd (doF y (l.take i.1)).now (doF y (l.take i.1)).seq (doF y (l.take i.1)).shelf i.2.1 (doF y (l.take i.1)).runs i.2.2.1),(7,.loose (qp (jlC y (l.take i.1))) i.2.2.2)]) (fun i=>i.1≤l.length) (fun i=>l.length-i.1) (0,ηc 2,ηc 3,η12) (by (try dsimp only);first|omega|(simp;done)|(and_intros<;>first|omega|simp)) (jk [some 400,some 600,some 1200] (by simp only [go_sem,jb,List.take_zero,show doF y []=y from rfl,show jlC y []=[] from rfl]<;>and_intros<;>first|rfl|assumption)) ?_
 rintro ⟨n,f2,f3,f7⟩ hn;dsimp only at hn;have hz:=jeS (l.take n) y ht;have hrl:=jhZ (l.take n) y;rw [List.length_take,Nat.min_eq_left hn] at hrl;by_cases hlt:n<l.length
 ·have hlt':(n:Int)<l.length:=by omega
  have h0k:(n:Int)≥0:=by omega
  obtain ⟨d,hx⟩:=je hlt;have hw:IntKind.i64.wrap ((n:Int)+1)=((n+1:Nat):Int):=jo (by omega) (by omega)
  have hF:=jA6 (y:=y) hx;have hR:=jwY (y:=y) hx;have hdt:=jpE hx hd;generalize doF y (l.take n)=z at*;generalize jlC y (l.take n)=rs at*;have hsn:=jks rs (doQ z d);simp only [qP] at hsn;have h1':rs.length+1≤maxLen:=by unfold maxLen;omega
  have h2':(rs.length+1)*32≤140737488355328:=by omega
  simp only [go_sem,hlt,hlt',h0k,jbn hx,jg,ja,List.cons_append,List.nil_append];intro b9;refine jc (jsV z d (by omega) hdt) (by simp only [go_sem,hlt,hlt',h0k,jbn hx,jb,jg,ja,List.cons_append,List.nil_append]) fun ηd=>?_
  simp only [go_sem,hlt,hlt',h0k,jbn hx,jb,jg,ja,List.cons_append,List.nil_append];simp only [go_sem,jb,h1',h2',hsn,hw];intro η31 η32;exact ⟨(n+1,ηd 2,ηd 3,η32),by (try dsimp only);first|omega|assumption|(and_intros<;>first|omega|assumption),(jk [some 400,some 600,some 3200] (by simp only [go_sem,jb,hF,hR,hsn,jQ]<;>and_intros<;>first|rfl|assumption)),by (try dsimp only);omega⟩
 ·have hlt':¬(n:Int)<l.length:=by omega
  obtain rfl:n=l.length:=by omega
  rw [List.take_length];simp only [go_sem,hlt'];refine kZ _ _ _ _ _ ?_;simp only [go_sem,jb]
open Go.RowKit Go.Sort Go.BigFrame
def jtd (k:Int):Rp:=⟨k,k+1,k+1+1,k+1+1+1⟩
theorem jmy (l:List Rp) (k:Int) (v:Value) (S:List Nat) (B:Nat) (w:World) (ha:Rep w true (qp l) v S) (hF:Fresh B S) (h0:0≤k) (h1:k+4*(l.length:Int)≤4611686018427387904):
 Calls Tryz.prog 44 #[v,.int .i64 k] w fun e w'=>e=.returned (.int .i64 (k+4*(l.length:Int)))∧Rep w' true (qp (mkR jtd 4 l.length k)) v S∧Only S w w':=by
 obtain ⟨A,c,rfl,hc1,hc2,-⟩:=Rep.open_ (size:=4) (enc:=qP) (fun _=>rfl) (by decide) ha
 unfold maxLen at hc2;have hl1:l.length≤4611686018427387904:=by omega
 go_enter Tryz.func44,Tryz.ntmps44
 go_wp2
 go_loopw [1,5] (fun q i wr=>∃j:Nat,j≤l.length∧i=.int .i64 j∧q=.int .i64 (k+4*(j:Int))∧Rep wr true (qp (mh (mkR jtd 4 l.length k) l j)) (.slice A l.length c) S∧Only S w wr) (fun _ i _=>l.length-(intOf i).toNat)
 case atStart=>exact ⟨0,by omega,rfl,by simp,by rw [jdY];exact ha,Only.refl _ _⟩
 case round=>
  obtain ⟨i,hi,rfl,rfl,hrep,hon⟩:=hrel;by_cases hlt:i<l.length
  ·obtain ⟨x,hx⟩:=je hlt
   have hmx:=jiv (kb jtd 4 l.length k) hx;have HM:=Lib.hid hmx;have HX:=Lib.hid hx;obtain ⟨g,rfl,-,hg1,hg,-⟩:=Rep.head (enc:=qP) (size:=4) (xs:=mh (mkR jtd 4 l.length k) l i) (fun _=>rfl) (by decide) hrep (by rw [kG (kb _ _ _ _)];omega)
   ·skip
    obtain ⟨⟨u0,hu0⟩,hz0⟩:=jO (enc:=qP) (size:=4) (fun _=>rfl) (by decide) hrep (by rw [kG (kb _ _ _ _)];exact hlt) 0 (by decide)
    obtain ⟨⟨u1,hu1⟩,hz1⟩:=jO (enc:=qP) (size:=4) (fun _=>rfl) (by decide) hrep (by rw [kG (kb _ _ _ _)];exact hlt) 1 (by decide)
    obtain ⟨⟨u2,hu2⟩,hz2⟩:=jO (enc:=qP) (size:=4) (fun _=>rfl) (by decide) hrep (by rw [kG (kb _ _ _ _)];exact hlt) 2 (by decide)
    obtain ⟨⟨u3,hu3⟩,hz3⟩:=jO (enc:=qP) (size:=4) (fun _=>rfl) (by decide) hrep (by rw [kG (kb _ _ _ _)];exact hlt) 3 (by decide)
    rw [Nat.add_zero] at hu0 hz0;have HR:=Lib.hid hrep;clear hmx hx;have hq0:0≤k+4*(i:Int):=by omega
    have hq1:k+4*(i:Int)≤4611686018427387904:=by omega
    go_wp2
    go_roundw
    case rel=>
     have hmx:=HM.out;obtain ⟨hr1,ho1,-⟩:=Rep.setField (enc:=qP) (size:=4) (fun _=>rfl) (by decide) hrep hmx 0 (by decide) (.int .i64 (k+4*(i:Int))) (y:=(⟨k+4*(i:Int),x.run,x.task,x.tri⟩:Rp)) (fun vk Sk h=>by obtain ⟨rfl,rfl⟩:=jex h;exact jvh _ _ _) hF
     rw [Nat.add_zero] at hr1 ho1;have hm1:=km (y:=(⟨k+4*(i:Int),x.run,x.task,x.tri⟩:Rp)) hmx;obtain ⟨hr2,ho2,-⟩:=Rep.setField (enc:=qP) (size:=4) (fun _=>rfl) (by decide) hr1 hm1 1 (by decide) (.int .i64 (k+4*(i:Int)+1)) (y:=(⟨k+4*(i:Int),k+4*(i:Int)+1,x.task,x.tri⟩:Rp)) (fun vk Sk h=>by obtain ⟨rfl,rfl⟩:=jex h;exact jvh _ _ _) hF
     have hm2:=km (y:=(⟨k+4*(i:Int),k+4*(i:Int)+1,x.task,x.tri⟩:Rp)) hm1;obtain ⟨hr3,ho3,-⟩:=Rep.setField (enc:=qP) (size:=4) (fun _=>rfl) (by decide) hr2 hm2 2 (by decide) (.int .i64 (k+4*(i:Int)+1+1)) (y:=(⟨k+4*(i:Int),k+4*(i:Int)+1,k+4*(i:Int)+1+1,x.tri⟩:Rp)) (fun vk Sk h=>by obtain ⟨rfl,rfl⟩:=jex h;exact jvh _ _ _) hF
     have hm3:=km (y:=(⟨k+4*(i:Int),k+4*(i:Int)+1,k+4*(i:Int)+1+1,x.tri⟩:Rp)) hm2;obtain ⟨hr4,ho4,-⟩:=Rep.setField (enc:=qP) (size:=4) (fun _=>rfl) (by decide) hr3 hm3 3 (by decide) (.int .i64 (k+4*(i:Int)+1+1+1)) (y:=(⟨k+4*(i:Int),k+4*(i:Int)+1,k+4*(i:Int)+1+1,k+4*(i:Int)+1+1+1⟩:Rp)) (fun vk Sk h=>by obtain ⟨rfl,rfl⟩:=jex h;exact jvh _ _ _) hF
     have hm4:=km (y:=(⟨k+4*(i:Int),k+4*(i:Int)+1,k+4*(i:Int)+1+1,k+4*(i:Int)+1+1+1⟩:Rp)) hm3;simp only [List.set_set] at hr4;refine ⟨i+1,by omega,by go_num,by go_num,?_,hon.trans ((((ho1).trans ho2 (fun t h=>.inl h)).trans ho3 (fun t h=>.inl h)).trans ho4 (fun t h=>.inl h)) (fun t h=>.inl (by simp only [List.mem_singleton] at h;subst h;exact hg1))⟩
     rw [←jiu (kb _ _ _ _) (jb7 jtd 4 l.length k hlt)];exact hr4
    case measure=>simp [intOf];omega
  ·obtain rfl:i=l.length:=by omega
   go_wp2
   go_ret
   exact ⟨rfl,by rw [←jdZ (kb jtd 4 l.length k)];exact hrep,hon⟩
theorem jmT (m:Nat) (k:Int) (v:Value) (S:List Nat) (w:World) (own:Bool) (ha:Rep w own (qp (mkR jtd 4 m k)) v S) (h0:0≤k) (h1:k+4*(m:Int)≤4611686018427387904):
 Calls Tryz.prog 45 #[v,.int .i64 k] w fun e w'=>e=.returned (.int .i64 (k+4*(m:Int)))∧Below w.heap.size w w':=by
 obtain ⟨A,c,rfl,hc1,hc2,hca⟩:=Rep.open_ (size:=4) (enc:=qP) (fun _=>rfl) (by decide) ha
 rw [kb] at*;unfold maxLen at hc2;have hl1:m≤4611686018427387904:=by omega
 clear ha
 go_enter Tryz.func45,Tryz.ntmps45
 go_wp2
 go_loopw [1,5] (fun q i wr=>∃j:Nat,j≤m∧i=.int .i64 j∧q=.int .i64 (k+4*(j:Int))∧Below w.heap.size w wr) (fun _ i _=>m-(intOf i).toNat)
 case atStart=>exact ⟨0,by omega,rfl,by simp,Below.refl _ _⟩
 case round=>
  obtain ⟨i,hi,rfl,rfl,hbel⟩:=hrel;by_cases hlt:i<m
  ·obtain ⟨b1,o1,vk1,T1,rfl,-,hr1,-,-,hb1,hx1⟩:=hca i _ (jb7 jtd 4 m k hlt)
   clear hca
   ·skip
    obtain ⟨rfl,rfl⟩:=jex hr1;have p0:=ctm (b:=b1) (o:=o1+i*4) hbel (hx1 0 _ rfl);have p1:=ctm (b:=b1) (o:=o1+i*4+1) hbel (hx1 1 _ rfl);have p2:=ctm (b:=b1) (o:=o1+i*4+2) hbel (hx1 2 _ rfl);have p3:=ctm (b:=b1) (o:=o1+i*4+3) hbel (hx1 3 _ rfl);simp only [jtd] at p0 p1 p2 p3;clear hx1;have hq0:0≤k+4*(i:Int):=by omega
    have hq1:k+4*(i:Int)≤4611686018427387904:=by omega
    go_wp2
    go_roundw
    case rel=>exact ⟨i+1,by omega,by go_num,by go_num,hbel⟩
    case measure=>simp [intOf];omega
  ·obtain rfl:i=m:=by omega
   clear hca
   go_wp2
   go_ret
   exact ⟨rfl,hbel⟩
def jx8 (x:Dd) (q:Int):Dd:=⟨q,q+1,⟨q+1+1,q+1+1+1,q+1+1+1+1,q+1+1+1+1+1,mkR jek 2 x.plan.edges.length (q+1+1+1+1+1+1)⟩,q+1+1+1+1+1+1+2*(x.plan.edges.length:Int),q+1+1+1+1+1+1+2*(x.plan.edges.length:Int)+1,q+1+1+1+1+1+1+2*(x.plan.edges.length:Int)+1+1,q+1+1+1+1+1+1+2*(x.plan.edges.length:Int)+1+1+1⟩
def cDd (x:Dd):Nat:=10+2*x.plan.edges.length
set_option maxRecDepth 8000 in
theorem jn9 (l:List Dd) (k:Int) (v:Value) (S:List Nat) (B:Nat) (w:World) (ha:Rep w true (qb l) v S) (hF:Fresh B S) (h0:0≤k) (h1:k+(kj cDd l:Nat)≤2305843009213693952) (h2:l.length≤2305843009213693952):
 Calls Tryz.prog 43 #[v,.int .i64 k] w fun e w'=>e=.returned (.int .i64 (k+(kj cDd l:Nat)))∧Rep w' true (qb (mkL jx8 cDd l k)) v S∧Only S w w':=by
 obtain ⟨A,c,rfl,hc1,hc2,-⟩:=Rep.open_ (size:=11) (enc:=jg) (fun _=>rfl) (by decide) ha
 go_enter Tryz.func43,Tryz.ntmps43
 go_wp2
 go_loopw [1,5] (fun q i wr=>∃j:Nat,j≤l.length∧i=.int .i64 j∧q=.int .i64 (k+(kj cDd (l.take j):Nat))∧Rep wr true (qb (mh (mkL jx8 cDd l k) l j)) (.slice A l.length c) S∧Only S w wr) (fun _ i _=>l.length-(intOf i).toNat)
 case atStart=>exact ⟨0,by omega,rfl,by simp [kj],by rw [jdY];exact ha,Only.refl _ _⟩
 case round=>
  obtain ⟨i,hi,rfl,rfl,hrep,hon⟩:=hrel;by_cases hlt:i<l.length
  ·obtain ⟨x,hx⟩:=je hlt
   have hmx:=jiv (kq jx8 cDd l k) hx;obtain ⟨g,rfl,-,hg1,hg,-⟩:=Rep.head (enc:=jg) (size:=11) (xs:=mh (mkL jx8 cDd l k) l i) (fun _=>rfl) (by decide) hrep (by rw [kG (kq _ _ _ _)];omega)
   ·skip
    have hts:=kL (tot:=cDd) hx;have htl:=qE cDd l (i+1);have hcx:cDd x=10+2*x.plan.edges.length:=rfl;obtain ⟨q,hq⟩:∃q,q=k+((kj cDd (l.take i):Nat):Int):=⟨_,rfl⟩;have HT:=Lib.hid (show q+1+1+1+1+1+1+2*(x.plan.edges.length:Int)+1+1+1+1=k+((kj cDd (l.take (i+1)):Nat):Int) by omega)
    have hq0:0≤q:=by omega
    have hq1:q+1+1+1+1+1+1+2*(x.plan.edges.length:Int)+1+1+1+1≤2305843009213693952:=by omega
    have HM:=Lib.hid (jfY jx8 cDd l k hx);rw [←hq] at HM⊢;clear hq;obtain ⟨vk,Sk,hrk,hSk,hFk,hcell,hgk,-,-⟩:=Rep.inElem (enc:=jg) (size:=11) (fun _=>rfl) (by decide) hrep hF hmx
    obtain ⟨sv6,rfl,hs6⟩:=kE hrk;obtain ⟨A6,n6,m6,rfl⟩:=Rep.form hs6;have p0:wr.cell? ⟨g,i*11,none⟩=_:=hcell 0 _ rfl;have p1:wr.cell? ⟨g,i*11+1,none⟩=_:=hcell 1 _ rfl;have p2:wr.cell? ⟨g,i*11+2,none⟩=_:=hcell 2 _ rfl;have p3:wr.cell? ⟨g,i*11+3,none⟩=_:=hcell 3 _ rfl;have p4:wr.cell? ⟨g,i*11+4,none⟩=_:=hcell 4 _ rfl;have p5:wr.cell? ⟨g,i*11+5,none⟩=_:=hcell 5 _ rfl;have p6:wr.cell? ⟨g,i*11+6,none⟩=_:=hcell 6 _ rfl;have p7:wr.cell? ⟨g,i*11+7,none⟩=_:=hcell 7 _ rfl;have p8:wr.cell? ⟨g,i*11+8,none⟩=_:=hcell 8 _ rfl;have p9:wr.cell? ⟨g,i*11+9,none⟩=_:=hcell 9 _ rfl;have p10:wr.cell? ⟨g,i*11+10,none⟩=_:=hcell 10 _ rfl;have z0:wr.frozen? ⟨g,i*11,none⟩=false:=(jO (enc:=jg) (size:=11) (fun _=>rfl) (by decide) hrep (by rw [kG (kq _ _ _ _)];exact hlt) 0 (by decide)).2
    have z1:wr.frozen? ⟨g,i*11+1,none⟩=false:=(jO (enc:=jg) (size:=11) (fun _=>rfl) (by decide) hrep (by rw [kG (kq _ _ _ _)];exact hlt) 1 (by decide)).2
    have z2:wr.frozen? ⟨g,i*11+2,none⟩=false:=(jO (enc:=jg) (size:=11) (fun _=>rfl) (by decide) hrep (by rw [kG (kq _ _ _ _)];exact hlt) 2 (by decide)).2
    have z3:wr.frozen? ⟨g,i*11+3,none⟩=false:=(jO (enc:=jg) (size:=11) (fun _=>rfl) (by decide) hrep (by rw [kG (kq _ _ _ _)];exact hlt) 3 (by decide)).2
    have z4:wr.frozen? ⟨g,i*11+4,none⟩=false:=(jO (enc:=jg) (size:=11) (fun _=>rfl) (by decide) hrep (by rw [kG (kq _ _ _ _)];exact hlt) 4 (by decide)).2
    have z5:wr.frozen? ⟨g,i*11+5,none⟩=false:=(jO (enc:=jg) (size:=11) (fun _=>rfl) (by decide) hrep (by rw [kG (kq _ _ _ _)];exact hlt) 5 (by decide)).2
    have z7:wr.frozen? ⟨g,i*11+7,none⟩=false:=(jO (enc:=jg) (size:=11) (fun _=>rfl) (by decide) hrep (by rw [kG (kq _ _ _ _)];exact hlt) 7 (by decide)).2
    have z8:wr.frozen? ⟨g,i*11+8,none⟩=false:=(jO (enc:=jg) (size:=11) (fun _=>rfl) (by decide) hrep (by rw [kG (kq _ _ _ _)];exact hlt) 8 (by decide)).2
    have z9:wr.frozen? ⟨g,i*11+9,none⟩=false:=(jO (enc:=jg) (size:=11) (fun _=>rfl) (by decide) hrep (by rw [kG (kq _ _ _ _)];exact hlt) 9 (by decide)).2
    have z10:wr.frozen? ⟨g,i*11+10,none⟩=false:=(jO (enc:=jg) (size:=11) (fun _=>rfl) (by decide) hrep (by rw [kG (kq _ _ _ _)];exact hlt) 10 (by decide)).2
    clear hcell hx hts htl hcx
    go_wp2_with (first
     |(go_at_call 127;obtain ⟨hr0,ho0,-⟩:=Rep.setField (enc:=jg) (size:=11) (fun _=>rfl) (by decide) hrep hmx 0 (by decide) (.int .i64 (q)) (y:=(⟨q,x.run,⟨x.plan.prio,x.plan.most,x.plan.wait,x.plan.tasks,x.plan.edges⟩,x.task,x.tri,x.worker,x.draw⟩:Dd)) (fun vk Sk h=>by obtain ⟨_,rfl,k1⟩:=kE h;exact jf3 k1) hF;rw [Nat.add_zero] at hr0 ho0;have hm0:=km (y:=(⟨q,x.run,⟨x.plan.prio,x.plan.most,x.plan.wait,x.plan.tasks,x.plan.edges⟩,x.task,x.tri,x.worker,x.draw⟩:Dd)) hmx;obtain ⟨hr1,ho1,-⟩:=Rep.setField (enc:=jg) (size:=11) (fun _=>rfl) (by decide) hr0 hm0 1 (by decide) (.int .i64 (q+1)) (y:=(⟨q,q+1,⟨x.plan.prio,x.plan.most,x.plan.wait,x.plan.tasks,x.plan.edges⟩,x.task,x.tri,x.worker,x.draw⟩:Dd)) (fun vk Sk h=>by obtain ⟨_,rfl,k1⟩:=kE h;exact jf3 k1) hF;have hm1:=km (y:=(⟨q,q+1,⟨x.plan.prio,x.plan.most,x.plan.wait,x.plan.tasks,x.plan.edges⟩,x.task,x.tri,x.worker,x.draw⟩:Dd)) hm0;obtain ⟨hr2,ho2,-⟩:=Rep.setField (enc:=jg) (size:=11) (fun _=>rfl) (by decide) hr1 hm1 2 (by decide) (.int .i64 (q+1+1)) (y:=(⟨q,q+1,⟨q+1+1,x.plan.most,x.plan.wait,x.plan.tasks,x.plan.edges⟩,x.task,x.tri,x.worker,x.draw⟩:Dd)) (fun vk Sk h=>by obtain ⟨_,rfl,k1⟩:=kE h;exact jf3 k1) hF;have hm2:=km (y:=(⟨q,q+1,⟨q+1+1,x.plan.most,x.plan.wait,x.plan.tasks,x.plan.edges⟩,x.task,x.tri,x.worker,x.draw⟩:Dd)) hm1;obtain ⟨hr3,ho3,-⟩:=Rep.setField (enc:=jg) (size:=11) (fun _=>rfl) (by decide) hr2 hm2 3 (by decide) (.int .i64 (q+1+1+1)) (y:=(⟨q,q+1,⟨q+1+1,q+1+1+1,x.plan.wait,x.plan.tasks,x.plan.edges⟩,x.task,x.tri,x.worker,x.draw⟩:Dd)) (fun vk Sk h=>by obtain ⟨_,rfl,k1⟩:=kE h;exact jf3 k1) hF;have hm3:=km (y:=(⟨q,q+1,⟨q+1+1,q+1+1+1,x.plan.wait,x.plan.tasks,x.plan.edges⟩,x.task,x.tri,x.worker,x.draw⟩:Dd)) hm2;obtain ⟨hr4,ho4,-⟩:=Rep.setField (enc:=jg) (size:=11) (fun _=>rfl) (by decide) hr3 hm3 4 (by decide) (.int .i64 (q+1+1+1+1)) (y:=(⟨q,q+1,⟨q+1+1,q+1+1+1,q+1+1+1+1,x.plan.tasks,x.plan.edges⟩,x.task,x.tri,x.worker,x.draw⟩:Dd)) (fun vk Sk h=>by obtain ⟨_,rfl,k1⟩:=kE h;exact jf3 k1) hF;have hm4:=km (y:=(⟨q,q+1,⟨q+1+1,q+1+1+1,q+1+1+1+1,x.plan.tasks,x.plan.edges⟩,x.task,x.tri,x.worker,x.draw⟩:Dd)) hm3;obtain ⟨hr5,ho5,-⟩:=Rep.setField (enc:=jg) (size:=11) (fun _=>rfl) (by decide) hr4 hm4 5 (by decide) (.int .i64 (q+1+1+1+1+1)) (y:=(⟨q,q+1,⟨q+1+1,q+1+1+1,q+1+1+1+1,q+1+1+1+1+1,x.plan.edges⟩,x.task,x.tri,x.worker,x.draw⟩:Dd)) (fun vk Sk h=>by obtain ⟨_,rfl,k1⟩:=kE h;exact jf3 k1) hF;have hm5:=km (y:=(⟨q,q+1,⟨q+1+1,q+1+1+1,q+1+1+1+1,q+1+1+1+1+1,x.plan.edges⟩,x.task,x.tri,x.worker,x.draw⟩:Dd)) hm4;obtain ⟨vkA,SkA,hrkA,hSkA,hFkA,hcellA,hgkA,-,hbackA⟩:=Rep.inElem (enc:=jg) (size:=11) (fun _=>rfl) (by decide) hr5 hF hm5;obtain ⟨evA6,rfl,eA6⟩:=kE hrkA;have hvA6:=hcellA 6 _ rfl;simp [go_sem,p6] at hvA6;subst hvA6;refine (jix x.plan.edges (q+1+1+1+1+1+1) _ SkA B _ eA6 hFkA (by omega) (by omega)).mono ?_;rintro e wA ⟨rfl,hrA,hoA⟩;obtain ⟨hdA,hzA⟩:=jvA hoA (b:=g) (by simpa using hg) (fun h=>hgkA (by simp [h]));have hgA:g<wA.heap.size:=Nat.lt_of_lt_of_le (by simpa using hg) hoA.size))
    go_roundw
    case rel=>
     have hbA:=hbackA wA (⟨q,q+1,⟨q+1+1,q+1+1+1,q+1+1+1+1,q+1+1+1+1+1,mkR jek 2 x.plan.edges.length (q+1+1+1+1+1+1)⟩,x.task,x.tri,x.worker,x.draw⟩:Dd) (hoA.mono (fun s hs=>.inl (by simp [hs]))) (jf3 (d:=(⟨q,q+1,⟨q+1+1,q+1+1+1,q+1+1+1+1,q+1+1+1+1+1,mkR jek 2 x.plan.edges.length (q+1+1+1+1+1+1)⟩,x.task,x.tri,x.worker,x.draw⟩:Dd)) hrA)
     have hnA:=km (y:=(⟨q,q+1,⟨q+1+1,q+1+1+1,q+1+1+1+1,q+1+1+1+1+1,mkR jek 2 x.plan.edges.length (q+1+1+1+1+1+1)⟩,x.task,x.tri,x.worker,x.draw⟩:Dd)) hm5;obtain ⟨hr7,ho7,-⟩:=Rep.setField (enc:=jg) (size:=11) (fun _=>rfl) (by decide) hbA hnA 7 (by decide) (.int .i64 (q+1+1+1+1+1+1+2*(x.plan.edges.length:Int))) (y:=(⟨q,q+1,⟨q+1+1,q+1+1+1,q+1+1+1+1,q+1+1+1+1+1,mkR jek 2 x.plan.edges.length (q+1+1+1+1+1+1)⟩,q+1+1+1+1+1+1+2*(x.plan.edges.length:Int),x.tri,x.worker,x.draw⟩:Dd)) (fun vk Sk h=>by obtain ⟨_,rfl,k1⟩:=kE h;exact jf3 k1) hF
     have hm7:=km (y:=(⟨q,q+1,⟨q+1+1,q+1+1+1,q+1+1+1+1,q+1+1+1+1+1,mkR jek 2 x.plan.edges.length (q+1+1+1+1+1+1)⟩,q+1+1+1+1+1+1+2*(x.plan.edges.length:Int),x.tri,x.worker,x.draw⟩:Dd)) hnA;obtain ⟨hr8,ho8,-⟩:=Rep.setField (enc:=jg) (size:=11) (fun _=>rfl) (by decide) hr7 hm7 8 (by decide) (.int .i64 (q+1+1+1+1+1+1+2*(x.plan.edges.length:Int)+1)) (y:=(⟨q,q+1,⟨q+1+1,q+1+1+1,q+1+1+1+1,q+1+1+1+1+1,mkR jek 2 x.plan.edges.length (q+1+1+1+1+1+1)⟩,q+1+1+1+1+1+1+2*(x.plan.edges.length:Int),q+1+1+1+1+1+1+2*(x.plan.edges.length:Int)+1,x.worker,x.draw⟩:Dd)) (fun vk Sk h=>by obtain ⟨_,rfl,k1⟩:=kE h;exact jf3 k1) hF
     have hm8:=km (y:=(⟨q,q+1,⟨q+1+1,q+1+1+1,q+1+1+1+1,q+1+1+1+1+1,mkR jek 2 x.plan.edges.length (q+1+1+1+1+1+1)⟩,q+1+1+1+1+1+1+2*(x.plan.edges.length:Int),q+1+1+1+1+1+1+2*(x.plan.edges.length:Int)+1,x.worker,x.draw⟩:Dd)) hm7;obtain ⟨hr9,ho9,-⟩:=Rep.setField (enc:=jg) (size:=11) (fun _=>rfl) (by decide) hr8 hm8 9 (by decide) (.int .i64 (q+1+1+1+1+1+1+2*(x.plan.edges.length:Int)+1+1)) (y:=(⟨q,q+1,⟨q+1+1,q+1+1+1,q+1+1+1+1,q+1+1+1+1+1,mkR jek 2 x.plan.edges.length (q+1+1+1+1+1+1)⟩,q+1+1+1+1+1+1+2*(x.plan.edges.length:Int),q+1+1+1+1+1+1+2*(x.plan.edges.length:Int)+1,q+1+1+1+1+1+1+2*(x.plan.edges.length:Int)+1+1,x.draw⟩:Dd)) (fun vk Sk h=>by obtain ⟨_,rfl,k1⟩:=kE h;exact jf3 k1) hF
     have hm9:=km (y:=(⟨q,q+1,⟨q+1+1,q+1+1+1,q+1+1+1+1,q+1+1+1+1+1,mkR jek 2 x.plan.edges.length (q+1+1+1+1+1+1)⟩,q+1+1+1+1+1+1+2*(x.plan.edges.length:Int),q+1+1+1+1+1+1+2*(x.plan.edges.length:Int)+1,q+1+1+1+1+1+1+2*(x.plan.edges.length:Int)+1+1,x.draw⟩:Dd)) hm8;obtain ⟨hr10,ho10,-⟩:=Rep.setField (enc:=jg) (size:=11) (fun _=>rfl) (by decide) hr9 hm9 10 (by decide) (.int .i64 (q+1+1+1+1+1+1+2*(x.plan.edges.length:Int)+1+1+1)) (y:=(⟨q,q+1,⟨q+1+1,q+1+1+1,q+1+1+1+1,q+1+1+1+1+1,mkR jek 2 x.plan.edges.length (q+1+1+1+1+1+1)⟩,q+1+1+1+1+1+1+2*(x.plan.edges.length:Int),q+1+1+1+1+1+1+2*(x.plan.edges.length:Int)+1,q+1+1+1+1+1+1+2*(x.plan.edges.length:Int)+1+1,q+1+1+1+1+1+1+2*(x.plan.edges.length:Int)+1+1+1⟩:Dd)) (fun vk Sk h=>by obtain ⟨_,rfl,k1⟩:=kE h;exact jf3 k1) hF
     have hm10:=km (y:=(⟨q,q+1,⟨q+1+1,q+1+1+1,q+1+1+1+1,q+1+1+1+1+1,mkR jek 2 x.plan.edges.length (q+1+1+1+1+1+1)⟩,q+1+1+1+1+1+1+2*(x.plan.edges.length:Int),q+1+1+1+1+1+1+2*(x.plan.edges.length:Int)+1,q+1+1+1+1+1+1+2*(x.plan.edges.length:Int)+1+1,q+1+1+1+1+1+1+2*(x.plan.edges.length:Int)+1+1+1⟩:Dd)) hm9;simp only [List.set_set] at hr10;refine ⟨i+1,by omega,by go_num,by first|(rw [←HT.out])|(rw [←HT.out];go_num),?_,(((((((((((hon.trans ho0 (fun t h=>.inl (by simp only [List.mem_singleton] at h;subst h;exact hg1))).trans ho1 (fun t h=>.inl (by simp only [List.mem_singleton] at h;subst h;exact hg1))).trans ho2 (fun t h=>.inl (by simp only [List.mem_singleton] at h;subst h;exact hg1))).trans ho3 (fun t h=>.inl (by simp only [List.mem_singleton] at h;subst h;exact hg1))).trans ho4 (fun t h=>.inl (by simp only [List.mem_singleton] at h;subst h;exact hg1))).trans ho5 (fun t h=>.inl (by simp only [List.mem_singleton] at h;subst h;exact hg1))).trans hoA (fun t h=>.inl (hSkA t (by simp [h])))).trans ho7 (fun t h=>.inl (by simp only [List.mem_singleton] at h;subst h;exact hg1))).trans ho8 (fun t h=>.inl (by simp only [List.mem_singleton] at h;subst h;exact hg1))).trans ho9 (fun t h=>.inl (by simp only [List.mem_singleton] at h;subst h;exact hg1))).trans ho10 (fun t h=>.inl (by simp only [List.mem_singleton] at h;subst h;exact hg1)))⟩
     rw [←jiu (kq _ _ _ _) HM.out];exact hr10
    case measure=>simp [intOf];omega
  ·obtain rfl:i=l.length:=by omega
   go_wp2
   go_ret
   rw [List.take_length];exact ⟨rfl,by rw [←jdZ (kq jx8 cDd l k)];exact hrep,hon⟩
theorem jhH {α:Type} {c t:α→Nat} {K:Nat} (h:∀x,c x≤K*t x+K):∀l:List α,kj c l≤K*kj t l+K*l.length
 |[]=>by simp [kj]
 |x::l=>by
  have h1:=h x;have h2:=jhH h l;simp only [kj,List.map_cons,List.sum_cons,List.length_cons] at h2⊢;rw [Nat.mul_add,Nat.mul_add];omega
theorem b_cRn (r:Rn):cRn r≤16*kn r+16:=by
 simp only [cRn,kn,zR];omega
theorem b_yd (y:Yd):cYd y≤16*jt y:=by
 have h1:=jhH (c:=c4) (t:=kO) (K:=16) (fun l=>by simp only [c4,kO];omega) y.shelf
 have h2:=jhH b_cRn y.runs;have h3:jt y=(y.shelf.length+kj kO y.shelf)+(y.runs.length+kj kn y.runs):=rfl;have h4:cYd y=kj c4 y.shelf+kj cRn y.runs:=rfl;omega
@[go_sem] theorem jBx (y:Yd) (k:Int):(juD y k).now=y.now:=(rfl)
@[go_sem] theorem jBw (y:Yd) (k:Int):(juD y k).seq=y.seq:=(rfl)
def jcs:C:=iS [iA 4 (iO false)] (.seq (iS [iA 6 (iM 0),iA 7 (iG 6),iA 8 (iM 1),iA 9 (iG 8),iA 10 (iP .neq 3 7 9)] (iD 10 (iS [iA 4 (iO false)] .ret) .skip)) (.seq (iS [iA 5 (iN 0)] (.blk 0 (.loop (.seq (iS [iA 11 (iM 5),iA 12 (iM 0),iA 13 (iG 12),iA 14 (iP .lss 3 11 13)] (iD 14 .skip (.exit 0))) (.seq (.blk 1 (.seq (.dreg (T.pure 0 (iA 17 (iM 0)) (T.pure 1 (iA 18 (iM 5)) (T.pure 2 (iA 19 (iI 4 17 18)) (T.pure 3 (iA 20 (iT 4 19)) (T.pure 4 (iA 21 (iM 1)) (T.pure 5 (iA 22 (iM 5)) (T.pure 6 (iA 23 (iI 4 21 22)) (T.pure 7 (iA 24 (iT 4 23)) (T.alt (iA 25 (.call 34 [.t 20,.t 24])) [] (T.pure 9 (iA 26 (iU 25)) T.done) T.stop)))))))))) (iD 26 (iS [iA 4 (iO false)] .ret) .skip))) (.reg [iA 15 (iM 5),iA 16 (iQ .add 3 15 1),iA 5 (iM 16)])))))) (iS [iA 4 (iO true)] .ret)))
theorem jeZ:fnC Tryz.prog Tryz.f41=some (jcs,[.t 4],27):=by kernel_rfl
theorem jfX (x _y:List Rp) (hx:x.length≤4000000):ka Tryz.prog 41 [.c (qp x),.c (qp x)] (.c (.val (.bool true))):=by
 refine jr Tryz.func41 jeZ (by simp) ?_
 unfold jcs;have hb:((x.length:Int) !=(x.length:Int))=false:=by simp
 simp only [go_sem,hb];refine jq (fun i:Nat=>St.of [(0,Ro (qp x)),(1,Ro (qp x)),(5,Ni i)] []) (fun i=>i≤x.length) (fun i=>x.length-i) 0 (by (try dsimp only);first|omega|(simp;done)|(and_intros<;>first|omega|simp)) (jk [] (by simp only [go_sem]<;>and_intros<;>first|rfl|assumption)) ?_
 rintro k hk;by_cases hlt:k<x.length
 ·have hlt':(k:Int)<x.length:=by omega
  have h0k:(k:Int)≥0:=by omega
  obtain ⟨a,ha⟩:=je hlt;have hw:IntKind.i64.wrap ((k:Int)+1)=((k+1:Nat):Int):=jo (by omega) (by omega)
  simp only [go_sem,hlt,hlt',h0k,jd3 ha];refine jc (jsY a a) (by simp only [go_sem,hlt,hlt',h0k,jd3 ha]) fun η=>?_
  simp only [go_sem,hlt,hlt',h0k,jd3 ha];simp only [go_sem,hw,Bool.not_true];exact ⟨k+1,by (try dsimp only);first|omega|assumption|(and_intros<;>first|omega|assumption),(jk [] (by simp only [go_sem]<;>and_intros<;>first|rfl|assumption)),by (try dsimp only);omega⟩
 ·have hlt':¬(k:Int)<x.length:=by omega
  simp only [go_sem,hlt']
theorem jgJ (m:Nat) (k:Int) (h0:0≤k) (h1:k+4*(m:Int)≤4611686018427387904):ka Tryz.prog 45 [.c (qp (mkR jtd 4 m k)),.c (.val (.int .i64 k))] (.c (.val (.int .i64 (k+((4*m:Nat):Int))))):=jfQ ⟨_,Tryz.func45,by kernel_rfl,by kernel_rfl⟩ fun w a b ⟨S,ha⟩ hb=>by rw [vE hb];exact jmT m k a S w false ha h0 h1
theorem b_cDd (n:Dd):cDd n≤16*vQ n+16:=by
 simp only [cDd,vQ,zR];omega
theorem b_dds (l:List Dd):kj cDd l≤16*ze l:=by
 have:=jhH b_cDd l;have h:ze l=l.length+kj vQ l:=rfl;omega
end Go.Proofs.YtmnpailnelmpiaaGreat
