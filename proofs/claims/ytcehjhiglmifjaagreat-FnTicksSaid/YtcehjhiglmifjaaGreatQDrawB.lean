/- Parts. -/
import Derived.Test.YtcehjhiglmifjaaGreatQKeepB
set_option linter.unusedSimpArgs false
set_option linter.unusedVariables false
set_option maxHeartbeats 16000000
set_option maxRecDepth 100000
namespace Go.Proofs.YtcehjhiglmifjaaGreat
open Go.RowKit Go.Sort
theorem jlg {l:List UInt8} {k:Nat} {u:UInt8} (h:l[k]?=some u):(jaY l).elem k=[D.val (.int .u8 (u.toNat:Int))]:=by
 have h1:=(List.getElem?_eq_some_iff.1 h).1;simp only [jaY,D.elem,D.cells,D.size,Nat.mul_one,←List.map_drop];rw [List.drop_eq_getElem_cons h1,(List.getElem?_eq_some_iff.1 h).2];rfl
def qq (b ty:Nat) (c:List UInt8) (s:Cu):Ob:=.box b ty [.a (.ro (jaY c)),.a (.v (.int .i64 (s.1:Int))),.a (.v (.int .i64 s.2))]
def jfW:C:=iS [iA 2 (.mov (.c (.pointer none)))] (iS [iA 5 (iM 0),iA 6 (iG 5),iA 7 (.bin .add 3 (.c (.int .i64 94701)) (.t 6)),iA 3 (iM 7)] (.seq (iS [iA 4 (iN 0)] (.blk 0 (.loop (.seq (iS [iA 8 (iM 4),iA 9 (iM 0),iA 10 (iG 9),iA 11 (iP .lss 3 8 10),iA 12 (iM 11),iB 13 12 true (iM 4),iB 14 12 true (iQ .lss 3 13 4000),iA 15 (.pick (.t 12) (.t 14) (.c (.bool false)))] (iD 15 .skip (.exit 0))) (.seq (.blk 1 (.reg [iA 18 (iM 3),iA 19 (iQ .mul 3 18 131),iA 20 (iM 0),iA 21 (iM 4),iA 22 (iI 1 20 21),iA 23 (iL 22),iA 24 (.cv (.num .i64) 0 (.t 23)),iA 25 (iP .add 3 19 24),iA 26 (iQ .add 3 25 7),iA 27 (iQ .and 3 26 1073741823),iA 3 (iM 27)])) (.reg [iA 16 (iM 4),iA 17 (iQ .add 3 16 1),iA 4 (iM 17)])))))) (iS [iA 28 (iM 0),iA 29 (iM 3),iA 30 (.bld [.slice none 0 0,.int .i64 0,.int .i64 0] [(0,1,.t 28),(2,1,.t 29)]),iA 31 (.box 146 3 (.t 30)),iA 2 (iM 31)] .ret)))
theorem jh0:fnC Tryz.prog Tryz.f58=some (jfW,[.t 2],32):=by kernel_rfl
def jd5:C:=iS [iA 2 (iN 0)] (iS [iA 4 (iM 0),iA 5 (iM 0),iA 6 (iF 0 5),iA 7 (iF 2 6),iA 8 (iL 7),iA 9 (iQ .mul 3 8 6364136223846793005),iA 10 (iQ .add 3 9 1442695040888963407),iA 11 (iF 0 4),iA 12 (iF 2 11),iC (.st 1 [none] (.t 12) (.t 10))] (.seq (.dreg (T.pure 0 (iA 13 (iM 0)) (T.pure 1 (iA 14 (iF 0 13)) (T.pure 2 (iA 15 (iF 2 14)) (T.pure 3 (iA 16 (iL 15)) (T.pure 4 (iA 17 (.bin .shr 3 (.t 16) (.c (.int .u64 33)))) (T.pure 5 (iA 18 (iM 0)) (T.pure 6 (iA 19 (iF 0 18)) (T.pure 7 (iA 20 (iF 2 19)) (T.pure 8 (iA 21 (iL 20)) (T.pure 9 (iA 22 (.bin .shr 3 (.t 21) (.c (.int .u64 45)))) (T.pure 10 (iA 23 (iP .xor 3 17 22)) (T.pure 11 (iA 24 (iQ .and 3 23 255)) (T.pure 12 (iA 3 (iM 24)) T.done)))))))))))))) (.seq (.seq (.dreg (T.pure 0 (iA 25 (iM 0)) (T.pure 1 (iA 26 (iF 0 25)) (T.pure 2 (iA 27 (iF 1 26)) (T.pure 3 (iA 28 (iL 27)) (T.pure 4 (iA 29 (iM 0)) (T.pure 5 (iA 30 (iF 0 29)) (T.pure 6 (iA 31 (iF 0 30)) (T.pure 7 (iA 32 (iL 31)) (T.pure 8 (iA 33 (iG 32)) (T.pure 9 (iA 34 (iP .lss 3 28 33)) T.done))))))))))) (iD 34 (.seq (.dreg (T.pure 0 (iA 35 (iM 3)) (T.pure 1 (iA 36 (iM 0)) (T.pure 2 (iA 37 (iF 0 36)) (T.pure 3 (iA 38 (iF 0 37)) (T.pure 4 (iA 39 (iL 38)) (T.pure 5 (iA 40 (iM 0)) (T.pure 6 (iA 41 (iF 0 40)) (T.pure 7 (iA 42 (iF 1 41)) (T.pure 8 (iA 43 (iL 42)) (T.pure 9 (iA 44 (iI 1 39 43)) (T.pure 10 (iA 45 (iL 44)) (T.pure 11 (iA 46 (.cv (.num .i64) 0 (.t 45))) (T.pure 12 (iA 47 (iP .add 3 35 46)) (T.pure 13 (iA 48 (iQ .and 3 47 255)) (T.pure 14 (iA 3 (iM 48)) T.done)))))))))))))))) (.reg [iA 49 (iM 0),iA 50 (iM 0),iA 51 (iF 0 50),iA 52 (iF 1 51),iA 53 (iL 52),iA 54 (iQ .add 3 53 1),iA 55 (iF 0 49),iA 56 (iF 1 55),iC (.st 1 [none] (.t 56) (.t 54))])) .skip)) (iS [iA 57 (iM 3),iA 2 (iM 57)] .ret))))
theorem jgY:fnC Tryz.prog Tryz.f59=some (jd5,[.t 2],58):=by kernel_rfl
def jcO:C:=iS [iA 4 (iN 0)] (.seq (iS [iA 9 (iM 1),iA 10 (iQ .leq 3 9 0)] (iD 10 (iS [iA 4 (iN 0)] .ret) .skip)) (.seq (iS [iA 11 (iM 1),iA 12 (iQ .leq 3 11 256)] (iD 12 (iS [iA 13 (iM 0),iA 14 (.call 59 [.t 13]),iA 15 (iM 1),iA 16 (iP .rem 3 14 15),iA 4 (iM 16)] .ret) .skip)) (iS [iA 17 (iM 0),iA 18 (.call 59 [.t 17]),iA 5 (iM 18)] (iS [iA 19 (iM 0),iA 20 (.call 59 [.t 19]),iA 6 (iM 20)] (iS [iA 21 (iM 0),iA 22 (.call 59 [.t 21]),iA 7 (iM 22)] (iS [iA 23 (iM 0),iA 24 (.call 59 [.t 23]),iA 8 (iM 24)] (iS [iA 25 (iM 5),iA 26 (iQ .mul 3 25 16777216),iA 27 (iM 6),iA 28 (iQ .mul 3 27 65536),iA 29 (iP .add 3 26 28),iA 30 (iM 7),iA 31 (iQ .mul 3 30 256),iA 32 (iP .add 3 29 31),iA 33 (iM 8),iA 34 (iP .add 3 32 33),iA 35 (iM 1),iA 36 (iP .rem 3 34 35),iA 4 (iM 36)] .ret)))))))
theorem jfC:fnC Tryz.prog Tryz.f60=some (jcO,[.t 4],37):=by kernel_rfl
def jd4:C:=iS [iA 4 (iO false)] (iS [iA 5 (iM 0),iA 6 (iM 1),iA 7 (.call 60 [.t 5,.t 6]),iA 8 (iQ .eql 3 7 0),iA 4 (iM 8)] .ret)
theorem jgX:fnC Tryz.prog Tryz.f160=some (jd4,[.t 4],9):=by kernel_rfl
def jd0:C:=iS [iA 2 (.alloc 49 [.int .i64 0,.int .i64 0,.int .i64 0,.int .i64 0,.slice none 0 0])] (iS [iA 9 (iM 0),iA 10 (.call 60 [.t 9,.c (.int .i64 4)]),iA 11 (iM 0),iA 12 (.call 60 [.t 11,.c (.int .i64 3)]),iA 13 (.bin .add 3 (.c (.int .i64 1)) (.t 12)),iA 14 (iM 0),iA 15 (.call 60 [.t 14,.c (.int .i64 4)]),iA 16 (.bin .add 3 (.c (.int .i64 1)) (.t 15)),iA 17 (iM 0),iA 18 (.call 60 [.t 17,.c (.int .i64 6)]),iA 19 (.bin .add 3 (.c (.int .i64 1)) (.t 18)),iA 20 (.bld [.int .i64 0,.int .i64 0,.int .i64 0,.int .i64 0,.slice none 0 0] [(0,1,.t 10),(1,1,.t 13),(2,1,.t 16),(3,1,.t 19)]),iA 3 (.alloc 49 [.int .i64 0,.int .i64 0,.int .i64 0,.int .i64 0,.slice none 0 0]),iC (.st 5 [none,none,none,none,some (2,161)] (.t 3) (.t 20))] (.seq (iS [iA 21 (iM 0),iA 22 (.call 160 [.t 21,.c (.int .i64 10)])] (iD 22 (.reg [iA 23 (iF 3 3),iC (.st 1 [none] (.t 23) (.c (.int .i64 12)))]) .skip)) (.seq (iS [iA 4 (iN 0)] (.blk 0 (.loop (.seq (iS [iA 24 (iM 4),iA 25 (iM 0),iA 26 (.call 60 [.t 25,.c (.int .i64 9)]),iA 27 (iP .lss 3 24 26),iA 28 (iM 27),iB 29 28 true (iF 3 3),iB 30 28 true (iL 29),iB 31 28 true (iQ .gtr 3 30 1),iA 32 (.pick (.t 28) (.t 31) (.c (.bool false)))] (iD 32 .skip (.exit 0))) (.seq (.blk 1 (iS [iA 35 (iM 0),iA 36 (iF 3 3),iA 37 (iL 36),iA 38 (iQ .sub 3 37 1),iA 39 (.call 60 [.t 35,.t 38]),iA 40 (.bin .add 3 (.c (.int .i64 1)) (.t 39)),iA 5 (iM 40)] (iS [iA 41 (iM 0),iA 42 (iM 5),iA 43 (.call 60 [.t 41,.t 42]),iA 44 (iM 5),iA 45 (.bld [.int .i64 0,.int .i64 0] [(0,1,.t 43),(1,1,.t 44)]),iA 6 (.alloc 161 [.int .i64 0,.int .i64 0]),iC (.st 2 [none,none] (.t 6) (.t 45))] (iS [iA 7 (iO false)] (.seq (iS [iA 8 (iN 0)] (.blk 2 (.loop (.seq (iS [iA 46 (iM 8),iA 47 (iF 4 3),iA 48 (iL 47),iA 49 (iG 48),iA 50 (iP .lss 3 46 49)] (iD 50 .skip (.exit 2))) (.seq (.blk 3 (.dreg (T.pure 0 (iA 53 (iM 7)) (T.pure 1 (iA 54 (iM 53)) (T.pure 2 (iB 55 54 false (iF 4 3)) (T.pure 3 (iB 56 54 false (iL 55)) (T.pure 4 (iB 57 54 false (iM 8)) (T.pure 5 (iB 58 54 false (iI 2 56 57)) (T.pure 6 (iB 59 54 false (iT 2 58)) (T.pure 7 (iB 60 54 false (iT 2 6)) (T.pure 8 (iB 61 54 false (iP .eql 161 59 60)) (T.pure 9 (iA 62 (.pick (.t 54) (.c (.bool true)) (.t 61))) (T.pure 10 (iA 7 (iM 62)) T.done))))))))))))) (.reg [iA 51 (iM 8),iA 52 (iQ .add 3 51 1),iA 8 (iM 52)])))))) (iS [iA 63 (iM 7),iA 64 (iU 63)] (iD 64 (.reg [iA 65 (iF 4 3),iA 66 (iL 65),iA 67 (iT 2 6),iA 68 (.bsl 161 2 1 [none,none] [(0,2,.t 67)]),iA 69 (.app 161 2 16 (.t 66) (.t 68)),iA 70 (iF 4 3),iC (.st 1 [some (2,161)] (.t 70) (.t 69))]) .skip))))))) (.reg [iA 33 (iM 4),iA 34 (iQ .add 3 33 1),iA 4 (iM 34)])))))) (iS [iA 71 (iT 5 3),iC (.st 5 [none,none,none,none,some (2,161)] (.t 2) (.t 71))] .ret))))
theorem jgT:fnC Tryz.prog Tryz.f108=some (jd0,[.cell 2 true 5],72):=by kernel_rfl
theorem jfo (c:List UInt8) (hc:c.length≤1048576) (s:Cu) (b:Nat) (o:Nat→Ob) (hs:s.1≤c.length) (ho:o 89=qq b 146 c s):
 jB6 Tryz.prog 59 [Bx 89 b] o (Ni (kL c s).1) (jzY o 89 (qq b 146 c (kL c s).2)):=by
 obtain ⟨k,h⟩:=s;dsimp only at hs;refine jpu ?_;refine qn (β:=8000000) Tryz.func59 jgY (by simp) ?_
 unfold jd5;unfold qq at ho;have hH:IntKind.i64.wrap (IntKind.i64.wrap (h*6364136223846793005)+1442695040888963407)=joi h:=rfl;by_cases hlt:k<c.length
 ·have hlt':(k:Int)<(c.length:Int):=by omega
  obtain ⟨u,hu⟩:=je hlt;have hw:IntKind.i64.wrap ((k:Int)+1)=((k+1:Nat):Int):=jf (by omega) (by omega)
  have hr:kL c (k,h)=(jrk (jxT (joi h)+(u.toNat:Int)) 255,(k+1,joi h)):=by simp only [kL,hu]
  have hx:=jmK (jro ((joi h).fdiv (2^33)) ((joi h).fdiv (2^45)));rw [←show jxT (joi h)=jrk (jro ((joi h).fdiv (2^33)) ((joi h).fdiv (2^45))) 255 from rfl] at hx
  have hul:=UInt8.toNat_lt u;have hwx:IntKind.i64.wrap (jxT (joi h)+(u.toNat:Int))=jxT (joi h)+(u.toNat:Int):=jf (by omega) (by omega)
  simp only [go_sem,ho,hH,hlt',hlt,hw,jlg hu,jxS,qX,jat];rw [hr];refine ⟨?_,jbg (by simp only [go_sem,qq,hw]) fun g g2=>?_⟩
  ·have e:∀x y:Int,AV.c (A0.v (Value.int .i64 (jrk (IntKind.i64.wrap (jrk (jro x y) 255+(u.toNat:Int))) 255)))=AV.c (A0.v (Value.int .i64 (IntKind.i64.wrap ((BitVec.ofInt 64 (IntKind.i64.wrap (IntKind.i64.wrap ((BitVec.ofInt 64 (IntKind.i64.wrap ((BitVec.ofInt 64 x^^^BitVec.ofInt 64 y).toNat))&&&BitVec.ofInt 64 255).toNat)+(u.toNat:Int)))&&&BitVec.ofInt 64 255).toNat)))):=fun _ _=>rfl
   refine (e _ _).symm.trans ?_;show AV.c (A0.v (Value.int .i64 (jrk (IntKind.i64.wrap (jxT (joi h)+(u.toNat:Int))) 255)))=_;rw [hwx]
  ·simp only [go_sem,eq_false g2,if_false]
 ·have hlt':¬(k:Int)<(c.length:Int):=by omega
  have hr:kL c (k,h)=(jxT (joi h),(k,joi h)):=by simp only [kL,List.getElem?_eq_none (by omega:c.length≤k)]
  simp only [go_sem,ho,hH,hlt',jat];rw [hr];refine ⟨rfl,jbg (by simp only [go_sem,qq]) fun g g2=>?_⟩
  simp only [go_sem,eq_false g2,if_false]
theorem kz (c:List UInt8) (hc:c.length≤1048576) (n:Int) (s:Cu) (b:Nat) (o:Nat→Ob) (hs:s.1≤c.length) (ho:o 89=qq b 146 c s):
 jB6 Tryz.prog 60 [Bx 89 b,Ni n] o (Ni (jr c n s).1) (jzY o 89 (qq b 146 c (jr c n s).2)):=by
 refine jpu ?_;refine qn (β:=9000000) Tryz.func60 jfC (by simp) ?_
 unfold jcO;by_cases h0:n≤0
 ·have hr:jr c n s=(0,s):=by rw [jr,if_pos h0]
  rw [hr];simp only [go_sem,h0];exact jbg (by simp only [go_sem,ho]) fun g g2=>by simp only [go_sem,eq_false g2,if_false]
 have hn0:n≠0:=by omega
 by_cases h1:n≤256
 ·have hr:jr c n s=((kL c s).1.tmod n,(kL c s).2):=by rw [jr,if_neg h0,if_pos h1]
  rw [hr];simp only [go_sem,h0,h1];refine kh (jfo c hc s b _ hs (by simp only [go_sem,ho])) (by simp only [go_sem]) ?_
  simp only [go_sem,hn0];exact jbg (by simp only [go_sem]) fun g g2=>by simp only [go_sem,eq_false g2,if_false]
 ·have hr:jr c n s=(((kL c s).1*16777216+(kL c (kL c s).2).1*65536+(kL c (kL c (kL c s).2).2).1*256+(kL c (kL c (kL c (kL c s).2).2).2).1).tmod n,(kL c (kL c (kL c (kL c s).2).2).2).2):=by rw [jr,if_neg h0,if_neg h1]
  rw [hr];simp only [go_sem,h0,h1];refine kh (jfo c hc s b _ hs (by simp only [go_sem,ho])) (by simp only [go_sem]) ?_
  have a1:=jah c s;have t1:=jaQ hs;generalize kL c s=r1 at*;simp only [go_sem];refine kh (jfo c hc r1.2 b _ t1 (by simp only [go_sem])) (by simp only [go_sem]) ?_
  have a2:=jah c r1.2;have t2:=jaQ t1;generalize kL c r1.2=r2 at*;simp only [go_sem];refine kh (jfo c hc r2.2 b _ t2 (by simp only [go_sem])) (by simp only [go_sem]) ?_
  have a3:=jah c r2.2;have t3:=jaQ t2;generalize kL c r2.2=r3 at*;simp only [go_sem];refine kh (jfo c hc r3.2 b _ t3 (by simp only [go_sem])) (by simp only [go_sem]) ?_
  have a4:=jah c r3.2;generalize kL c r3.2=r4 at*;have w1:IntKind.i64.wrap (r1.1*16777216)=r1.1*16777216:=jf (by omega) (by omega)
  have w2:IntKind.i64.wrap (r2.1*65536)=r2.1*65536:=jf (by omega) (by omega)
  have w3:IntKind.i64.wrap (r1.1*16777216+r2.1*65536)=r1.1*16777216+r2.1*65536:=jf (by omega) (by omega)
  have w4:IntKind.i64.wrap (r3.1*256)=r3.1*256:=jf (by omega) (by omega)
  have w5:IntKind.i64.wrap (r1.1*16777216+r2.1*65536+r3.1*256)=r1.1*16777216+r2.1*65536+r3.1*256:=jf (by omega) (by omega)
  have w6:IntKind.i64.wrap (r1.1*16777216+r2.1*65536+r3.1*256+r4.1)=r1.1*16777216+r2.1*65536+r3.1*256+r4.1:=jf (by omega) (by omega)
  simp only [go_sem,w1,w2,w3,w4,w5,w6,hn0];exact jbg (by simp only [go_sem]) fun g g2=>by simp only [go_sem,eq_false g2,if_false]
theorem jiG (c:List UInt8) (hc:c.length≤1048576) (n:Int) (s:Cu) (b:Nat) (o:Nat→Ob) (hs:s.1≤c.length) (ho:o 89=qq b 146 c s):
 jB6 Tryz.prog 160 [Bx 89 b,Ni n] o (.c (.v (.bool ((jr c n s).1==0)))) (jzY o 89 (qq b 146 c (jr c n s).2)):=by
 refine jpu ?_;refine qn (β:=9100000) Tryz.func160 jgX (by simp) ?_
 unfold jd4;simp only [go_sem];refine kh (kz c hc n s b _ hs (by simp only [go_sem,ho])) (by simp only [go_sem]) ?_
 simp only [go_sem];exact jbg (by simp only [go_sem]) fun g g2=>by simp only [go_sem,eq_false g2,if_false]
theorem juS (l:List Ed) (e:Ed):D.sl 2 tEd (l.flatMap jO++[.val (.int .i64 e.src),.val (.int .i64 e.dst)])=jy (l++[e]):=jsL l e
theorem jlj {c:List UInt8} {n:Int} {f i:Nat} {E:List Ed} {s:Cu} (h:¬((i:Int)<(jr c 9 s).1∧1<n)):zK c n (f+1) i E s=(E,(jr c 9 s).2):=by rw [zK];dsimp only;rw [if_neg h]
theorem ju2 {c:List UInt8} {n:Int} {f i:Nat} {E:List Ed} {s:Cu} (h:(i:Int)<(jr c 9 s).1∧1<n):zK c n (f+1) i E s=zK c n f (i+1) (if (⟨(jr c (1+(jr c (n-1) (jr c 9 s).2).1) (jr c (n-1) (jr c 9 s).2).2).1,1+(jr c (n-1) (jr c 9 s).2).1⟩:Ed)∈E then E else E++[⟨(jr c (1+(jr c (n-1) (jr c 9 s).2).1) (jr c (n-1) (jr c 9 s).2).2).1,1+(jr c (n-1) (jr c 9 s).2).1⟩]) (jr c (1+(jr c (n-1) (jr c 9 s).2).1) (jr c (n-1) (jr c 9 s).2).2).2:=by rw [zK];dsimp only;rw [if_pos h]
theorem juv (c:List UInt8) (hc:c.length≤1048576) (s:Cu) (b:Nat) (o:Nat→Ob) (hs:s.1≤c.length) (ho:o 89=qq b 146 c s) (h86:o 86=.none):
 Inl Tryz.prog 108 [Bx 89 b] o fun av o2=>∃e:js,av=.agg [.v (.int .i64 (jca c s).1.prio),.v (.int .i64 (jca c s).1.most),.v (.int .i64 (jca c s).1.wait),.v (.int .i64 (jca c s).1.tasks),.v (e [])]∧(e []).oneCell'=true∧o2 86=.loose (jy (jca c s).1.edges) e∧o2 89=qq b 146 c (jca c s).2∧∀g,g<900000000→g≠86→g≠89→o2 g=o g:=by
 refine jk9 (β:=9000000) [[1,1],[1,1,1],[1,1,1,1],[1,1,1,1,0]] Tryz.func108 jgT (by simp) ?_
 unfold jd0;simp only [C.ghs,C.ghAt,List.foldr];simp only [go_sem];intro b2;refine kh (kz c hc 4 s b _ hs (by simp only [go_sem,ho])) (by simp only [go_sem]) ?_
 have s1:=ju (n:=4) hs;have r1:=jR c (n:=4) s (by omega)
 generalize hq1:jr c 4 s=q1 at*;simp only [go_sem];refine kh (kz c hc 3 q1.2 b _ s1 (by simp only [go_sem])) (by simp only [go_sem]) ?_
 have s2:=ju (n:=3) s1;have r2:=jR c (n:=3) q1.2 (by omega)
 generalize hq2:jr c 3 q1.2=q2 at*;simp only [go_sem];refine kh (kz c hc 4 q2.2 b _ s2 (by simp only [go_sem])) (by simp only [go_sem]) ?_
 have s3:=ju (n:=4) s2;have r3:=jR c (n:=4) q2.2 (by omega)
 generalize hq3:jr c 4 q2.2=q3 at*;simp only [go_sem];refine kh (kz c hc 6 q3.2 b _ s3 (by simp only [go_sem])) (by simp only [go_sem]) ?_
 have s4:=ju (n:=6) s3;have r4:=jR c (n:=6) q3.2 (by omega)
 generalize hq4:jr c 6 q3.2=q4 at*;have w2:IntKind.i64.wrap (1+q2.1)=1+q2.1:=jf (by omega) (by omega)
 have w3:IntKind.i64.wrap (1+q3.1)=1+q3.1:=jf (by omega) (by omega)
 have w4:IntKind.i64.wrap (1+q4.1)=1+q4.1:=jf (by omega) (by omega)
 simp only [go_sem,w2,w3,w4];intro b3;have s5:=ju (n:=10) s4;generalize hq5:jr c 10 q4.2=q5 at*;obtain ⟨n,hn⟩:∃n:Int,(if q5.1=0 then (12:Int) else 1+q4.1)=n:=⟨_,rfl⟩
 have hn12:1≤n∧n≤12:=by rw [←hn];split<;>omega
 have hpl:jca c s=(⟨q1.1,1+q2.1,1+q3.1,n,(zK c n 9 0 [] q5.2).1⟩,(zK c n 9 0 [] q5.2).2):=by
  simp only [jca,hq1,hq2,hq3,hq4,hq5,hn]
 generalize hD0:zK c n 9 0 [] q5.2=D0 at hpl;rw [hpl];refine kY (WkK.of ?_);refine jtt (fun _:Unit=>St.ofB [(0,Bx 89 b),(2,Bx 900000200 b2),(3,Bx 900000300 b3)] [(900000200,ZPl b2 49),(900000300,jxk b3 49 q1.1 (1+q2.1) (1+q3.1) n [] jcc)] 900000000 (fun j=>if j=89 then qq b 146 c q5.2 else o j)) ?_ ?_
 ·simp only [go_sem]
  refine kh (jiG c hc 10 q4.2 b _ s4 (by simp only [go_sem])) (by simp only [go_sem]) ?_
  rw [hq5];cases h5:q5.1==0
  ·have e:¬q5.1=0:=by simpa using h5
   rw [if_neg e] at hn;simp only [go_sem,h5];exact ⟨(),(kS [some 900000200,some 900000300] (by simp only [go_sem,km,hn,w2,w3,w4]<;>and_intros<;>first|rfl|assumption|trivial) (fun j hj=>by by_cases e89:j=89<;>simp only [go_sem,e89,hj,if_true,if_false,jz hj 900000200 (by omega),jz hj 900000300 (by omega),km,hn,w2,w3,w4]) (by decide))⟩
  ·have e:q5.1=0:=by simpa using h5
   rw [if_pos e] at hn;simp only [go_sem,h5];exact ⟨(),(kS [some 900000200,some 900000300] (by simp only [go_sem,km,hn,w2,w3,w4]<;>and_intros<;>first|rfl|assumption|trivial) (fun j hj=>by by_cases e89:j=89<;>simp only [go_sem,e89,hj,if_true,if_false,jz hj 900000200 (by omega),jz hj 900000300 (by omega),km,hn,w2,w3,w4]) (by decide))⟩
 rintro ⟨⟩;refine jtt (fun i:{i:(List Ed×Cu)×js//D0=i.1}=>St.ofB [(0,Bx 89 b),(2,Bx 900000200 b2),(3,Bx 900000300 b3)] [(900000200,ZPl b2 49),(900000300,jxk b3 49 q1.1 (1+q2.1) (1+q3.1) n i.1.1.1 i.1.2)] 900000000 (fun j=>if j=89 then qq b 146 c i.1.1.2 else o j)) ?_ ?_
 ·simp only [go_sem]
  refine jn (fun i:(Nat×List Ed×Cu)×js=>St.ofB [(0,Bx 89 b),(2,Bx 900000200 b2),(3,Bx 900000300 b3),(4,Ni i.1.1)] [(900000200,ZPl b2 49),(900000300,jxk b3 49 q1.1 (1+q2.1) (1+q3.1) n i.1.2.1 i.2)] 900000000 (fun j=>if j=89 then qq b 146 c i.1.2.2 else o j)) (fun i=>i.1.1≤8∧i.1.2.1.length≤i.1.1∧i.1.2.2.1≤c.length∧D0=zK c n (9-i.1.1) i.1.1 i.1.2.1 i.1.2.2) (fun i=>9-i.1.1) ((0,[],q5.2),jcc) (⟨Nat.zero_le 8,Nat.le_refl 0,s5,hD0.symm⟩) (kS [some 900000200,some 900000300] (by simp only [go_sem]<;>and_intros<;>first|rfl|assumption|trivial) (fun j hj=>by by_cases e89:j=89<;>simp only [go_sem,e89,hj,if_true,if_false,jz hj 900000200 (by omega),jz hj 900000300 (by omega)]) (by decide)) ?_
  rintro ⟨⟨ii,E,u⟩,e0⟩ ⟨hi8,hEl,hu,hdE⟩;dsimp only at hi8 hEl hu hdE;obtain ⟨f,hf⟩:∃f,9-ii=f+1:=⟨8-ii,by omega⟩
  rw [hf] at hdE;simp only [go_sem];refine kh (kz c hc 9 u b _ hu (by simp only [go_sem])) (by simp only [go_sem]) ?_
  have u1:=ju (n:=9) hu;have x1:=jR c (n:=9) u (by omega)
  generalize hp1:jr c 9 u=p1 at*;by_cases hlt:(ii:Int)<p1.1;rotate_left
  ·rw [jlj (by rw [hp1];omega),hp1] at hdE
   simp only [go_sem,hlt];exact ⟨⟨((E,p1.2),e0),hdE⟩,(kS [some 900000200,some 900000300] (by simp only [go_sem]<;>and_intros<;>first|rfl|assumption|trivial) (fun j hj=>by by_cases e89:j=89<;>simp only [go_sem,e89,hj,if_true,if_false,jz hj 900000200 (by omega),jz hj 900000300 (by omega)]) (by decide))⟩
  by_cases hgt:n>1;rotate_left
  ·rw [jlj (by omega),hp1] at hdE
   simp only [go_sem,hlt,hgt];exact ⟨⟨((E,p1.2),e0),hdE⟩,(kS [some 900000200,some 900000300] (by simp only [go_sem]<;>and_intros<;>first|rfl|assumption|trivial) (fun j hj=>by by_cases e89:j=89<;>simp only [go_sem,e89,hj,if_true,if_false,jz hj 900000200 (by omega),jz hj 900000300 (by omega)]) (by decide))⟩
  rw [ju2 (by rw [hp1];omega),hp1] at hdE
  have hwn:IntKind.i64.wrap (n-1)=n-1:=jf (by omega) (by omega)
  simp only [go_sem,hlt,hgt,hwn];refine kh (kz c hc (n-1) p1.2 b _ u1 (by simp only [go_sem])) (by simp only [go_sem,hwn]) ?_
  have u2:=ju (n:=n-1) u1;have x2:=jR c (n:=n-1) p1.2 (by omega)
  generalize hp2:jr c (n-1) p1.2=p2 at*;have hw2:IntKind.i64.wrap (1+p2.1)=1+p2.1:=jf (by omega) (by omega)
  simp only [go_sem,hw2];refine kh (kz c hc (1+p2.1) p2.2 b _ u2 (by simp only [go_sem])) (by simp only [go_sem,hw2]) ?_
  have u3:=ju (n:=1+p2.1) u2;have x3:=jR c (n:=1+p2.1) p2.2 (by omega)
  generalize hp3:jr c (1+p2.1) p2.2=p3 at*;simp only [go_sem,hw2];intro b6;obtain ⟨e,he⟩:∃e:Ed,e=⟨p3.1,1+p2.1⟩:=⟨_,rfl⟩;have he1:p3.1=e.src:=by rw [he]
  have he2:1+p2.1=e.dst:=by rw [he]
  rw [←he] at hdE;have hwi:IntKind.i64.wrap ((ii:Int)+1)=((ii+1:Nat):Int):=jf (by omega) (by omega)
  refine jn (fun i:Nat=>St.ofB [(0,Bx 89 b),(2,Bx 900000200 b2),(3,Bx 900000300 b3),(4,Ni ii),(6,Bx 900000600 b6),(7,.c (.v (.bool (decide (e∈E.take i))))),(8,Ni i)] [(900000200,ZPl b2 49),(900000300,jxk b3 49 q1.1 (1+q2.1) (1+q3.1) n E e0),(900000600,.box b6 161 [.a (.v (.int .i64 e.src)),.a (.v (.int .i64 e.dst))])] 900000000 (fun j=>if j=89 then qq b 146 c p3.2 else o j)) (fun i=>i≤E.length) (fun i=>E.length-i) 0 (by (try dsimp only);first|omega|(simp;done)|(and_intros<;>first|omega|simp)) (kS [some 900000200,some 900000300,some 900000600] (by simp only [go_sem,List.take_zero,List.not_mem_nil,decide_false,hw2,he1,he2]<;>and_intros<;>first|rfl|assumption|trivial) (fun j hj=>by by_cases e89:j=89<;>simp only [go_sem,e89,hj,if_true,if_false,jz hj 900000200 (by omega),jz hj 900000300 (by omega),jz hj 900000600 (by omega),List.take_zero,List.not_mem_nil,decide_false,hw2,he1,he2]) (by decide)) ?_
  rintro k hk;by_cases hkl:k<E.length
  ·have hkl':(k:Int)<(E.length:Int):=by omega
   have h0k:(k:Int)≥0:=by omega
   obtain ⟨x,hx⟩:=je hkl;have hwk:IntKind.i64.wrap ((k:Int)+1)=((k+1:Nat):Int):=jf (by omega) (by omega)
   have htk:E.take (k+1)=E.take k++[x]:=by rw [List.take_add_one,hx];rfl
   by_cases hm:e∈E.take k
   ·have h1:decide (e∈E.take k)=true:=decide_eq_true hm
    have h2:decide (e∈E.take (k+1))=true:=decide_eq_true (by rw [htk];simp [hm])
    simp only [go_sem,hkl',h1];exact ⟨k+1,by (try dsimp only);first|omega|assumption|(and_intros<;>first|omega|assumption),(kS [some 900000200,some 900000300,some 900000600] (by simp only [go_sem,h2,hwk]<;>and_intros<;>first|rfl|assumption|trivial) (fun j hj=>by by_cases e89:j=89<;>simp only [go_sem,e89,hj,if_true,if_false,jz hj 900000200 (by omega),jz hj 900000300 (by omega),jz hj 900000600 (by omega),h2,hwk]) (by decide)),by (try dsimp only);omega⟩
   ·have h1:decide (e∈E.take k)=false:=decide_eq_false hm
    by_cases hxe:x=e
    ·have h2:decide (e∈E.take (k+1))=true:=decide_eq_true (by rw [htk];simp [hxe])
     have h3:decide (x=e)=true:=decide_eq_true hxe;simp only [go_sem,hkl',hkl,h0k,h1,joD hx,jn1 hkl,jO,h3];exact ⟨k+1,by (try dsimp only);first|omega|assumption|(and_intros<;>first|omega|assumption),(kS [some 900000200,some 900000300,some 900000600] (by simp only [go_sem,h2,hwk,h3]<;>and_intros<;>first|rfl|assumption|trivial) (fun j hj=>by by_cases e89:j=89<;>simp only [go_sem,e89,hj,if_true,if_false,jz hj 900000200 (by omega),jz hj 900000300 (by omega),jz hj 900000600 (by omega),h2,hwk,h3]) (by decide)),by (try dsimp only);omega⟩
    ·have h2:decide (e∈E.take (k+1))=false:=decide_eq_false (by rw [htk];simp [hm];exact fun h=>hxe h.symm)
     have h3:decide (x=e)=false:=decide_eq_false hxe;simp only [go_sem,hkl',hkl,h0k,h1,joD hx,jn1 hkl,jO,h3];exact ⟨k+1,by (try dsimp only);first|omega|assumption|(and_intros<;>first|omega|assumption),(kS [some 900000200,some 900000300,some 900000600] (by simp only [go_sem,h2,hwk,h3]<;>and_intros<;>first|rfl|assumption|trivial) (fun j hj=>by by_cases e89:j=89<;>simp only [go_sem,e89,hj,if_true,if_false,jz hj 900000200 (by omega),jz hj 900000300 (by omega),jz hj 900000600 (by omega),h2,hwk,h3]) (by decide)),by (try dsimp only);omega⟩
  ·obtain rfl:k=E.length:=by omega
   have hkl':¬((E.length:Nat):Int)<(E.length:Int):=by omega
   rw [List.take_length];by_cases hm:e∈E
   ·have h1:decide (e∈E)=true:=decide_eq_true hm
    rw [if_pos hm] at hdE;simp only [go_sem,hkl',h1];exact ⟨((ii+1,E,p3.2),e0),⟨by dsimp only;omega,by dsimp only;omega,u3,by rw [show 9-(ii+1)=f by omega];exact hdE⟩,(kS [some 900000200,some 900000300] (by simp only [go_sem,hwi]<;>and_intros<;>first|rfl|assumption|trivial) (fun j hj=>by by_cases e89:j=89<;>simp only [go_sem,e89,hj,if_true,if_false,jz hj 900000200 (by omega),jz hj 900000300 (by omega),jz hj 900000600 (by omega),hwi]) (by decide)),by (try dsimp only);omega⟩
   ·have h1:decide (e∈E)=false:=decide_eq_false hm
    rw [if_neg hm] at hdE;simp only [go_sem,hkl',h1];intro e1;refine ⟨by unfold maxLen;omega,by omega,fun e2=>?_⟩
    exact ⟨((ii+1,E++[e],p3.2),e2),⟨by dsimp only;omega,by dsimp only;simp;omega,u3,by rw [show 9-(ii+1)=f by omega];exact hdE⟩,(kS [some 900000200,some 900000300] (by simp only [go_sem,hwi,juS]<;>and_intros<;>first|rfl|assumption|trivial) (fun j hj=>by by_cases e89:j=89<;>simp only [go_sem,e89,hj,if_true,if_false,jz hj 900000200 (by omega),jz hj 900000300 (by omega),jz hj 900000600 (by omega),jz hj 900006800 (by omega),jz hj 900006900 (by omega),hwi,juS]) (by decide)),by (try dsimp only);omega⟩
 rintro ⟨⟨⟨E,u⟩,e0⟩,hdE⟩;dsimp only at hdE;subst hdE;simp only [go_sem];refine kY ?_;refine qG 900000300 4 86 (d:=jy E) (η:=e0) (by simp only [go_sem]) (by simp only [go_sem,h86]) (by decide) fun hx=>?_
 refine WkK.of ?_;simp only [go_sem,hx];exact ⟨e0,rfl,hx,rfl,fun g g1 g2 g3=>by simp only [g2,g3,g1,jz g1 900000200 (by omega),jz g1 900000300 (by omega),if_true,if_false]⟩
abbrev YdHs (y:Yd) (x2 x3:Value):AV:=.agg [.v (.int .i64 y.now),.v (.int .i64 y.seq),.hs 94 0 [] x2 1 0 y.shelf.length,.hs 95 0 [] x3 8 0 y.runs.length]
abbrev tup3 (a b c:Int):AV:=.tup [(false,[.v (.int .i64 a)]),(false,[.v (.int .i64 b)]),(false,[.v (.int .i64 c)])]
theorem jx0 {l:List Rn} {k:Nat} {r:Rn} (h:l[k]?=some r):((l.flatMap jd).drop (k*8)).take 1=[.val (.int .i64 r.id)]:=qw (enc:=jd) (size:=8) (fun _=>rfl) h (j:=0) (n:=1) (by decide)
theorem jxJ {l:List Rn} {k:Nat} {r:Rn} (h:l[k]?=some r):k*8+1≤(l.flatMap jd).length:=qu (enc:=jd) (size:=8) (fun _=>rfl) h (j:=0) (n:=1) (by decide)
theorem jtJ {s:St} {a b c:Nat} {x y z:A0} {K:AV→(Nat→Ob)→Prop} (ha:s.t a=.c x) (hb:s.t b=.c y) (hc:s.t c=.c z) (h:K (.tup [(false,[x]),(false,[y]),(false,[z])]) s.o):jsQ [.t a,.t b,.t c] K s:=by
 simp only [jsQ,jhN,ha,hb,hc];exact h
def jd7:C:=iS [iA 2 (.box 52 8 (.t 0)),iA 4 (.mov (.c (.slice none 0 0)))] (iS [iA 7 (.bsl 3 1 0 [] []),iA 5 (iM 7)] (.seq (iS [iA 6 (iN 0)] (.blk 0 (.loop (.seq (iS [iA 8 (iM 6),iA 9 (iF 7 2),iA 10 (iL 9),iA 11 (iG 10),iA 12 (iP .lss 3 8 11)] (iD 12 .skip (.exit 0))) (.seq (.blk 1 (iS [iA 15 (iF 7 2),iA 16 (iL 15),iA 17 (iM 6),iA 18 (iI 4 16 17),iA 19 (iF 0 18),iA 20 (iL 19),iA 21 (iM 1),iA 22 (iP .eql 3 20 21)] (iD 22 (.reg [iA 23 (iM 5),iA 24 (iM 6),iA 25 (.bsl 3 1 1 [none] [(0,1,.t 24)]),iA 26 (.app 3 1 8 (.t 23) (.t 25)),iA 5 (iM 26)]) .skip))) (.reg [iA 13 (iM 6),iA 14 (iQ .add 3 13 1),iA 6 (iM 14)])))))) (iS [iA 27 (iM 5),iA 4 (iM 27)] .ret)))
theorem jg0:fnC Tryz.prog Tryz.f199=some (jd7,[.t 4],28):=by kernel_rfl
def jdV:C:=iS [iA 3 (.box 27 4 (.t 1)),iA 4 (iN 0),iA 5 (iN 0),iA 6 (iN 0)] (.seq (iS [iA 7 (iN 0)] (.blk 0 (.loop (.seq (iS [iA 11 (iM 7),iA 12 (iF 3 3),iA 13 (iL 12),iA 14 (iG 13),iA 15 (iP .lss 3 11 14)] (iD 15 .skip (.exit 0))) (.seq (.blk 1 (iS [iA 18 (iF 3 3),iA 19 (iL 18),iA 20 (iM 7),iA 21 (iI 8 19 20),iA 22 (iT 8 21),iA 23 (.call 199 [.t 22,.c (.int .i64 3)]),iA 8 (iM 23)] (iS [iA 24 (iM 8),iA 25 (iG 24),iA 26 (iQ .gtr 3 25 0),iA 27 (iM 26),iB 28 27 true (iM 0),iB 29 27 true (.call 160 [.t 28,.c (.int .i64 5)]),iB 30 27 true (iU 29),iA 31 (.pick (.t 27) (.t 30) (.c (.bool false)))] (iD 31 (iS [iA 32 (iM 8),iA 33 (iM 0),iA 34 (iM 8),iA 35 (iG 34),iA 36 (.call 60 [.t 33,.t 35]),iA 37 (iI 1 32 36),iA 38 (iL 37),iA 9 (iM 38)] (iS [iA 39 (iF 3 3),iA 40 (iL 39),iA 41 (iM 7),iA 42 (iI 8 40 41),iA 43 (iF 7 42),iA 44 (iL 43),iA 45 (iM 9),iA 46 (iI 4 44 45),iA 47 (iF 2 46),iA 48 (iL 47),iA 10 (iM 48)] (.seq (iS [iA 49 (iM 0),iA 50 (.call 160 [.t 49,.c (.int .i64 8)])] (iD 50 (.reg [iA 51 (iM 10),iA 52 (iQ .sub 3 51 1),iA 53 (iM 0),iA 54 (.call 60 [.t 53,.c (.int .i64 2)]),iA 55 (.bin .mul 3 (.c (.int .i64 2)) (.t 54)),iA 56 (iP .add 3 52 55),iA 10 (iM 56)]) .skip)) (iS [iA 57 (iF 3 3),iA 58 (iL 57),iA 59 (iM 7),iA 60 (iI 8 58 59),iA 61 (iF 0 60),iA 62 (iL 61),iA 63 (iM 9),iA 64 (iM 10),iA 4 (iM 62),iA 5 (iM 63),iA 6 (iM 64)] .ret)))) .skip)))) (.reg [iA 16 (iM 7),iA 17 (iQ .add 3 16 1),iA 7 (iM 17)])))))) (iS [iA 65 (iM 0),iA 66 (.call 60 [.t 65,.c (.int .i64 5)]),iA 67 (.bin .add 3 (.c (.int .i64 1)) (.t 66)),iA 68 (iM 0),iA 69 (.call 60 [.t 68,.c (.int .i64 6)]),iA 70 (iQ .sub 3 69 1),iA 71 (iM 0),iA 72 (.call 60 [.t 71,.c (.int .i64 4)]),iA 4 (iM 67),iA 5 (iM 70),iA 6 (iM 72)] .ret))
theorem jgO:fnC Tryz.prog Tryz.f184=some (jdV,[.t 4,.t 5,.t 6],73):=by kernel_rfl
theorem jkc (r:Rn) (s:Int) (hl:r.tasks.length≤2000000):kj Tryz.prog 199 [.agg (jd r),.c (.val (.int .i64 s))] (.c (jh (qM s r.tasks))):=by
 refine jq Tryz.func199 jg0 (by simp) ?_
 unfold jd7;simp only [go_sem,jd,ja];intro b η0;refine jn (fun i:Nat×js=>St.of [(1,Ni s),(2,Bx 200 b),(5,Hd 5 i.2),(6,Ni i.1)] [(200,Bi b _ (jd r)),(5,.loose (jh (vO s r.tasks i.1)) i.2)]) (fun i=>i.1≤r.tasks.length) (fun i=>r.tasks.length-i.1) (0,η0) (by (try dsimp only);first|omega|(simp;done)|(and_intros<;>first|omega|simp)) (jg [some 200,some 700] (by simp only [go_sem,jd,ja,jxn,jpn]<;>and_intros<;>first|rfl|assumption|trivial)) ?_
 rintro ⟨k,η⟩ hk;dsimp only at hk;by_cases hlt:k<r.tasks.length
 ·have hlt':(k:Int)<r.tasks.length:=by omega
  have h0k:(k:Int)≥0:=by omega
  obtain ⟨x,hx⟩:=je hlt;have hw:IntKind.i64.wrap ((k:Int)+1)=((k+1:Nat):Int):=jf (by omega) (by omega)
  have hc:=jch hx s;have hle:=vC s r.tasks k;generalize vO s r.tasks k=R at*;have hm1:R.length+1≤maxLen:=by unfold maxLen;omega
  have hm2:(R.length+1)*8≤140737488355328:=by omega
  by_cases h2:x.state=s
  ·have h2':(x.state==s)=true:=by simpa using h2
   rw [if_pos h2] at hc;simp only [go_sem,jd,ja,hlt,hlt',h0k,jQ hx,jo,h2',hm1,hm2,vg];intro η3 η4;simp only [go_sem,hw];exact ⟨(k+1,η4),by (try dsimp only);first|omega|assumption|(and_intros<;>first|omega|assumption),(jg [some 200,some 2600] (by simp only [go_sem,jd,ja,hc]<;>and_intros<;>first|rfl|assumption|trivial)),by (try dsimp only);omega⟩
  ·have h2':(x.state==s)=false:=by simpa using h2
   rw [if_neg h2,List.append_nil] at hc;simp only [go_sem,jd,ja,hlt,hlt',h0k,jQ hx,jo,h2',hw];exact ⟨(k+1,η),by (try dsimp only);first|omega|assumption|(and_intros<;>first|omega|assumption),(jg [some 200,some 5] (by simp only [go_sem,jd,ja,hc]<;>and_intros<;>first|rfl|assumption|trivial)),by (try dsimp only);omega⟩
 have hlt':¬(k:Int)<r.tasks.length:=by omega
 obtain rfl:k=r.tasks.length:=by omega
 simp only [go_sem,jd,ja,hlt',qM]
theorem jqK (c:List UInt8) (hc:c.length≤1048576) (y:Yd) (hy:YdI y) (s:Cu) (b:Nat) (o:Nat→Ob) (f2 f3:js) (hs:s.1≤c.length) (ho:o 89=qq b 146 c s) (h94:o 94=.loose (ku y.shelf) f2) (h95:o 95=.loose (jK y.runs) f3):
 Inl Tryz.prog 184 [Bx 89 b,YdHs y (f2 []) (f3 [])] o fun av o2=>av=tup3 (qr c y s).1.1 (qr c y s).1.2.1 (qr c y s).1.2.2∧o2 89=qq b 146 c (qr c y s).2∧∀g,g<800000000→g≠89→o2 g=o g:=by
 refine qn (β:=8000000) Tryz.func184 jgO (by simp) ?_
 unfold jdV;have h8:=hy.rns.eight;simp only [go_sem];intro b3;have hEx:=jBs (g:=95) (sz:=8) (d:=jK y.runs) (η:=f3) rfl rfl (vf _) (by decide)
 have hfin:∀r s',jbl c y.runs s=(r,s')→qr c y s=match (r,s') with
  |(some x,s)=>(x,s)
  |(none,s)=>let a:=jr c 5 s;let b:=jr c 6 a.2;let d:=jr c 4 b.2;((1+a.1,b.1-1,d.1),d.2):=fun r s' h=>by rw [qr,h];rfl
 refine jn (fun i:Nat×Cu=>St.ofB [(0,Bx 89 b),(3,Bx 800000300 b3),(7,Ni i.1)] [(800000300,.box b3 tYd [.a (.v (.int .i64 y.now)),.a (.v (.int .i64 y.seq)),.a (.hs 94 0 [] (f2 []) 1 0 y.shelf.length),.a (.hs 95 0 [] (f3 []) 8 0 y.runs.length)])] 800000000 (fun j=>if j=89 then qq b 146 c i.2 else o j)) (fun i=>i.1≤y.runs.length∧i.2.1≤c.length∧jbl c y.runs s=jbl c (y.runs.drop i.1) i.2) (fun i=>y.runs.length-i.1) (0,s) (⟨Nat.zero_le _,hs,rfl⟩) (kS [some 800000300] (by simp only [go_sem,ho]<;>and_intros<;>first|rfl|assumption|trivial) (fun j hj=>by by_cases e89:j=89<;>simp only [go_sem,e89,hj,if_true,if_false,jz hj 800000300 (by omega),ho]) (by decide)) ?_
 rintro ⟨k,u⟩ ⟨hk,hu,hH⟩;dsimp only at hk hu hH;by_cases hlt:k<y.runs.length;rotate_left
 ·have hlt':¬(k:Int)<y.runs.length:=by omega
  rw [List.drop_eq_nil_of_le (by omega),jbl] at hH
  rw [hfin _ _ hH];dsimp only;simp only [go_sem,hlt',hEx,h95];refine kh (kz c hc 5 u b _ hu (by simp only [go_sem])) (by simp only [go_sem]) ?_
  have u1:=ju (n:=5) hu;have x1:=jR c (n:=5) u (by omega)
  generalize jr c 5 u=p1 at*;have w1:IntKind.i64.wrap (1+p1.1)=1+p1.1:=jf (by omega) (by omega)
  simp only [go_sem,w1];refine kh (kz c hc 6 p1.2 b _ u1 (by simp only [go_sem])) (by simp only [go_sem]) ?_
  have u2:=ju (n:=6) u1;have x2:=jR c (n:=6) p1.2 (by omega)
  generalize jr c 6 p1.2=p2 at*;have w2:IntKind.i64.wrap (p2.1-1)=p2.1-1:=jf (by omega) (by omega)
  simp only [go_sem,w2];refine kh (kz c hc 4 p2.2 b _ u2 (by simp only [go_sem])) (by simp only [go_sem]) ?_
  have x3:=jR c (n:=4) p2.2 (by omega)
  generalize jr c 4 p2.2=p3 at*;simp only [go_sem,w1,w2];exact jtJ (by simp only [go_sem,w1]) (by simp only [go_sem,w2]) (by simp only [go_sem]) ⟨rfl,by simp only [go_sem],fun g g1 g2=>by simp only [go_sem,g1,g2,jz g1 800000300 (by omega),if_true,if_false]⟩
 have hlt':(k:Int)<y.runs.length:=by omega
 have h0k:(k:Int)≥0:=by omega
 obtain ⟨r,hr⟩:=je hlt;have h12:=(hy.rns.right r (List.mem_of_getElem? hr)).le12;simp only [go_sem,hlt',hEx,h95,hlt,h0k,Nat.add_zero,jhl hr,jcy hr,jd,ja];refine jc (jkc r 3 (by omega)) (by simp only [go_sem,jd,ja,h95,jag hr,jX hr]) fun ηt=>?_
 simp only [go_sem,jd,ja,h95,jag hr,jX hr];have hwk:IntKind.i64.wrap ((k:Int)+1)=((k+1:Nat):Int):=jf (by omega) (by omega)
 have hd:y.runs.drop k=r::y.runs.drop (k+1):=by
  obtain ⟨hk,rfl⟩:=List.getElem?_eq_some_iff.1 hr;exact List.drop_eq_getElem_cons hk
 rw [hd,jbl] at hH;dsimp only at hH;have hml:=fun v:Int=>@tinL_mem 3 r.tasks v
 have htl:=vC 3 r.tasks r.tasks.length;rw [show vO 3 r.tasks r.tasks.length=qM 3 r.tasks from rfl] at htl
 generalize qM 3 r.tasks=L at*;by_cases hL:L=[]
 ·subst hL
  rw [if_pos rfl] at hH;have hz:¬((([]:List Int).length:Int)>0):=by simp
  simp only [go_sem,hz,hwk];exact ⟨(k+1,u),⟨hlt,hu,hH⟩,(kS [some 800000300] (by simp only [go_sem,hwk]<;>and_intros<;>first|rfl|assumption|trivial) (fun j hj=>by by_cases e89:j=89<;>simp only [go_sem,e89,hj,if_true,if_false,jz hj 800000300 (by omega),jz hj 800002300 (by omega),hwk]) (by decide)),by (try dsimp only);omega⟩
 rw [if_neg hL] at hH;have hLp:0<L.length:=List.length_pos_iff.2 hL;have hz:((L.length:Int)>0):=by omega
 simp only [go_sem,hz];refine kh (jiG c hc 5 u b _ hu (by simp only [go_sem])) (by simp only [go_sem]) ?_
 have u1:=ju (n:=5) hu;generalize jr c 5 u=p1 at*;by_cases h5:p1.1=0
 ·have h5':(p1.1==0)=true:=by simp [h5]
  rw [if_pos h5] at hH;simp only [go_sem,h5',hwk];exact ⟨(k+1,p1.2),⟨hlt,u1,hH⟩,(kS [some 800000300] (by simp only [go_sem,hwk]<;>and_intros<;>first|rfl|assumption|trivial) (fun j hj=>by by_cases e89:j=89<;>simp only [go_sem,e89,hj,if_true,if_false,jz hj 800000300 (by omega),jz hj 800002300 (by omega),hwk]) (by decide)),by (try dsimp only);omega⟩
 have h5':(p1.1==0)=false:=by simp [h5]
 rw [if_neg h5] at hH;simp only [go_sem,h5'];refine kh (kz c hc L.length p1.2 b _ u1 (by simp only [go_sem])) (by simp only [go_sem]) ?_
 have u2:=ju (n:=(L.length:Int)) u1;have x2:=jR c (n:=(L.length:Int)) p1.2 (by omega)
 generalize jr c L.length p1.2=p2 at*;obtain ⟨j,hj⟩:=Int.eq_ofNat_of_zero_le x2.1;rw [hj] at x2;have hjl:j<L.length:=by omega
 have h0j:(j:Int)≥0:=by omega
 obtain ⟨v,hv⟩:=je hjl;obtain ⟨t,x,hvt,hx,hxs⟩:=(hml v).1 (List.mem_of_getElem? hv);have htl2:=(List.getElem?_eq_some_iff.1 hx).1;have h0t:(t:Int)≥0:=by omega
 rw [hj,Int.toNat_natCast,hv,Option.getD_some,hvt,Int.toNat_natCast,hx] at hH;rw [hvt] at hv;have hxi:j+1≤(L.flatMap fun n=>[iv n]).length:=by have:=ji hjl;rwa [Nat.mul_one] at this
 have hxa:((L.flatMap fun n=>[iv n]).drop j).take 1=[iv (t:Int)]:=by have:=jj hv;rwa [Nat.mul_one] at this
 simp only [go_sem,hj,h0j,hjl,hxi,hxa,Nat.mul_one,hEx,h95,hlt,h0k,Nat.add_zero,qY hr,vm hr,jX hr,htl2,h0t,jlq hx,jla hx];simp only [Option.map_some,Option.getD_some] at hH;refine kh (jiG c hc 8 p2.2 b _ u2 (by simp only [go_sem])) (by simp only [go_sem]) ?_
 have u3:=ju (n:=8) u2;generalize jr c 8 p2.2=p3 at*;by_cases h8':p3.1=0
 ·have h8b:(p3.1==0)=true:=by simp [h8']
  rw [if_pos h8'] at hH;simp only [go_sem,h8b];refine kh (kz c hc 2 p3.2 b _ u3 (by simp only [go_sem])) (by simp only [go_sem]) ?_
  have x4:=jR c (n:=2) p3.2 (by omega)
  generalize jr c 2 p3.2=p4 at*;have w4:IntKind.i64.wrap (2*p4.1)=2*p4.1:=jf (by omega) (by omega)
  rw [hfin _ _ hH];dsimp only;simp only [go_sem,w4,hEx,h95,hlt,h0k,Nat.add_zero,jx0 hr,jxJ hr];exact jtJ (by simp only [go_sem]) (by simp only [go_sem]) (by simp only [go_sem,w4]) ⟨rfl,by simp only [go_sem],fun g g1 g2=>by simp only [go_sem,g1,g2,jz g1 800000300 (by omega),jz g1 800002300 (by omega),if_true,if_false]⟩
 ·have h8b:(p3.1==0)=false:=by simp [h8']
  rw [if_neg h8'] at hH;rw [hfin _ _ hH];dsimp only;simp only [go_sem,h8b,hEx,h95,hlt,h0k,Nat.add_zero,jx0 hr,jxJ hr];exact jtJ (by simp only [go_sem]) (by simp only [go_sem]) (by simp only [go_sem]) ⟨rfl,by simp only [go_sem],fun g g1 g2=>by simp only [go_sem,g1,g2,jz g1 800000300 (by omega),jz g1 800002300 (by omega),if_true,if_false]⟩
abbrev DdAV (d:Dd) (g:Nat) (e:js):AV:=.agg [.v (.int .i64 d.kind),.v (.int .i64 d.run),.v (.int .i64 d.plan.prio),.v (.int .i64 d.plan.most),.v (.int .i64 d.plan.wait),.v (.int .i64 d.plan.tasks),.h g 6 [] (e []),.v (.int .i64 d.task),.v (.int .i64 d.tri),.v (.int .i64 d.worker),.v (.int .i64 d.draw)]
def jdT:C:=iS [iA 3 (.box 27 4 (.t 1)),iA 4 (.alloc 60 [.int .i64 0,.int .i64 0,.int .i64 0,.int .i64 0,.int .i64 0,.int .i64 0,.slice none 0 0,.int .i64 0,.int .i64 0,.int .i64 0,.int .i64 0])] (iS [iA 12 (iM 0),iA 13 (.call 60 [.t 12,.c (.int .i64 20)]),iA 5 (iM 13)] (.seq (.blk 0 (iS [iA 15 (iM 5),iA 16 (iQ .lss 3 15 6),iA 14 (iM 16)] (iD 14 (iS [iA 17 (iM 0),iA 18 (.call 60 [.t 17,.c (.int .i64 8)]),iA 19 (iM 0),iA 20 (.call 60 [.t 19,.c (.int .i64 7)]),iA 21 (.bld [.int .i64 0,.int .i64 0,.int .i64 0,.int .i64 0,.int .i64 0,.int .i64 0,.slice none 0 0,.int .i64 0,.int .i64 0,.int .i64 0,.int .i64 0] [(0,1,.c (.int .i64 2)),(9,1,.t 18),(10,1,.t 20)]),iC (.st 11 [none,none,none,none,none,none,some (2,161),none,none,none,none] (.t 4) (.t 21))] .ret) (iS [iA 23 (iM 5),iA 24 (iQ .lss 3 23 10),iA 22 (iM 24)] (iD 22 (iS [iA 25 (iM 0),iA 26 (.call 60 [.t 25,.c (.int .i64 9)]),iA 27 (.bin .add 3 (.c (.int .i64 1)) (.t 26)),iA 28 (iM 0),iA 29 (.call 108 [.t 28]),iA 30 (.bld [.int .i64 0,.int .i64 0,.int .i64 0,.int .i64 0,.int .i64 0,.int .i64 0,.slice none 0 0,.int .i64 0,.int .i64 0,.int .i64 0,.int .i64 0] [(0,1,.c (.int .i64 1)),(1,1,.t 27),(2,5,.t 29)]),iC (.st 11 [none,none,none,none,none,none,some (2,161),none,none,none,none] (.t 4) (.t 30))] .ret) (iS [iA 32 (iM 5),iA 33 (iQ .lss 3 32 15),iA 31 (iM 33)] (iD 31 (iS [iA 35 (iM 0),iA 36 (iT 4 3),iA 37 (.call 184 [.t 35,.t 36]),iA 34 (iM 37),iA 38 (iE 34 0),iA 39 (iE 34 1),iA 40 (iE 34 2),iA 6 (iM 38),iA 7 (iM 39),iA 8 (iM 40)] (iS [iA 41 (iM 6),iA 42 (iM 7),iA 43 (.call 134 [.t 42,.c (.int .i64 0),.c (.int .i64 99)]),iA 44 (iM 8),iA 45 (.call 134 [.t 44,.c (.int .i64 0),.c (.int .i64 99)]),iA 46 (.bld [.int .i64 0,.int .i64 0,.int .i64 0,.int .i64 0,.int .i64 0,.int .i64 0,.slice none 0 0,.int .i64 0,.int .i64 0,.int .i64 0,.int .i64 0] [(0,1,.c (.int .i64 3)),(1,1,.t 41),(7,1,.t 43),(8,1,.t 45)]),iC (.st 11 [none,none,none,none,none,none,some (2,161),none,none,none,none] (.t 4) (.t 46))] .ret)) (iS [iA 48 (iM 5),iA 49 (iQ .eql 3 48 15),iA 47 (iM 49)] (iD 47 (iS [iA 51 (iM 0),iA 52 (iT 4 3),iA 53 (.call 184 [.t 51,.t 52]),iA 50 (iM 53),iA 54 (iE 50 0),iA 55 (iE 50 1),iA 56 (iE 50 2),iA 9 (iM 54),iA 10 (iM 55),iA 11 (iM 56)] (iS [iA 57 (iM 9),iA 58 (iM 10),iA 59 (.call 134 [.t 58,.c (.int .i64 0),.c (.int .i64 99)]),iA 60 (iM 11),iA 61 (.call 134 [.t 60,.c (.int .i64 0),.c (.int .i64 99)]),iA 62 (.bld [.int .i64 0,.int .i64 0,.int .i64 0,.int .i64 0,.int .i64 0,.int .i64 0,.slice none 0 0,.int .i64 0,.int .i64 0,.int .i64 0,.int .i64 0] [(0,1,.c (.int .i64 4)),(1,1,.t 57),(7,1,.t 59),(8,1,.t 61)]),iC (.st 11 [none,none,none,none,none,none,some (2,161),none,none,none,none] (.t 4) (.t 62))] .ret)) (iS [iA 64 (iM 5),iA 65 (iQ .eql 3 64 16),iA 63 (iM 65)] (iD 63 (iS [iA 66 (.bld [.int .i64 0,.int .i64 0,.int .i64 0,.int .i64 0,.int .i64 0,.int .i64 0,.slice none 0 0,.int .i64 0,.int .i64 0,.int .i64 0,.int .i64 0] [(0,1,.c (.int .i64 5))]),iC (.st 11 [none,none,none,none,none,none,some (2,161),none,none,none,none] (.t 4) (.t 66))] .ret) (iS [iA 68 (iM 5),iA 69 (iQ .eql 3 68 17),iA 67 (iM 69)] (iD 67 (iS [iA 70 (iM 0),iA 71 (.call 60 [.t 70,.c (.int .i64 9)]),iA 72 (.bin .add 3 (.c (.int .i64 1)) (.t 71)),iA 73 (.bld [.int .i64 0,.int .i64 0,.int .i64 0,.int .i64 0,.int .i64 0,.int .i64 0,.slice none 0 0,.int .i64 0,.int .i64 0,.int .i64 0,.int .i64 0] [(0,1,.c (.int .i64 6)),(1,1,.t 72)]),iC (.st 11 [none,none,none,none,none,none,some (2,161),none,none,none,none] (.t 4) (.t 73))] .ret) (iS [iA 75 (iM 5),iA 76 (iQ .eql 3 75 18),iA 74 (iM 76)] (iD 74 (iS [iA 77 (iM 0),iA 78 (.call 60 [.t 77,.c (.int .i64 9)]),iA 79 (.bin .add 3 (.c (.int .i64 1)) (.t 78)),iA 80 (.bld [.int .i64 0,.int .i64 0,.int .i64 0,.int .i64 0,.int .i64 0,.int .i64 0,.slice none 0 0,.int .i64 0,.int .i64 0,.int .i64 0,.int .i64 0] [(0,1,.c (.int .i64 7)),(1,1,.t 79)]),iC (.st 11 [none,none,none,none,none,none,some (2,161),none,none,none,none] (.t 4) (.t 80))] .ret) .skip))))))))))))))) (.seq (iS [iA 81 (iM 0),iA 82 (.call 160 [.t 81,.c (.int .i64 3)])] (iD 82 (iS [iA 83 (.bld [.int .i64 0,.int .i64 0,.int .i64 0,.int .i64 0,.int .i64 0,.int .i64 0,.slice none 0 0,.int .i64 0,.int .i64 0,.int .i64 0,.int .i64 0] [(0,1,.c (.int .i64 8))]),iC (.st 11 [none,none,none,none,none,none,some (2,161),none,none,none,none] (.t 4) (.t 83))] .ret) .skip)) (iS [iA 84 (.bld [.int .i64 0,.int .i64 0,.int .i64 0,.int .i64 0,.int .i64 0,.int .i64 0,.slice none 0 0,.int .i64 0,.int .i64 0,.int .i64 0,.int .i64 0] [(0,1,.c (.int .i64 5))]),iC (.st 11 [none,none,none,none,none,none,some (2,161),none,none,none,none] (.t 4) (.t 84))] .ret))))
theorem jgM:fnC Tryz.prog Tryz.f142=some (jdT,[.cell 4 true 11],85):=by kernel_rfl
theorem jwC (c:List UInt8) (hc:c.length≤1048576) (y:Yd) (hy:YdI y) (s:Cu) (b:Nat) (o:Nat→Ob) (f2 f3:js) (hs:s.1≤c.length) (ho:o 89=qq b 146 c s) (h86:o 86=.none) (h94:o 94=.loose (ku y.shelf) f2) (h95:o 95=.loose (jK y.runs) f3):
 Inl Tryz.prog 142 [Bx 89 b,YdHs y (f2 []) (f3 [])] o fun av o2=>∃(e:js) (b4:Nat),av=DdAV (qf c y s).1 700000400 e∧o2 700000400=DdR b4 60 (qf c y s).1 e∧o2 89=qq b 146 c (qf c y s).2∧∀g,g<700000000→g≠86→g≠89→o2 g=o g:=by
 refine jk9 (β:=7000000) [[1,1,0,0,1,0,1],[1,1,0,0,1,1,1,0,1],[1,1,0,0,1,1,1,1,1,0,1,1],[1,1,0,0,1,1,1,1,1,1,1,0,1,1],[1,1,0,0,1,1,1,1,1,1,1,1,1,0,1],[1,1,0,0,1,1,1,1,1,1,1,1,1,1,1,0,1],[1,1,0,0,1,1,1,1,1,1,1,1,1,1,1,1,1,0,1],[1,1,1,0,1,0,1],[1,1,1,1,1]] Tryz.func142 jgM (by simp) ?_
 unfold jdT;simp only [C.ghs,C.ghAt,List.foldr];simp only [go_sem];intro b3 b4;refine kh (kz c hc 20 s b _ hs (by simp only [go_sem,ho])) (by simp only [go_sem]) ?_
 have s1:=ju (n:=20) hs;have x1:=jR c (n:=20) s (by omega)
 generalize hq1:jr c 20 s=q1 at*;by_cases c1:q1.1<6
 ·simp only [go_sem,c1]
  refine kh (kz c hc 8 q1.2 b _ s1 (by simp only [go_sem])) (by simp only [go_sem]) ?_
  have s2:=ju (n:=8) s1;have x2:=jR c (n:=8) q1.2 (by omega)
  generalize hq2:jr c 8 q1.2=q2 at*;simp only [go_sem];refine kh (kz c hc 7 q2.2 b _ s2 (by simp only [go_sem])) (by simp only [go_sem]) ?_
  have s3:=ju (n:=7) s2;have x3:=jR c (n:=7) q2.2 (by omega)
  generalize hq3:jr c 7 q2.2=q3 at*;have hd:qf c y s=(⟨2,0,plZ,0,0,q2.1,q3.1⟩,q3.2):=by simp only [qf,hq1,if_pos c1,hq2,hq3]
  rw [hd];simp only [go_sem,ho];refine kY ?_;refine WkK.wk (s':=St.ofB [(4,Bx 700000400 b4)] [(700000400,DdR b4 60 ⟨2,0,plZ,0,0,q2.1,q3.1⟩ jcc)] 700000000 (fun j=>if j=89 then qq b 146 c q3.2 else o j)) (kS [some 700000400] (by simp only [go_sem,km,ho]<;>and_intros<;>first|rfl|assumption|trivial) (fun j hj=>by by_cases e89:j=89<;>simp only [go_sem,e89,hj,if_true,if_false,jz hj 700000400 (by omega),jz hj 700000300 (by omega),km,ho]) (by decide)) ?_
  refine WkK.of ?_;simp only [go_sem];exact ⟨jcc,b4,rfl,rfl,fun g g1 g2 g3=>by simp only [g1,g3,jz g1 700000400 (by omega),if_true,if_false]⟩
 by_cases c2:q1.1<10
 ·simp only [go_sem,c1,c2]
  refine kh (kz c hc 9 q1.2 b _ s1 (by simp only [go_sem])) (by simp only [go_sem]) ?_
  have s2:=ju (n:=9) s1;have x2:=jR c (n:=9) q1.2 (by omega)
  generalize hq2:jr c 9 q1.2=q2 at*;have w2:IntKind.i64.wrap (1+q2.1)=1+q2.1:=jf (by omega) (by omega)
  simp only [go_sem,w2];refine kN (by simp only [go_sem]) (juv c hc q2.2 b _ s2 (by simp only [go_sem]) (by simp only [go_sem,h86])) fun av o' ⟨e,hav,hx1,o1,o2,hk⟩=>?_
  subst hav;have k4:=hk 700000400 (by decide) (by decide) (by decide)
  have kall:∀g,g<700000000→o' g=if g=89 then qq b 146 c (jca c q2.2).2 else if g=86 then .loose (jy (jca c q2.2).1.edges) e else o g:=fun g hg=>by
   by_cases h1:g=89
   ·subst h1;rw [o2];rfl
   ·by_cases h2:g=86
    ·subst h2;rw [o1];rfl
    ·rw [hk g (by omega) h2 h1,if_neg h1,if_neg h2]
     simp only [go_sem,h1,h2,jz hg 700000300 (by omega),jz hg 700000400 (by omega),if_false]
  simp only [go_sem] at k4;have hd:qf c y s=(⟨1,1+q2.1,(jca c q2.2).1,0,0,0,0⟩,(jca c q2.2).2):=by simp only [qf,hq1,if_neg c1,if_pos c2,hq2]
  rw [hd];generalize jca c q2.2=p at*;simp only [go_sem,k4,hx1,w2];refine kY ?_;refine WkK.wk (s':=St.ofB [(4,Bx 700000400 b4)] [(700000400,.box b4 60 [.a (.v (.int .i64 1)),.a (.v (.int .i64 (1+q2.1))),.a (.v (.int .i64 p.1.prio)),.a (.v (.int .i64 p.1.most)),.a (.v (.int .i64 p.1.wait)),.a (.v (.int .i64 p.1.tasks)),.a (.v (e [])),.a (.v (.int .i64 0)),.a (.v (.int .i64 0)),.a (.v (.int .i64 0)),.a (.v (.int .i64 0))])] 700000000 (fun j=>if j=89 then qq b 146 c p.2 else if j=86 then .loose (jy p.1.edges) e else o j)) (kS [some 700000400] (by simp only [go_sem,w2,kall]<;>and_intros<;>first|rfl|assumption|trivial) (fun j hj=>by by_cases e89:j=89<;>by_cases e86:j=86<;>simp only [go_sem,e89,e86,hj,if_true,if_false,jz hj 700000400 (by omega),w2,kall]) (by decide)) ?_
  refine qN 700000400 6 86 (d:=jy p.1.edges) (η:=e) rfl rfl rfl ?_;refine WkK.of ?_;simp only [go_sem];exact ⟨e,b4,rfl,rfl,fun g g1 g2 g3=>by simp only [g1,g2,g3,jz g1 700000400 (by omega),if_true,if_false]⟩
 by_cases c3:q1.1<15
 ·simp only [go_sem,c1,c2,c3]
  refine kN (by simp only [go_sem]) (jqK c hc y hy q1.2 b _ f2 f3 s1 (by simp only [go_sem]) (by simp only [go_sem,h94]) (by simp only [go_sem,h95])) fun av o' ⟨hav,o2,hk⟩=>?_
  subst hav;have k4:=hk 700000400 (by decide) (by decide)
  have kall:∀g,g<700000000→o' g=if g=89 then qq b 146 c (qr c y q1.2).2 else o g:=fun g hg=>by
   by_cases h1:g=89
   ·subst h1;rw [o2];rfl
   ·rw [hk g (by omega) h1,if_neg h1]
    simp only [go_sem,h1,jz hg 700000300 (by omega),jz hg 700000400 (by omega),if_false]
  simp only [go_sem] at k4;simp only [go_sem];refine jc (vt (qr c y q1.2).1.2.1 0 99) (by simp only [go_sem]) fun η=>?_
  simp only [go_sem];refine jc (vt (qr c y q1.2).1.2.2 0 99) (by simp only [go_sem]) fun η=>?_
  simp only [go_sem];have hd:qf c y s=(⟨3,(qr c y q1.2).1.1,plZ,brI (qr c y q1.2).1.2.1 0 99,brI (qr c y q1.2).1.2.2 0 99,0,0⟩,(qr c y q1.2).2):=by simp only [qf,hq1,if_neg c1,if_neg c2,if_pos c3]
  rw [hd];simp only [go_sem,k4,kall];refine kY ?_;refine WkK.wk (s':=St.ofB [(4,Bx 700000400 b4)] [(700000400,DdR b4 60 ⟨3,(qr c y q1.2).1.1,plZ,brI (qr c y q1.2).1.2.1 0 99,brI (qr c y q1.2).1.2.2 0 99,0,0⟩ jcc)] 700000000 (fun j=>if j=89 then qq b 146 c (qr c y q1.2).2 else o j)) (kS [some 700000400] (by simp only [go_sem,km,k4,kall]<;>and_intros<;>first|rfl|assumption|trivial) (fun j hj=>by by_cases e89:j=89<;>simp only [go_sem,e89,hj,if_true,if_false,jz hj 700000400 (by omega),jz hj 700000300 (by omega),km,k4,kall]) (by decide)) ?_
  refine WkK.of ?_;simp only [go_sem];exact ⟨jcc,b4,rfl,rfl,fun g g1 g2 g3=>by simp only [g1,g3,jz g1 700000400 (by omega),if_true,if_false]⟩
 by_cases c4:q1.1=15
 ·have b4':(q1.1==15)=true:=by simp [c4]
  simp only [go_sem,c1,c2,c3,b4'];refine kN (by simp only [go_sem]) (jqK c hc y hy q1.2 b _ f2 f3 s1 (by simp only [go_sem]) (by simp only [go_sem,h94]) (by simp only [go_sem,h95])) fun av o' ⟨hav,o2,hk⟩=>?_
  subst hav;have k4:=hk 700000400 (by decide) (by decide)
  have kall:∀g,g<700000000→o' g=if g=89 then qq b 146 c (qr c y q1.2).2 else o g:=fun g hg=>by
   by_cases h1:g=89
   ·subst h1;rw [o2];rfl
   ·rw [hk g (by omega) h1,if_neg h1]
    simp only [go_sem,h1,jz hg 700000300 (by omega),jz hg 700000400 (by omega),if_false]
  simp only [go_sem] at k4;simp only [go_sem];refine jc (vt (qr c y q1.2).1.2.1 0 99) (by simp only [go_sem]) fun η=>?_
  simp only [go_sem];refine jc (vt (qr c y q1.2).1.2.2 0 99) (by simp only [go_sem]) fun η=>?_
  simp only [go_sem];have hd:qf c y s=(⟨4,(qr c y q1.2).1.1,plZ,brI (qr c y q1.2).1.2.1 0 99,brI (qr c y q1.2).1.2.2 0 99,0,0⟩,(qr c y q1.2).2):=by simp only [qf,hq1,if_neg c1,if_neg c2,if_neg c3,if_pos c4]
  rw [hd];simp only [go_sem,k4,kall];refine kY ?_;refine WkK.wk (s':=St.ofB [(4,Bx 700000400 b4)] [(700000400,DdR b4 60 ⟨4,(qr c y q1.2).1.1,plZ,brI (qr c y q1.2).1.2.1 0 99,brI (qr c y q1.2).1.2.2 0 99,0,0⟩ jcc)] 700000000 (fun j=>if j=89 then qq b 146 c (qr c y q1.2).2 else o j)) (kS [some 700000400] (by simp only [go_sem,km,k4,kall]<;>and_intros<;>first|rfl|assumption|trivial) (fun j hj=>by by_cases e89:j=89<;>simp only [go_sem,e89,hj,if_true,if_false,jz hj 700000400 (by omega),jz hj 700000300 (by omega),km,k4,kall]) (by decide)) ?_
  refine WkK.of ?_;simp only [go_sem];exact ⟨jcc,b4,rfl,rfl,fun g g1 g2 g3=>by simp only [g1,g3,jz g1 700000400 (by omega),if_true,if_false]⟩
 have b4':(q1.1==15)=false:=by simp [c4]
 by_cases c5:q1.1=16
 ·have b5':(q1.1==16)=true:=by simp [c5]
  have hd:qf c y s=(⟨5,0,plZ,0,0,0,0⟩,q1.2):=by simp only [qf,hq1,if_neg c1,if_neg c2,if_neg c3,if_neg c4,if_pos c5]
  rw [hd];simp only [go_sem,c1,c2,c3,b4',b5',ho];refine kY ?_;refine WkK.wk (s':=St.ofB [(4,Bx 700000400 b4)] [(700000400,DdR b4 60 ⟨5,0,plZ,0,0,0,0⟩ jcc)] 700000000 (fun j=>if j=89 then qq b 146 c q1.2 else o j)) (kS [some 700000400] (by simp only [go_sem,km,c1,c2,c3,b4',b5',ho]<;>and_intros<;>first|rfl|assumption|trivial) (fun j hj=>by by_cases e89:j=89<;>simp only [go_sem,e89,hj,if_true,if_false,jz hj 700000400 (by omega),jz hj 700000300 (by omega),km,c1,c2,c3,b4',b5',ho]) (by decide)) ?_
  refine WkK.of ?_;simp only [go_sem];exact ⟨jcc,b4,rfl,rfl,fun g g1 g2 g3=>by simp only [g1,g3,jz g1 700000400 (by omega),if_true,if_false]⟩
 have b5':(q1.1==16)=false:=by simp [c5]
 by_cases c6:q1.1=17
 ·have b6':(q1.1==17)=true:=by simp [c6]
  simp only [go_sem,c1,c2,c3,b4',b5',b6'];refine kh (kz c hc 9 q1.2 b _ s1 (by simp only [go_sem])) (by simp only [go_sem]) ?_
  have s2:=ju (n:=9) s1;have x2:=jR c (n:=9) q1.2 (by omega)
  generalize hq2:jr c 9 q1.2=q2 at*;have w2:IntKind.i64.wrap (1+q2.1)=1+q2.1:=jf (by omega) (by omega)
  have hd:qf c y s=(⟨6,1+q2.1,plZ,0,0,0,0⟩,q2.2):=by simp only [qf,hq1,if_neg c1,if_neg c2,if_neg c3,if_neg c4,if_neg c5,if_pos c6,hq2]
  rw [hd];simp only [go_sem,w2,ho];refine kY ?_;refine WkK.wk (s':=St.ofB [(4,Bx 700000400 b4)] [(700000400,DdR b4 60 ⟨6,1+q2.1,plZ,0,0,0,0⟩ jcc)] 700000000 (fun j=>if j=89 then qq b 146 c q2.2 else o j)) (kS [some 700000400] (by simp only [go_sem,km,w2,ho]<;>and_intros<;>first|rfl|assumption|trivial) (fun j hj=>by by_cases e89:j=89<;>simp only [go_sem,e89,hj,if_true,if_false,jz hj 700000400 (by omega),jz hj 700000300 (by omega),km,w2,ho]) (by decide)) ?_
  refine WkK.of ?_;simp only [go_sem];exact ⟨jcc,b4,rfl,rfl,fun g g1 g2 g3=>by simp only [g1,g3,jz g1 700000400 (by omega),if_true,if_false]⟩
 have b6':(q1.1==17)=false:=by simp [c6]
 by_cases c7:q1.1=18
 ·have b7':(q1.1==18)=true:=by simp [c7]
  simp only [go_sem,c1,c2,c3,b4',b5',b6',b7'];refine kh (kz c hc 9 q1.2 b _ s1 (by simp only [go_sem])) (by simp only [go_sem]) ?_
  have s2:=ju (n:=9) s1;have x2:=jR c (n:=9) q1.2 (by omega)
  generalize hq2:jr c 9 q1.2=q2 at*;have w2:IntKind.i64.wrap (1+q2.1)=1+q2.1:=jf (by omega) (by omega)
  have hd:qf c y s=(⟨7,1+q2.1,plZ,0,0,0,0⟩,q2.2):=by simp only [qf,hq1,if_neg c1,if_neg c2,if_neg c3,if_neg c4,if_neg c5,if_neg c6,if_pos c7,hq2]
  rw [hd];simp only [go_sem,w2,ho];refine kY ?_;refine WkK.wk (s':=St.ofB [(4,Bx 700000400 b4)] [(700000400,DdR b4 60 ⟨7,1+q2.1,plZ,0,0,0,0⟩ jcc)] 700000000 (fun j=>if j=89 then qq b 146 c q2.2 else o j)) (kS [some 700000400] (by simp only [go_sem,km,w2,ho]<;>and_intros<;>first|rfl|assumption|trivial) (fun j hj=>by by_cases e89:j=89<;>simp only [go_sem,e89,hj,if_true,if_false,jz hj 700000400 (by omega),jz hj 700000300 (by omega),km,w2,ho]) (by decide)) ?_
  refine WkK.of ?_;simp only [go_sem];exact ⟨jcc,b4,rfl,rfl,fun g g1 g2 g3=>by simp only [g1,g3,jz g1 700000400 (by omega),if_true,if_false]⟩
 have b7':(q1.1==18)=false:=by simp [c7]
 simp only [go_sem,c1,c2,c3,b4',b5',b6',b7'];refine kh (jiG c hc 3 q1.2 b _ s1 (by simp only [go_sem])) (by simp only [go_sem]) ?_
 have s2:=ju (n:=3) s1;generalize hq2:jr c 3 q1.2=q2 at*;by_cases c8:q2.1=0
 ·have b8':(q2.1==0)=true:=by simp [c8]
  have hd:qf c y s=(⟨8,0,plZ,0,0,0,0⟩,q2.2):=by simp only [qf,hq1,if_neg c1,if_neg c2,if_neg c3,if_neg c4,if_neg c5,if_neg c6,if_neg c7,hq2,if_pos c8]
  rw [hd];simp only [go_sem,b8',ho];refine kY ?_;refine WkK.wk (s':=St.ofB [(4,Bx 700000400 b4)] [(700000400,DdR b4 60 ⟨8,0,plZ,0,0,0,0⟩ jcc)] 700000000 (fun j=>if j=89 then qq b 146 c q2.2 else o j)) (kS [some 700000400] (by simp only [go_sem,km,b8',ho]<;>and_intros<;>first|rfl|assumption|trivial) (fun j hj=>by by_cases e89:j=89<;>simp only [go_sem,e89,hj,if_true,if_false,jz hj 700000400 (by omega),jz hj 700000300 (by omega),km,b8',ho]) (by decide)) ?_
  refine WkK.of ?_;simp only [go_sem];exact ⟨jcc,b4,rfl,rfl,fun g g1 g2 g3=>by simp only [g1,g3,jz g1 700000400 (by omega),if_true,if_false]⟩
 ·have b8':(q2.1==0)=false:=by simp [c8]
  have hd:qf c y s=(⟨5,0,plZ,0,0,0,0⟩,q2.2):=by simp only [qf,hq1,if_neg c1,if_neg c2,if_neg c3,if_neg c4,if_neg c5,if_neg c6,if_neg c7,hq2,if_neg c8]
  rw [hd];simp only [go_sem,b8',ho];refine kY ?_;refine WkK.wk (s':=St.ofB [(4,Bx 700000400 b4)] [(700000400,DdR b4 60 ⟨5,0,plZ,0,0,0,0⟩ jcc)] 700000000 (fun j=>if j=89 then qq b 146 c q2.2 else o j)) (kS [some 700000400] (by simp only [go_sem,km,b8',ho]<;>and_intros<;>first|rfl|assumption|trivial) (fun j hj=>by by_cases e89:j=89<;>simp only [go_sem,e89,hj,if_true,if_false,jz hj 700000400 (by omega),jz hj 700000300 (by omega),km,b8',ho]) (by decide)) ?_
  refine WkK.of ?_;simp only [go_sem];exact ⟨jcc,b4,rfl,rfl,fun g g1 g2 g3=>by simp only [g1,g3,jz g1 700000400 (by omega),if_true,if_false]⟩
theorem jje:kj Tryz.prog 33 [] (.agg (jb newYd)):=jtT ⟨_,Tryz.func33,by kernel_rfl,by kernel_rfl⟩ fun w=>jrK w
section
variable {s:St} {K:St→Prop}
theorem jx7 {o':Nat→Ob} (h:jxl o' s.o) (hk:WkK ⟨s.t,o'⟩ K):WkK s K:=fun B N w0 w a F hr=>by
 obtain ⟨F',h1,_⟩:=hr.less h;exact hk B N w0 w a F' h1
theorem jvD (g:Nat) (hk:WkK ⟨s.t,fun j=>if j=g then .none else s.o j⟩ K):WkK s K:=jx7 (fun j=>by
 by_cases e:j=g
 ·rw [if_pos e];exact .inr rfl
 ·rw [if_neg e];exact .inl rfl) hk
theorem jyK {a n k g c b ty:Nat} {x:A0} {cs:List Cell} {K:AV→(Nat→Ob)→Prop} (ha:s.t a=.c x) (hn:s.t n=.c (.bp g c b)) (ho:s.o g=.box b ty cs) (hl:c+k≤cs.length) (h:K (.tup [(false,[x]),(true,jdr g c ((cs.drop c).take k))]) s.o):jsQ [.t a,.cell n true k] K s:=by
 simp only [jsQ,jhN,ha,hn];exact ⟨_,⟨ty,cs,ho,hl,rfl⟩,.inl trivial,h⟩
end
abbrev ddH (d:Dd) (x:Value):List D:=[.val (.int .i64 d.kind),.val (.int .i64 d.run),.val (.int .i64 d.plan.prio),.val (.int .i64 d.plan.most),.val (.int .i64 d.plan.wait),.val (.int .i64 d.plan.tasks),jqA (some (2,tEd)) x,.val (.int .i64 d.task),.val (.int .i64 d.tri),.val (.int .i64 d.worker),.val (.int .i64 d.draw)]
abbrev DdRH (b ty:Nat) (d:Dd) (x:Value):Ob:=.box b ty [.a (.v (.int .i64 d.kind)),.a (.v (.int .i64 d.run)),.a (.v (.int .i64 d.plan.prio)),.a (.v (.int .i64 d.plan.most)),.a (.v (.int .i64 d.plan.wait)),.a (.v (.int .i64 d.plan.tasks)),.a (.v x),.a (.v (.int .i64 d.task)),.a (.v (.int .i64 d.tri)),.a (.v (.int .i64 d.worker)),.a (.v (.int .i64 d.draw))]
theorem jmw (l:List Dd):(l.flatMap jp).length=l.length*11:=jH (enc:=jp) (size:=11) (fun _=>rfl) l
theorem jBM (l:List Dd) (row:List D) (j:Nat):(l.flatMap jp++row)[l.length*11+j]?=row[j]?:=by
 rw [List.getElem?_append_right (by rw [jmw];omega),jmw,Nat.add_sub_cancel_left]
theorem jzB (l:List Dd) (row:List D) (j:Nat) (d:D):(l.flatMap jp++row).set (l.length*11+j) d=l.flatMap jp++row.set j d:=by
 rw [List.set_append_right _ _ (by rw [jmw];omega),jmw,Nat.add_sub_cancel_left]
theorem ju0 (l:List Dd) (d:Dd):D.sl 11 tDd (l.flatMap jp++jp d)=jdQ (l++[d]):=by simp [jdQ]
def jcM:C:=iS [iA 4 (.mov (.c (.slice none 0 0))),iA 5 (.alloc 27 [.int .i64 0,.int .i64 0,.slice none 0 0,.slice none 0 0])] (iS [iA 10 (.call 33 []),iA 6 (.alloc 27 [.int .i64 0,.int .i64 0,.slice none 0 0,.slice none 0 0]),iC (.st 4 [none,none,some (1,35),some (8,52)] (.t 6) (.t 10))] (iS [iA 11 (.bsl 60 11 0 [] []),iA 7 (iM 11)] (.seq (iS [iA 8 (iN 0)] (.blk 0 (.loop (.seq (iS [iA 12 (iM 8),iA 13 (iM 1),iA 14 (iP .lss 3 12 13)] (iD 14 .skip (.exit 0))) (.seq (.blk 1 (iS [iA 17 (iM 0),iA 18 (iT 4 6),iA 19 (.call 142 [.t 17,.t 18]),iA 9 (.alloc 60 [.int .i64 0,.int .i64 0,.int .i64 0,.int .i64 0,.int .i64 0,.int .i64 0,.slice none 0 0,.int .i64 0,.int .i64 0,.int .i64 0,.int .i64 0]),iC (.st 11 [none,none,none,none,none,none,some (2,161),none,none,none,none] (.t 9) (.t 19))] (iS [iA 20 (iM 7),iA 21 (iT 11 9),iA 22 (.bsl 60 11 1 [none,none,none,none,none,none,some (2,161),none,none,none,none] [(0,11,.t 21)]),iA 23 (.app 60 11 104 (.t 20) (.t 22)),iA 7 (iM 23)] (.reg [iA 25 (iT 4 6),iA 26 (iT 11 9),iA 27 (.call 95 [.t 25,.t 26]),iA 24 (iM 27),iA 28 (iE 24 0),iA 29 (iE 24 1),iC (.st 4 [none,none,some (1,35),some (8,52)] (.t 6) (.t 28))])))) (.reg [iA 15 (iM 8),iA 16 (iQ .add 3 15 1),iA 8 (iM 16)])))))) (.seq (.dreg (T.pure 0 (iA 30 (iM 7)) (T.pure 1 (iA 31 (iT 4 6)) (T.pure 2 (iA 4 (iM 30)) (T.alt (iC (.st 4 [none,none,some (1,35),some (8,52)] (.t 5) (.t 31))) [] T.done T.stop))))) .ret))))
theorem jfA:fnC Tryz.prog Tryz.f89=some (jcM,[.t 4,.cell 5 true 4],32):=by kernel_rfl
theorem juw (c:List UInt8) (hc:c.length≤1048576) (m:Nat) (hm:m≤1000) (s:Cu) (b:Nat) (o:Nat→Ob) (hs:s.1≤c.length) (ho:o 89=qq b 146 c s) (h86:o 86=.none) (h94:o 94=.none) (h95:o 95=.none):
 Inl Tryz.prog 89 [Bx 89 b,Ni m] o fun av o2=>∃(e e2 e3:js) (b5:Nat),av=.tup [(false,[.h 600000700 0 [] (e [])]),(true,[.v (.int .i64 (vz c m ([],newYd,s)).2.1.now),.v (.int .i64 (vz c m ([],newYd,s)).2.1.seq),.h 600000500 2 [] (e2 []),.h 600000500 3 [] (e3 [])])]∧o2 600000700=.loose (jdQ (vz c m ([],newYd,s)).1) e∧
  o2 600000500=kq b5 tYd (vz c m ([],newYd,s)).2.1.now (vz c m ([],newYd,s)).2.1.seq (vz c m ([],newYd,s)).2.1.shelf e2 (vz c m ([],newYd,s)).2.1.runs e3∧o2 89=qq b 146 c (vz c m ([],newYd,s)).2.2∧∀g,g<600000000→g≠89→o2 g=o g:=by
 refine jk9 (β:=6000000) [[1,1,1,0,1,0,0,1,0,0,0],[1,1,1,0,1,0,0,1,0,0,1],[1,1,1,0,1,0,0,1,0,0,1,1],[1,1,1,0,1,0,0,1,1],[1,1,1,1,0]] Tryz.func89 jfA (by simp) ?_
 unfold jcM;simp only [C.ghs,C.ghAt,List.foldr];simp only [go_sem];intro b5;refine jc (jje) (by simp only [go_sem,jb]) fun ηn=>?_
 simp only [go_sem,jb];intro b6 η11;generalize hX:vz c m ([],newYd,s)=X at*;refine jn (fun i:(Nat×(List Dd×Yd×Cu))×js×js×js=>St.ofB [(0,Bx 89 b),(1,Ni m),(5,Bx 600000500 b5),(6,Bx 600000600 b6),(7,Hd 600000700 i.2.1),(8,Ni i.1.1)] [(600000500,ZYd b5 tYd),(600000600,kq b6 tYd i.1.2.2.1.now i.1.2.2.1.seq i.1.2.2.1.shelf i.2.2.1 i.1.2.2.1.runs i.2.2.2),(600000700,.loose (jdQ i.1.2.1) i.2.1)] 600000000 (fun j=>if j=89 then qq b 146 c i.1.2.2.2 else if j=94 then .none else if j=95 then .none else if j=86 then .none else o j)) (fun i=>i.1.1≤m∧DdsI c i.1.1 i.1.2∧X=vz c (m-i.1.1) i.1.2) (fun i=>m-i.1.1) ((0,([],newYd,s)),η11,ηn 2,ηn 3) (⟨Nat.zero_le _,.start hs,hX.symm⟩) (kS [some 600000500,some 600000600,some 600001100] (by simp only [go_sem,jk2,jb,ho,h86,h94,h95]<;>and_intros<;>first|rfl|assumption|trivial) (fun j hj=>by by_cases e89:j=89<;>by_cases e94:j=94<;>by_cases e95:j=95<;>by_cases e86:j=86<;>simp only [go_sem,e89,e94,e95,e86,hj,if_true,if_false,jz hj 600000500 (by omega),jz hj 600000600 (by omega),jz hj 600001100 (by omega),jz hj 600001002 (by omega),jz hj 600001003 (by omega),jk2,jb,ho,h86,h94,h95]) (by decide)) ?_
 rintro ⟨⟨i,l,y,u⟩,e,e2,e3⟩ ⟨hi,hD,hXi⟩;dsimp only at hi hD hXi;by_cases hlt:i<m;rotate_left
 ·have hlt':¬(i:Int)<(m:Int):=by omega
  have h0:m-i=0:=by omega
  rw [h0,vz] at hXi;subst hXi;simp only [go_sem,hlt'];refine kY (WkK.of ?_);simp only [go_sem];refine jyK (x:=.h 600000700 0 [] (e [])) (g:=600000500) (c:=0) (b:=b5) (ty:=tYd) (cs:=[.a (.v (.int .i64 y.now)),.a (.v (.int .i64 y.seq)),.own (ku y.shelf) e2,.own (jK y.runs) e3]) (by simp only [go_sem]) (by simp only [go_sem]) (by simp only [go_sem]) (by simp) ?_
  simp only [go_sem];refine ⟨e,e2,e3,b5,rfl,rfl,rfl,fun g g1 g2=>?_⟩
  by_cases e94:g=94
  ·subst e94;simp only [go_sem,h94]
  by_cases e95:g=95
  ·subst e95;simp only [go_sem,h95]
  by_cases e86:g=86
  ·subst e86;simp only [go_sem,h86]
  simp only [go_sem,g1,g2,e94,e95,e86,jz g1 600000500 (by omega),jz g1 600000600 (by omega),jz g1 600000700 (by omega),if_true,if_false]
 have hlt':(i:Int)<(m:Int):=by omega
 obtain ⟨f,hf⟩:∃f,m-i=f+1:=⟨m-i-1,by omega⟩
 rw [hf,vz] at hXi;dsimp only at hXi;have hDn:=hD.next;have hat:=hD.at_;have hyI:=hD.yd;have hll:=hD.len;have hdt:=jjD c y u;dsimp only at hDn hat hyI hll;have hyt:=(hyI.ok (by have:=hD.seq;dsimp only at this;omega)).small
 simp only [go_sem,hlt'];refine kY ?_;refine jgq 600000600 2 94 rfl rfl rfl (by decide) (Nat.zero_lt_succ 0) ?_
 refine jgq 600000600 3 95 rfl rfl rfl (by decide) (Nat.zero_lt_succ 7) ?_
 refine WkK.wk (s':=St.ofB [(0,Bx 89 b),(1,Ni m),(5,Bx 600000500 b5),(6,Bx 600000600 b6),(7,Hd 600000700 e),(8,Ni i)] [(600000500,ZYd b5 tYd),(600000600,.box b6 tYd [.a (.v (.int .i64 y.now)),.a (.v (.int .i64 y.seq)),.a (.hs 94 0 [] (e2 []) 1 0 y.shelf.length),.a (.hs 95 0 [] (e3 []) 8 0 y.runs.length)]),(600000700,.loose (jdQ l) e)] 600000000 (fun j=>if j=89 then qq b 146 c u else if j=94 then .loose (ku y.shelf) e2 else if j=95 then .loose (jK y.runs) e3 else if j=86 then .none else o j)) (kS [some 600000500,some 600000600,some 600000700] (by simp only [go_sem]<;>and_intros<;>first|rfl|assumption|trivial) (fun j hj=>by by_cases e89:j=89<;>by_cases e94:j=94<;>by_cases e95:j=95<;>by_cases e86:j=86<;>simp only [go_sem,e89,e94,e95,e86,hj,if_true,if_false,jz hj 600000500 (by omega),jz hj 600000600 (by omega),jz hj 600000700 (by omega)]) (by decide)) ?_
 refine WkK.of ?_;simp only [go_sem];refine kN (by simp only [go_sem]) (jwC c hc y hyI u b _ e2 e3 hat (by simp only [go_sem]) (by simp only [go_sem]) (by simp only [go_sem]) (by simp only [go_sem])) fun av o' ⟨ed,b4,hav,ho4,o2,hk⟩=>?_
 subst hav;have k5:=hk 600000500 (by decide) (by decide) (by decide)
 have k6:=hk 600000600 (by decide) (by decide) (by decide)
 have k7:=hk 600000700 (by decide) (by decide) (by decide)
 have kall:∀g,g<600000000→g≠86→o' g=if g=89 then qq b 146 c (qf c y u).2 else if g=94 then .loose (ku y.shelf) e2 else if g=95 then .loose (jK y.runs) e3 else o g:=fun g hg h2=>by
  by_cases h1:g=89
  ·subst h1;rw [o2];rfl
  ·rw [hk g (by omega) h2 h1,if_neg h1]
   simp only [go_sem,hg,h1,h2,if_true,if_false]
 simp only [go_sem] at k5 k6 k7;simp only [go_sem,ho4];intro b9;refine kY ?_;refine jvD 86 ?_;generalize hdd:(qf c y u).1=d at*;refine WkK.wk (s':=St.ofB [(0,Bx 89 b),(1,Ni m),(5,Bx 600000500 b5),(6,Bx 600000600 b6),(7,Hd 600000700 e),(8,Ni i),(9,Bx 600000900 b9)] [(600000500,ZYd b5 tYd),(600000600,.box b6 tYd [.a (.v (.int .i64 y.now)),.a (.v (.int .i64 y.seq)),.a (.hs 94 0 [] (e2 []) 1 0 y.shelf.length),.a (.hs 95 0 [] (e3 []) 8 0 y.runs.length)]),(600000700,.loose (jdQ l) e),(600000900,DdR b9 60 d ed)] 600000000 (fun j=>if j=89 then qq b 146 c (qf c y u).2 else if j=94 then .loose (ku y.shelf) e2 else if j=95 then .loose (jK y.runs) e3 else if j=86 then .none else o j)) (kS [some 600000500,some 600000600,some 600000700,some 600000900] (by simp only [go_sem,k5,k6,k7,ho4,kall]<;>and_intros<;>first|rfl|assumption|trivial) (fun j hj=>by by_cases e89:j=89<;>by_cases e94:j=94<;>by_cases e95:j=95<;>by_cases e86:j=86<;>simp only [go_sem,e89,e94,e95,e86,hj,if_true,if_false,jz hj 600000500 (by omega),jz hj 600000600 (by omega),jz hj 600000700 (by omega),jz hj 600000900 (by omega),jz hj 700000400 (by omega),k5,k6,k7,ho4,kall]) (by decide)) ?_
 refine qG 600000900 6 600090100 (d:=jy d.plan.edges) (η:=ed) (by simp only [go_sem]) (by simp only [go_sem]) (by decide) fun hx6=>?_
 refine WkK.of ?_;have m1:l.length+1≤maxLen:=by unfold maxLen;omega
 have m2:(l.length+1)*104≤140737488355328:=by omega
 simp only [go_sem,hx6];intro η22;refine jpS (fun ηR=>St.ofB [(0,Bx 89 b),(1,Ni m),(5,Bx 600000500 b5),(6,Bx 600000600 b6),(7,Hd 600000700 ηR),(8,Ni i),(9,Bx 600000900 b9)] [(600000500,ZYd b5 tYd),(600000600,.box b6 tYd [.a (.v (.int .i64 y.now)),.a (.v (.int .i64 y.seq)),.a (.hs 94 0 [] (e2 []) 1 0 y.shelf.length),.a (.hs 95 0 [] (e3 []) 8 0 y.runs.length)]),(600000700,.loose (.sl 11 tDd (l.flatMap jp++ddH d (ed []))) ηR),(600000900,DdRH b9 60 d (ed [])),(600090100,.loose (jy d.plan.edges) ed)] 600000000 (fun j=>if j=89 then qq b 146 c (qf c y u).2 else if j=94 then .loose (ku y.shelf) e2 else if j=95 then .loose (jK y.runs) e3 else if j=86 then .none else o j)) m1 m2 ?_ (fun ηR=>(kS [some 600000500,some 600000600,some 600002300,some 600000900,some 600090100] (by simp only [go_sem]<;>and_intros<;>first|rfl|assumption|trivial) (fun j hj=>by by_cases e89:j=89<;>by_cases e94:j=94<;>by_cases e95:j=95<;>by_cases e86:j=86<;>simp only [go_sem,e89,e94,e95,e86,hj,if_true,if_false,jz hj 600000500 (by omega),jz hj 600000600 (by omega),jz hj 600002300 (by omega),jz hj 600000900 (by omega),jz hj 600090100 (by omega),jz hj 600000700 (by omega),jz hj 600002200 (by omega)]) (by decide))) (fun ηR=>(kS [some 600000500,some 600000600,some 600002300,some 600000900,some 600090100] (by simp only [go_sem]<;>and_intros<;>first|rfl|assumption|trivial) (fun j hj=>by by_cases e89:j=89<;>by_cases e94:j=94<;>by_cases e95:j=95<;>by_cases e86:j=86<;>simp only [go_sem,e89,e94,e95,e86,hj,if_true,if_false,jz hj 600000500 (by omega),jz hj 600000600 (by omega),jz hj 600002300 (by omega),jz hj 600000900 (by omega),jz hj 600090100 (by omega),jz hj 600000700 (by omega),jz hj 600002200 (by omega)]) (by decide))) ?_
 ·simp only [jjl _ hx6,jjm];rfl
 intro ηR;refine ja2 600000600 2 94 (d:=ku y.shelf) (η:=e2) rfl rfl rfl rfl (jas _).symm rfl (Nat.zero_lt_succ 0) ?_;refine ja2 600000600 3 95 (d:=jK y.runs) (η:=e3) rfl rfl rfl rfl (vf _).symm rfl (Nat.zero_lt_succ 7) ?_;refine qN 600000900 6 600090100 (d:=jy d.plan.edges) (η:=ed) rfl rfl rfl ?_;generalize hdR:D.sl 11 tDd (l.flatMap jp++ddH d (ed []))=dR;refine WkK.wk (s':=St.ofB [(0,Bx 89 b),(1,Ni m),(5,Bx 600000500 b5),(6,Bx 600000600 b6),(7,Hd 600000700 ηR),(8,Ni i),(9,Bx 600000900 b9)] [(600000500,ZYd b5 tYd),(600000600,kq b6 tYd y.now y.seq y.shelf e2 y.runs e3),(600000700,.loose dR ηR),(600000900,DdR b9 60 d ed)] 600000000 (fun j=>if j=89 then qq b 146 c (qf c y u).2 else if j=94 then .none else if j=95 then .none else if j=86 then .none else o j)) (kS [some 600000500,some 600000600,some 600000700,some 600000900] (by simp only [go_sem]<;>and_intros<;>first|rfl|assumption|trivial) (fun j hj=>by by_cases e89:j=89<;>by_cases e94:j=94<;>by_cases e95:j=95<;>by_cases e86:j=86<;>simp only [go_sem,e89,e94,e95,e86,hj,if_true,if_false,jz hj 600000500 (by omega),jz hj 600000600 (by omega),jz hj 600000700 (by omega),jz hj 600000900 (by omega),jz hj 600090100 (by omega)]) (by decide)) ?_
 refine WkK.of ?_;simp only [go_sem];refine jc (jtY y d (by omega) (by simp only [jhM,jhL];omega)) (by simp only [go_sem,jb,jp,ja,jgJ]) fun ηo=>?_
 simp only [go_sem,jb,jp,ja,jgJ];generalize hy':doY y d=y' at*;refine kY ?_;subst hdR;refine WkK.wk (s':=St.ofB [(0,Bx 89 b),(1,Ni m),(5,Bx 600000500 b5),(6,Bx 600000600 b6),(7,Hd 600000700 ηR),(8,Ni i)] [(600000500,ZYd b5 tYd),(600000600,kq b6 tYd y'.now y'.seq y'.shelf (ηo 2) y'.runs (ηo 3)),(600000700,.loose (.sl 11 tDd (l.flatMap jp++ddH d (ed []))) ηR),(600000900,DdR b9 60 d ed)] 600000000 (fun j=>if j=89 then qq b 146 c (qf c y u).2 else if j=94 then .none else if j=95 then .none else if j=86 then .none else o j)) (kS [some 600000500,some 600000600,some 600000700,some 600000900] (by simp only [go_sem,jb,jgJ]<;>and_intros<;>first|rfl|assumption|trivial) (fun j hj=>by by_cases e89:j=89<;>by_cases e94:j=94<;>by_cases e95:j=95<;>by_cases e86:j=86<;>simp only [go_sem,e89,e94,e95,e86,hj,if_true,if_false,jz hj 600000500 (by omega),jz hj 600000600 (by omega),jz hj 600000700 (by omega),jz hj 600000900 (by omega),jz hj 600002702 (by omega),jz hj 600002703 (by omega),jb,jgJ]) (by decide)) ?_
 refine qG 600000900 6 600090100 (d:=jy d.plan.edges) (η:=ed) (by simp only [go_sem]) (by simp only [go_sem]) (by decide) fun _=>?_
 refine qx 600000700 0 (l.length*11+6) 600090100 (η:=ηR) (η2:=ed) (cs:=d.plan.edges.flatMap jO) rfl (jBM _ _ 6) (.inr rfl) rfl (by decide) fun ηA hηA=>?_
 rw [jzB];refine WkK.of ?_;have hsn:D.sl 11 tDd (l.flatMap jp++(ddH d (ed [])).set 6 (.sl 2 tEd (d.plan.edges.flatMap jO)))=jdQ (l++[d]):=ju0 l d;have hw:IntKind.i64.wrap ((i:Int)+1)=((i+1:Nat):Int):=jf (by omega) (by omega)
 simp only [go_sem,hw];exact ⟨((i+1,(l++[d],y',(qf c y u).2)),ηA,ηo 2,ηo 3),⟨by dsimp only;omega,hDn,by rw [show m-(i+1)=f by omega];exact hXi⟩,(kS [some 600000500,some 600000600,some 600000700] (by simp only [go_sem,hw,hsn,hηA]<;>and_intros<;>first|rfl|assumption|trivial) (fun j hj=>by by_cases e89:j=89<;>by_cases e94:j=94<;>by_cases e95:j=95<;>by_cases e86:j=86<;>simp only [go_sem,e89,e94,e95,e86,hj,if_true,if_false,jz hj 600000500 (by omega),jz hj 600000600 (by omega),jz hj 600000700 (by omega),jz hj 600000900 (by omega),jz hj 600090100 (by omega),hw,hsn,hηA]) (by decide)),by (try dsimp only);omega⟩
def jyX (h:Int) (u:UInt8):Int:=jrk (IntKind.i64.wrap (IntKind.i64.wrap (IntKind.i64.wrap (h*131)+(u.toNat:Int))+7)) 1073741823
theorem jBd (c:List UInt8):jCa c=(c.take 4000).foldl jyX (94701+(c.length:Int)):=rfl
theorem juE {α β:Type} {f:β→α→β} {l:List α} {k:Nat} {x:α} (h:l[k]?=some x) (a:β):(l.take (k+1)).foldl f a=f ((l.take k).foldl f a) x:=by
 rw [List.take_add_one,h,List.foldl_append];rfl
theorem jzk (c:List UInt8) (hc:c.length≤1048576) (o:Nat→Ob):Inl Tryz.prog 58 [.c (.ro (jaY c))] o fun av o2=>∃b,av=Bx 800003100 b∧o2 800003100=qq b 146 c (jsP c)∧∀g,g<800000000→o2 g=o g:=by
 refine qn (β:=8000000) Tryz.func58 jh0 (by simp) ?_
 unfold jfW;have hw:IntKind.i64.wrap (94701+(c.length:Int))=94701+(c.length:Int):=jf (by omega) (by omega)
 simp only [go_sem,jat,hw];refine jn (fun i:Nat=>St.ofB [(0,.c (.ro (jaY c))),(3,Ni ((c.take i).foldl jyX (94701+(c.length:Int)))),(4,Ni i)] [] 800000000 (fun j=>o j)) (fun i=>i≤c.length∧i≤4000) (fun i=>c.length-i) 0 (⟨Nat.zero_le _,Nat.zero_le _⟩) (kS [] (by simp only [go_sem,hw,List.take_zero,List.foldl_nil]<;>and_intros<;>first|rfl|assumption|trivial) (fun j hj=>by simp only [go_sem,hj,if_true,if_false,hw,List.take_zero,List.foldl_nil]) (by decide)) ?_
 rintro k ⟨hk,hk4⟩;by_cases hlt:k<c.length;rotate_left
 ·have hlt':¬(k:Int)<(c.length:Int):=by omega
  have hf:(c.take k).foldl jyX (94701+(c.length:Int))=jCa c:=by
   rw [jBd,List.take_of_length_le (by omega),List.take_of_length_le (by omega)]
  rw [hf];simp only [go_sem,jat,hlt']
  exact fun b=>⟨b,rfl,rfl,fun g hg=>by
   have hg':¬g=800003100:=by omega
   simp only [hg',hg,if_true,if_false]⟩
 have hlt':(k:Int)<(c.length:Int):=by omega
 have h0k:(k:Int)≥0:=by omega
 by_cases hl4:k<4000;rotate_left
 ·have hl4':¬(k:Int)<4000:=by omega
  have hf:(c.take k).foldl jyX (94701+(c.length:Int))=jCa c:=by
   rw [show k=4000 by omega,jBd]
  rw [hf];simp only [go_sem,jat,hlt',hl4']
  exact fun b=>⟨b,rfl,rfl,fun g hg=>by
   have hg':¬g=800003100:=by omega
   simp only [hg',hg,if_true,if_false]⟩
 have hl4':(k:Int)<4000:=by omega
 obtain ⟨u,hu⟩:=je hlt;have hst:=juE (f:=jyX) hu (94701+(c.length:Int));have hwk:IntKind.i64.wrap ((k:Int)+1)=((k+1:Nat):Int):=jf (by omega) (by omega)
 simp only [go_sem,jat,hlt',hl4',hlt,h0k,jlg hu,jxS];exact ⟨k+1,by (try dsimp only);first|omega|assumption|(and_intros<;>first|omega|assumption),(kS [] (by simp only [go_sem,hwk,hst,jyX]<;>and_intros<;>first|rfl|assumption|trivial) (fun j hj=>by simp only [go_sem,hj,if_true,if_false,hwk,hst,jyX]) (by decide)),by (try dsimp only);omega⟩
def jdR:C:=iS [iA 2 (.alloc 27 [.int .i64 0,.int .i64 0,.slice none 0 0,.slice none 0 0])] (iS [iA 6 (iM 0),iA 7 (iM 0),iA 8 (.call 60 [.t 7,.c (.int .i64 26)]),iA 9 (.call 89 [.t 6,.t 8]),iA 5 (iM 9),iA 10 (iE 5 0),iA 11 (iE 5 1),iA 4 (.alloc 27 [.int .i64 0,.int .i64 0,.slice none 0 0,.slice none 0 0]),iA 3 (iM 10),iC (.st 4 [none,none,some (1,35),some (8,52)] (.t 4) (.t 11))] (iS [iA 12 (iT 4 4),iC (.st 4 [none,none,some (1,35),some (8,52)] (.t 2) (.t 12))] .ret))
theorem jgK:fnC Tryz.prog Tryz.f57=some (jdR,[.cell 2 true 4],13):=by kernel_rfl
theorem jwB (c:List UInt8) (hc:c.length≤1048576) (s:Cu) (b:Nat) (o:Nat→Ob) (hs:s.1≤c.length) (ho:o 89=qq b 146 c s) (h86:o 86=.none) (h94:o 94=.none) (h95:o 95=.none):
 Inl Tryz.prog 57 [Bx 89 b] o fun av o2=>∃(e2 e3:js) (b2:Nat),av=.agg [.v (.int .i64 (jhW c s).1.now),.v (.int .i64 (jhW c s).1.seq),.h 500000200 2 [] (e2 []),.h 500000200 3 [] (e3 [])]∧
  o2 500000200=kq b2 tYd (jhW c s).1.now (jhW c s).1.seq (jhW c s).1.shelf e2 (jhW c s).1.runs e3∧∀g,g<500000000→g≠89→o2 g=o g:=by
 refine qn (β:=5000000) Tryz.func57 jgK (by simp) ?_
 unfold jdR;simp only [go_sem];intro b2;refine kh (kz c hc 26 s b _ hs (by simp only [go_sem,ho])) (by simp only [go_sem]) ?_
 have s1:=ju (n:=26) hs;have x1:=jR c (n:=26) s (by omega)
 have hY:jhW c s=(vz c (jr c 26 s).1.toNat ([],newYd,(jr c 26 s).2)).2:=rfl;generalize hq1:jr c 26 s=q1 at*;obtain ⟨m,hm⟩:∃m:Nat,q1.1=(m:Int):=⟨q1.1.toNat,by omega⟩
 rw [show q1.1.toNat=m by omega] at hY
 simp only [go_sem,hm];refine kN (by simp only [go_sem]) (juw c hc m (by omega) q1.2 b _ s1 (by simp only [go_sem]) (by simp only [go_sem,h86]) (by simp only [go_sem,h94]) (by simp only [go_sem,h95])) fun av o' ⟨e,e2,e3,b5,hav,hl,hy,o2,hk⟩=>?_
 subst hav;have k2:=hk 500000200 (by decide) (by decide)
 simp only [go_sem] at k2;generalize hX:vz c m ([],newYd,q1.2)=X at*;simp only [go_sem,k2,hy];refine fun b1=>⟨e2,e3,b2,by rw [hY],by rw [hY],fun g g1 g2=>?_⟩
 simp only [jz g1 500000200 (by omega),jz g1 500000400 (by omega),jz g1 600000500 (by omega),if_false]
 rw [hk g (by omega) g2]
 simp only [go_sem,g2,jz g1 500000200 (by omega),if_false]
def jcS:C:=iS [iA 2 (.alloc 27 [.int .i64 0,.int .i64 0,.slice none 0 0,.slice none 0 0])] (iS [iA 3 (iM 0),iA 4 (.call 58 [.t 3]),iA 5 (.call 57 [.t 4]),iC (.st 4 [none,none,some (1,35),some (8,52)] (.t 2) (.t 5))] .ret)
theorem jfF:fnC Tryz.prog Tryz.f12=some (jcS,[.cell 2 true 4],6):=by kernel_rfl
theorem jcr (c:List UInt8) (hc:c.length≤1048576):kj Tryz.prog 12 [.c (jaY c)] (.agg (jb (jhW c (jsP c)).1)):=by
 refine jq Tryz.func12 jfF (by simp) ?_
 unfold jcS;simp only [go_sem];intro b2;have hro:(jaY c).toRo=.ro (jaY c):=rfl;rw [hro];refine kN (by simp only [go_sem]) (jzk c hc _) fun av o' ⟨b,hav,ho,hk⟩=>?_
 subst hav;have k2:=hk 200 (by decide)
 simp only [go_sem] at k2;refine jan [some 800003100,some 200] [(89,qq b 146 c (jsP c)),(200,ZYd b2 tYd)] [Bx 89 b] (by simp only [go_sem]<;>and_intros<;>rfl) (by simp only [go_sem]<;>and_intros<;>first|rfl|(rw [ho];exact of_eq_true (jT _))|(rw [k2];exact of_eq_true (jT _))) (jwB c hc (jsP c) b _ (Nat.zero_le _) rfl rfl rfl rfl) ?_
 rintro av o2 ⟨e2,e3,b3,hav,ho2,hk2⟩;subst hav;have q2:=hk2 200 (by decide) (by decide)
 simp only [go_sem] at q2;generalize (jhW c (jsP c)).1=y at*;simp only [go_sem,q2,ho2,jb]
def jln:C:=iS [iA 2 (iO false)] (iS [iA 3 (iM 0),iA 4 (iG 3),iA 5 (iQ .gtr 3 4 1048576),iA 2 (iM 5)] .ret)
theorem jmA:fnC Tryz.prog Tryz.f11=some (jln,[.t 2],6):=by kernel_rfl
theorem jAZ (c:List UInt8):kj Tryz.prog 11 [.c (jaY c)] (.c (.val (.bool (decide ((1048576:Int)<(c.length:Int)))))):=by
 refine jq Tryz.func11 jmA (by simp) ?_
 unfold jln;have hro:(jaY c).toRo=.ro (jaY c):=rfl;simp only [go_sem,hro,jat]
def jaS:C:=iS [iA 4 (iO false)] (.seq (iS [iA 6 (iM 0),iA 7 (iG 6),iA 8 (iM 1),iA 9 (iG 8),iA 10 (iP .neq 3 7 9)] (iD 10 (iS [iA 4 (iO false)] .ret) .skip)) (.seq (iS [iA 5 (iN 0)] (.blk 0 (.loop (.seq (iS [iA 11 (iM 5),iA 12 (iM 0),iA 13 (iG 12),iA 14 (iP .lss 3 11 13)] (iD 14 .skip (.exit 0))) (.seq (.blk 1 (.seq (.dreg (T.pure 0 (iA 17 (iM 0)) (T.pure 1 (iA 18 (iM 5)) (T.pure 2 (iA 19 (iI 4 17 18)) (T.pure 3 (iA 20 (iT 4 19)) (T.pure 4 (iA 21 (iM 1)) (T.pure 5 (iA 22 (iM 5)) (T.pure 6 (iA 23 (iI 4 21 22)) (T.pure 7 (iA 24 (iT 4 23)) (T.pure 8 (iA 25 (iP .neq 44 20 24)) T.done)))))))))) (iD 25 (iS [iA 4 (iO false)] .ret) .skip))) (.reg [iA 15 (iM 5),iA 16 (iQ .add 3 15 1),iA 5 (iM 16)])))))) (iS [iA 4 (iO true)] .ret)))
theorem jcH:fnC Tryz.prog Tryz.f136=some (jaS,[.t 4],26):=by kernel_rfl
theorem jtZ (xs:List En) (hl:xs.length≤2000000):kj Tryz.prog 136 [.c (jm xs),.c (jm xs)] (.c (.val (.bool true))):=by
 refine jq Tryz.func136 jcH (by simp) ?_
 unfold jaS;simp only [go_sem,jne,jdj,bne_self_eq_false];refine jn (fun i:Nat=>St.of [(0,.c (.ro (jm xs))),(1,.c (.ro (jm xs))),(5,Ni i)] []) (fun i=>i≤xs.length) (fun i=>xs.length-i) 0 ((Nat.zero_le _)) (jg [] (by simp only [go_sem]<;>and_intros<;>first|rfl|assumption|trivial)) ?_
 rintro k hk;by_cases hlt:k<xs.length;rotate_left
 ·have hlt':¬(k:Int)<(xs.length:Int):=by omega
  simp only [go_sem,hlt',jdj]
 have hlt':(k:Int)<(xs.length:Int):=by omega
 obtain ⟨x,hx⟩:=je hlt;have hw:IntKind.i64.wrap ((k:Int)+1)=((k+1:Nat):Int):=jf (by omega) (by omega)
 simp only [go_sem,hlt',hlt,jI hx,jdj,jk,bne_self_eq_false,hw];exact ⟨k+1,by (try dsimp only);first|omega|assumption|(and_intros<;>first|omega|assumption),(jg [] (by simp only [go_sem,hw]<;>and_intros<;>first|rfl|assumption|trivial)),by (try dsimp only);omega⟩
def jb1:C:=iS [iA 4 (iO false)] (.seq (iS [iA 6 (iM 0),iA 7 (iG 6),iA 8 (iM 1),iA 9 (iG 8),iA 10 (iP .neq 3 7 9)] (iD 10 (iS [iA 4 (iO false)] .ret) .skip)) (.seq (iS [iA 5 (iN 0)] (.blk 0 (.loop (.seq (iS [iA 11 (iM 5),iA 12 (iM 0),iA 13 (iG 12),iA 14 (iP .lss 3 11 13)] (iD 14 .skip (.exit 0))) (.seq (.blk 1 (.seq (.dreg (T.pure 0 (iA 17 (iM 0)) (T.pure 1 (iA 18 (iM 5)) (T.pure 2 (iA 19 (iI 2 17 18)) (T.pure 3 (iA 20 (iT 2 19)) (T.pure 4 (iA 21 (iM 1)) (T.pure 5 (iA 22 (iM 5)) (T.pure 6 (iA 23 (iI 2 21 22)) (T.pure 7 (iA 24 (iT 2 23)) (T.pure 8 (iA 25 (iP .neq 161 20 24)) T.done)))))))))) (iD 25 (iS [iA 4 (iO false)] .ret) .skip))) (.reg [iA 15 (iM 5),iA 16 (iQ .add 3 15 1),iA 5 (iM 16)])))))) (iS [iA 4 (iO true)] .ret)))
theorem jeQ:fnC Tryz.prog Tryz.f198=some (jb1,[.t 4],26):=by kernel_rfl
theorem jnz (xs:List Ed) (hl:xs.length≤2000000):kj Tryz.prog 198 [.c (jy xs),.c (jy xs)] (.c (.val (.bool true))):=by
 refine jq Tryz.func198 jeQ (by simp) ?_
 unfold jb1;have hro:(jy xs).toRo=.ro (jy xs):=rfl;simp only [go_sem,hro,jdk,bne_self_eq_false];refine jn (fun i:Nat=>St.of [(0,.c (.ro (jy xs))),(1,.c (.ro (jy xs))),(5,Ni i)] []) (fun i=>i≤xs.length) (fun i=>xs.length-i) 0 ((Nat.zero_le _)) (jg [] (by simp only [go_sem]<;>and_intros<;>first|rfl|assumption|trivial)) ?_
 rintro k hk;by_cases hlt:k<xs.length;rotate_left
 ·have hlt':¬(k:Int)<(xs.length:Int):=by omega
  simp only [go_sem,hlt',jdk]
 have hlt':(k:Int)<(xs.length:Int):=by omega
 obtain ⟨x,hx⟩:=je hlt;have hw:IntKind.i64.wrap ((k:Int)+1)=((k+1:Nat):Int):=jf (by omega) (by omega)
 simp only [go_sem,hlt',hlt,jx hx,jdk,jO,bne_self_eq_false,hw];exact ⟨k+1,by (try dsimp only);first|omega|assumption|(and_intros<;>first|omega|assumption),(jg [] (by simp only [go_sem,hw]<;>and_intros<;>first|rfl|assumption|trivial)),by (try dsimp only);omega⟩
def jbZ:C:=iS [iA 4 (iO false)] (.seq (iS [iA 6 (iM 0),iA 7 (iG 6),iA 8 (iM 1),iA 9 (iG 8),iA 10 (iP .neq 3 7 9)] (iD 10 (iS [iA 4 (iO false)] .ret) .skip)) (.seq (iS [iA 5 (iN 0)] (.blk 0 (.loop (.seq (iS [iA 11 (iM 5),iA 12 (iM 0),iA 13 (iG 12),iA 14 (iP .lss 3 11 13)] (iD 14 .skip (.exit 0))) (.seq (.blk 1 (.seq (.dreg (T.pure 0 (iA 17 (iM 0)) (T.pure 1 (iA 18 (iM 5)) (T.pure 2 (iA 19 (iI 4 17 18)) (T.pure 3 (iA 20 (iT 4 19)) (T.pure 4 (iA 21 (iM 1)) (T.pure 5 (iA 22 (iM 5)) (T.pure 6 (iA 23 (iI 4 21 22)) (T.pure 7 (iA 24 (iT 4 23)) (T.pure 8 (iA 25 (iP .neq 46 20 24)) T.done)))))))))) (iD 25 (iS [iA 4 (iO false)] .ret) .skip))) (.reg [iA 15 (iM 5),iA 16 (iQ .add 3 15 1),iA 5 (iM 16)])))))) (iS [iA 4 (iO true)] .ret)))
theorem jeO:fnC Tryz.prog Tryz.f182=some (jbZ,[.t 4],26):=by kernel_rfl
theorem jnx (xs:List Tk) (hl:xs.length≤2000000):kj Tryz.prog 182 [.c (jB xs),.c (jB xs)] (.c (.val (.bool true))):=by
 refine jq Tryz.func182 jeO (by simp) ?_
 unfold jbZ;have hro:(jB xs).toRo=.ro (jB xs):=rfl;simp only [go_sem,hro,jdi,bne_self_eq_false];refine jn (fun i:Nat=>St.of [(0,.c (.ro (jB xs))),(1,.c (.ro (jB xs))),(5,Ni i)] []) (fun i=>i≤xs.length) (fun i=>xs.length-i) 0 ((Nat.zero_le _)) (jg [] (by simp only [go_sem]<;>and_intros<;>first|rfl|assumption|trivial)) ?_
 rintro k hk;by_cases hlt:k<xs.length;rotate_left
 ·have hlt':¬(k:Int)<(xs.length:Int):=by omega
  simp only [go_sem,hlt',jdi]
 have hlt':(k:Int)<(xs.length:Int):=by omega
 obtain ⟨x,hx⟩:=je hlt;have hw:IntKind.i64.wrap ((k:Int)+1)=((k+1:Nat):Int):=jf (by omega) (by omega)
 simp only [go_sem,hlt',hlt,jQ hx,jdi,jo,bne_self_eq_false,hw];exact ⟨k+1,by (try dsimp only);first|omega|assumption|(and_intros<;>first|omega|assumption),(jg [] (by simp only [go_sem,hw]<;>and_intros<;>first|rfl|assumption|trivial)),by (try dsimp only);omega⟩
def jcX:C:=iS [iA 2 (.box 49 5 (.t 0)),iA 3 (.box 49 5 (.t 1)),iA 4 (iO false)] (iS [iA 5 (iF 0 2),iA 6 (iL 5),iA 7 (iF 0 3),iA 8 (iL 7),iA 9 (iP .eql 3 6 8),iA 10 (iM 9),iB 11 10 true (iF 1 2),iB 12 10 true (iL 11),iB 13 10 true (iF 1 3),iB 14 10 true (iL 13),iB 15 10 true (iP .eql 3 12 14),iA 16 (.pick (.t 10) (.t 15) (.c (.bool false))),iA 17 (iM 16),iB 18 17 true (iF 2 2),iB 19 17 true (iL 18),iB 20 17 true (iF 2 3),iB 21 17 true (iL 20),iB 22 17 true (iP .eql 3 19 21),iA 23 (.pick (.t 17) (.t 22) (.c (.bool false))),iA 24 (iM 23),iB 25 24 true (iF 3 2),iB 26 24 true (iL 25),iB 27 24 true (iF 3 3),iB 28 24 true (iL 27),iB 29 24 true (iP .eql 3 26 28),iA 30 (.pick (.t 24) (.t 29) (.c (.bool false))),iA 31 (iM 30),iB 32 31 true (iF 4 2),iB 33 31 true (iL 32),iB 34 31 true (iF 4 3),iB 35 31 true (iL 34),iB 36 31 true (.call 198 [.t 33,.t 35]),iA 37 (.pick (.t 31) (.t 36) (.c (.bool false))),iA 4 (iM 37)] .ret)
theorem jfK:fnC Tryz.prog Tryz.f181=some (jcX,[.t 4],38):=by kernel_rfl
theorem jpd (p:Pl) (hl:p.edges.length≤2000000):kj Tryz.prog 181 [.agg (ja p),.agg (ja p)] (.c (.val (.bool true))):=by
 refine jq Tryz.func181 jfK (by simp) ?_
 unfold jcX;simp only [go_sem,ja,beq_self_eq_true];intro b2 b3;refine jc (jnz p.edges hl) (by simp only [go_sem,ja]) fun η0=>?_
 simp only [go_sem,ja]
def jee:C:=iS [iA 2 (.box 52 8 (.t 0)),iA 3 (.box 52 8 (.t 1)),iA 4 (iO false)] (iS [iA 5 (iF 0 2),iA 6 (iL 5),iA 7 (iF 0 3),iA 8 (iL 7),iA 9 (iP .eql 3 6 8),iA 10 (iM 9),iB 11 10 true (iF 1 2),iB 12 10 true (iT 5 11),iB 13 10 true (iF 1 3),iB 14 10 true (iT 5 13),iB 15 10 true (.call 181 [.t 12,.t 14]),iA 16 (.pick (.t 10) (.t 15) (.c (.bool false))),iA 17 (iM 16),iB 18 17 true (iF 6 2),iB 19 17 true (iL 18),iB 20 17 true (iF 6 3),iB 21 17 true (iL 20),iB 22 17 true (iP .eql 3 19 21),iA 23 (.pick (.t 17) (.t 22) (.c (.bool false))),iA 24 (iM 23),iB 25 24 true (iF 7 2),iB 26 24 true (iL 25),iB 27 24 true (iF 7 3),iB 28 24 true (iL 27),iB 29 24 true (.call 182 [.t 26,.t 28]),iA 30 (.pick (.t 24) (.t 29) (.c (.bool false))),iA 4 (iM 30)] .ret)
theorem jg7:fnC Tryz.prog Tryz.f137=some (jee,[.t 4],31):=by kernel_rfl
theorem jrW (r:Rn) (he:r.plan.edges.length≤2000000) (ht:r.tasks.length≤2000000):kj Tryz.prog 137 [.agg (jd r),.agg (jd r)] (.c (.val (.bool true))):=by
 refine jq Tryz.func137 jg7 (by simp) ?_
 unfold jee;simp only [go_sem,jd,ja,beq_self_eq_true];intro b2 b3;refine jc (jpd r.plan he) (by simp only [go_sem,jd,ja]) fun η0=>?_
 simp only [go_sem,jd,ja];simp only [go_sem,beq_self_eq_true];refine jc (jnx r.tasks ht) (by simp only [go_sem,jd,ja]) fun η1=>?_
 simp only [go_sem,jd,ja]
def jcW:C:=iS [iA 4 (iO false)] (.seq (iS [iA 6 (iM 0),iA 7 (iG 6),iA 8 (iM 1),iA 9 (iG 8),iA 10 (iP .neq 3 7 9)] (iD 10 (iS [iA 4 (iO false)] .ret) .skip)) (.seq (iS [iA 5 (iN 0)] (.blk 0 (.loop (.seq (iS [iA 11 (iM 5),iA 12 (iM 0),iA 13 (iG 12),iA 14 (iP .lss 3 11 13)] (iD 14 .skip (.exit 0))) (.seq (.blk 1 (.seq (.dreg (T.pure 0 (iA 17 (iM 0)) (T.pure 1 (iA 18 (iM 5)) (T.pure 2 (iA 19 (iI 8 17 18)) (T.pure 3 (iA 20 (iT 8 19)) (T.pure 4 (iA 21 (iM 1)) (T.pure 5 (iA 22 (iM 5)) (T.pure 6 (iA 23 (iI 8 21 22)) (T.pure 7 (iA 24 (iT 8 23)) (T.alt (iA 25 (.call 137 [.t 20,.t 24])) [] (T.pure 9 (iA 26 (iU 25)) T.done) T.stop)))))))))) (iD 26 (iS [iA 4 (iO false)] .ret) .skip))) (.reg [iA 15 (iM 5),iA 16 (iQ .add 3 15 1),iA 5 (iM 16)])))))) (iS [iA 4 (iO true)] .ret)))
theorem jfJ:fnC Tryz.prog Tryz.f77=some (jcW,[.t 4],27):=by kernel_rfl
theorem jpc (xs:List Rn) (ht:ja5 xs≤2000000):kj Tryz.prog 77 [.c (jK xs),.c (jK xs)] (.c (.val (.bool true))):=by
 refine jq Tryz.func77 jfJ (by simp) ?_
 unfold jcW;have hll:xs.length≤2000000:=Nat.le_trans (Nat.le_add_right _ _) ht;have hro:(jK xs).toRo=.ro (jK xs):=rfl;simp only [go_sem,hro,vf,bne_self_eq_false];refine jn (fun i:Nat=>St.of [(0,.c (.ro (jK xs))),(1,.c (.ro (jK xs))),(5,Ni i)] []) (fun i=>i≤xs.length) (fun i=>xs.length-i) 0 ((Nat.zero_le _)) (jg [] (by simp only [go_sem]<;>and_intros<;>first|rfl|assumption|trivial)) ?_
 rintro k hk;by_cases hlt:k<xs.length;rotate_left
 ·have hlt':¬(k:Int)<(xs.length:Int):=by omega
  simp only [go_sem,hlt',vf]
 have hlt':(k:Int)<(xs.length:Int):=by omega
 obtain ⟨x,hx⟩:=je hlt;have hw:IntKind.i64.wrap ((k:Int)+1)=((k+1:Nat):Int):=jf (by omega) (by omega)
 have hx2:qO x≤2000000:=by
  have h1:=vS (tot:=qO) hx;have h2:=jal qO xs (k+1);simp only [ja5] at ht;omega
 simp only [go_sem,hlt',hlt,jV hx,vf,jd,ja];refine jc (jrW x (by simp only [qO,jhL] at hx2;omega) (by simp only [qO,jhL] at hx2;omega)) (by simp only [go_sem,jd,ja]) fun η0=>?_
 simp only [go_sem,jd,ja];simp only [go_sem,hw];exact ⟨k+1,by (try dsimp only);first|omega|assumption|(and_intros<;>first|omega|assumption),(jg [] (by simp only [go_sem,hw]<;>and_intros<;>first|rfl|assumption|trivial)),by (try dsimp only);omega⟩
def jb0:C:=iS [iA 4 (iO false)] (.seq (iS [iA 6 (iM 0),iA 7 (iG 6),iA 8 (iM 1),iA 9 (iG 8),iA 10 (iP .neq 3 7 9)] (iD 10 (iS [iA 4 (iO false)] .ret) .skip)) (.seq (iS [iA 5 (iN 0)] (.blk 0 (.loop (.seq (iS [iA 11 (iM 5),iA 12 (iM 0),iA 13 (iG 12),iA 14 (iP .lss 3 11 13)] (iD 14 .skip (.exit 0))) (.seq (.blk 1 (.seq (.dreg (T.pure 0 (iA 17 (iM 0)) (T.pure 1 (iA 18 (iM 5)) (T.pure 2 (iA 19 (iI 1 17 18)) (T.pure 3 (iA 20 (iL 19)) (T.pure 4 (iA 21 (iM 1)) (T.pure 5 (iA 22 (iM 5)) (T.pure 6 (iA 23 (iI 1 21 22)) (T.pure 7 (iA 24 (iL 23)) (T.alt (iA 25 (.call 136 [.t 20,.t 24])) [] (T.pure 9 (iA 26 (iU 25)) T.done) T.stop)))))))))) (iD 26 (iS [iA 4 (iO false)] .ret) .skip))) (.reg [iA 15 (iM 5),iA 16 (iQ .add 3 15 1),iA 5 (iM 16)])))))) (iS [iA 4 (iO true)] .ret)))
theorem jeP:fnC Tryz.prog Tryz.f76=some (jb0,[.t 4],27):=by kernel_rfl
theorem jny (xs:List (List En)) (ht:jbv xs≤2000000):kj Tryz.prog 76 [.c (ku xs),.c (ku xs)] (.c (.val (.bool true))):=by
 refine jq Tryz.func76 jeP (by simp) ?_
 unfold jb0;have hll:xs.length≤2000000:=Nat.le_trans (Nat.le_add_right _ _) ht;have hro:(ku xs).toRo=.ro (ku xs):=rfl;simp only [go_sem,hro,jas,bne_self_eq_false];refine jn (fun i:Nat=>St.of [(0,.c (.ro (ku xs))),(1,.c (.ro (ku xs))),(5,Ni i)] []) (fun i=>i≤xs.length) (fun i=>xs.length-i) 0 ((Nat.zero_le _)) (jg [] (by simp only [go_sem]<;>and_intros<;>first|rfl|assumption|trivial)) ?_
 rintro k hk;by_cases hlt:k<xs.length;rotate_left
 ·have hlt':¬(k:Int)<(xs.length:Int):=by omega
  simp only [go_sem,hlt',jas]
 have hlt':(k:Int)<(xs.length:Int):=by omega
 obtain ⟨x,hx⟩:=je hlt;have hw:IntKind.i64.wrap ((k:Int)+1)=((k+1:Nat):Int):=jf (by omega) (by omega)
 have hx2:zW x≤2000000:=by
  have h1:=vS (tot:=zW) hx;have h2:=jal zW xs (k+1);simp only [jbv] at ht;omega
 simp only [go_sem,hlt',hlt,kO hx,jas];refine jc (jtZ x (by simp only [zW] at hx2;omega)) (by simp only [go_sem]) fun η0=>?_
 simp only [go_sem];simp only [go_sem,hw];exact ⟨k+1,by (try dsimp only);first|omega|assumption|(and_intros<;>first|omega|assumption),(jg [] (by simp only [go_sem,hw]<;>and_intros<;>first|rfl|assumption|trivial)),by (try dsimp only);omega⟩
def jcV:C:=iS [iA 2 (.box 27 4 (.t 0)),iA 3 (.box 27 4 (.t 1)),iA 4 (iO false)] (iS [iA 5 (iF 0 2),iA 6 (iL 5),iA 7 (iF 0 3),iA 8 (iL 7),iA 9 (iP .eql 3 6 8),iA 10 (iM 9),iB 11 10 true (iF 1 2),iB 12 10 true (iL 11),iB 13 10 true (iF 1 3),iB 14 10 true (iL 13),iB 15 10 true (iP .eql 3 12 14),iA 16 (.pick (.t 10) (.t 15) (.c (.bool false))),iA 17 (iM 16),iB 18 17 true (iF 2 2),iB 19 17 true (iL 18),iB 20 17 true (iF 2 3),iB 21 17 true (iL 20),iB 22 17 true (.call 76 [.t 19,.t 21]),iA 23 (.pick (.t 17) (.t 22) (.c (.bool false))),iA 24 (iM 23),iB 25 24 true (iF 3 2),iB 26 24 true (iL 25),iB 27 24 true (iF 3 3),iB 28 24 true (iL 27),iB 29 24 true (.call 77 [.t 26,.t 28]),iA 30 (.pick (.t 24) (.t 29) (.c (.bool false))),iA 4 (iM 30)] .ret)
theorem jfI:fnC Tryz.prog Tryz.f17=some (jcV,[.t 4],31):=by kernel_rfl
theorem jeC (y:Yd) (ht:jJ y≤2000000):kj Tryz.prog 17 [.agg (jb y),.agg (jb y)] (.c (.val (.bool true))):=by
 refine jq Tryz.func17 jfI (by simp) ?_
 unfold jcV;simp only [go_sem,jb,beq_self_eq_true];intro b2 b3;refine jc (jny y.shelf (by simp only [jJ] at ht;omega)) (by simp only [go_sem,jb]) fun η0=>?_
 simp only [go_sem,jb];refine jc (jpc y.runs (by simp only [jJ] at ht;omega)) (by simp only [go_sem,jb]) fun η1=>?_
 simp only [go_sem,jb]
def jpV (y:Yd):Prop:=∀(k t:Nat) (r:Rn) (x:Tk),y.runs[k]?=some r→r.tasks[t]?=some x→x.state≠3
theorem ji9 (z:Yd) (k:Nat):∀t,SubR z (restT z k t)
 |0=>.refl z
 |t+1=>(ji9 z k t).trans (.failK _ _ _)
theorem jja (y:Yd):∀k,SubR y (restR y k)
 |0=>.refl y
 |k+1=>(jja y k).trans (ji9 _ _ _)
theorem jnh {z:Yd} (h:YdI z) (k:Nat):∀(t i:Nat),i<t→∀(r:Rn) (x:Tk),(restT z k t).runs[k]?=some r→r.tasks[i]?=some x→x.state≠3
 |0,i,hi,_,_,_,_=>absurd hi (Nat.not_lt_zero _)
 |t+1,i,hi,r,x,hr,hx=>by
  by_cases e:i=t
  ·subst e;exact jof (h.restT k i) hr hx
  ·intro hs
   obtain ⟨r2,h1,_,_,h4⟩:=SubR.failK (restT z k t) k t k i r x hr hx hs;exact jnh h k t i (by omega) r2 x h1 h4 hs
theorem jnj {y:Yd} (h:YdI y):∀(n k:Nat),k<n→∀(i:Nat) (r:Rn) (x:Tk),(restR y n).runs[k]?=some r→r.tasks[i]?=some x→x.state≠3
 |0,k,hk,_,_,_,_,_=>absurd hk (Nat.not_lt_zero _)
 |n+1,k,hk,i,r,x,hr,hx=>by
  intro hs;by_cases e:k=n
  ·subst e
   obtain ⟨r2,h1,_,_,h4⟩:=jja y (k+1) k i r x hr hx hs;refine jnh (h.restR k) k _ i ?_ r x hr hx hs;rw [h1,Option.getD_some];exact (List.getElem?_eq_some_iff.1 h4).1
  ·obtain ⟨r2,h1,_,_,h4⟩:=ji9 (restR y n) n _ k i r x hr hx hs
   exact jnj h n k (by omega) i r2 x h1 h4 hs
theorem jwc {y:Yd} (h:YdI y) (hq:y.seq≤1000000000):jpV (zG y):=by
 intro k t r x hr hx hs;rw [zG,if_pos (zu (h.ok hq))] at hr;obtain ⟨r2,h1,_,_,_⟩:=jja y _ k t r x hr hx hs;exact jnj h _ k (List.getElem?_eq_some_iff.1 h1).1 t r x hr hx hs
theorem jwQ {y:Yd} (h:jpV y) (k t:Nat):failK y k t=y:=by
 unfold Go.Proofs.YtcehjhiglmifjaaGreat.failK;split
 ·rename_i hs
  exfalso;cases hk:y.runs[k]? with
  |none=>rw [hk] at hs;simp [stT] at hs;cases hs
  |some r=>
   rw [hk,Option.getD_some] at hs;cases hx:r.tasks[t]? with
   |none=>
    have:stT r.tasks (t:Int)=0:=by simp only [stT,Int.toNat_natCast,hx,Option.getD_none];rfl
    rw [this] at hs;cases hs
   |some x=>rw [kw hx] at hs;exact h k t r x hk hx (by simpa using hs)
 ·rfl
theorem jqj {y:Yd} (h:jpV y) (k:Nat):∀t,restT y k t=y
 |0=>rfl
 |t+1=>by rw [restT,jqj h k t,jwQ h]
theorem jqk {y:Yd} (h:jpV y):∀k,restR y k=y
 |0=>rfl
 |k+1=>by rw [restR,jqk h k,jqj h]
theorem jyM {y:Yd} (h:jpV y):zG y=y:=by
 unfold zG;split
 ·exact jqk h _
 ·rfl
theorem js3 {y:Yd} (h:jpV y) {k:Nat} {r:Rn} (hr:y.runs[k]?=some r):qM 3 r.tasks=[]:=by
 refine List.eq_nil_iff_forall_not_mem.2 fun v hv=>?_
 obtain ⟨t,x,_,hx,hs⟩:=tinL_mem.1 hv;exact h k t r x hr hx hs
theorem jzy {y:Yd}:doY y ⟨8,0,plZ,0,0,0,0⟩=zG y:=by
 have hd:kf ⟨8,0,plZ,0,0,0,0⟩=true:=by decide
 unfold doY;rw [if_neg (by rw [hd];decide),if_neg (by decide),if_neg (by decide),if_neg (by decide),if_neg (by decide),if_neg (by decide),if_neg (by decide),if_neg (by decide)]
theorem jwb {y:Yd} (h:YdI y):(zG y).seq≤y.seq+2000:=by rw [←jzy];exact jtv h _
theorem jzx {y:Yd}:doY y ⟨5,0,plZ,0,0,0,0⟩=vE y:=by
 have hd:kf ⟨5,0,plZ,0,0,0,0⟩=true:=by decide
 unfold doY;rw [if_neg (by rw [hd];decide),if_neg (by decide),if_neg (by decide),if_neg (by decide),if_neg (by decide),if_pos rfl]
theorem jp0 {y:Yd} (h:YdI y):(vE y).seq≤y.seq+2000:=by rw [←jzx];exact jtv h _
noncomputable def dY (c:List UInt8):Yd:=(jhW c (jsP c)).1
theorem dY_I (c:List UInt8):YdI (dY c)∧(dY c).seq≤100000:=by
 have s1:=ju (c:=c) (n:=26) (s:=jsP c) (Nat.zero_le _);have x1:=jR c (n:=26) (jsP c) (by omega)
 have h:=jq4 (c:=c) (jr c 26 (jsP c)).1.toNat 0 (.start s1);refine ⟨h.yd,?_⟩;have:=h.seq;simp only [dY,jhW];omega
end Go.Proofs.YtcehjhiglmifjaaGreat
