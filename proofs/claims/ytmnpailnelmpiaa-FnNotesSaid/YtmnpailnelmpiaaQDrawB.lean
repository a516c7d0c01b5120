/- Parts. -/
import Derived.Test.YtmnpailnelmpiaaQKeepE
import Derived.Test.YtmnpailnelmpiaaQNumP
set_option linter.unusedSimpArgs false
set_option linter.unusedVariables false
set_option maxHeartbeats 8000000
set_option maxRecDepth 100000
namespace Go.Proofs.Ytmnpailnelmpiaa
open Go.RowKit Go.Sort
theorem jjg {l:List UInt8} {k:Nat} {u:UInt8} (h:l[k]?=some u):(zi l).elem k=[D.val (.int .u8 (u.toNat:Int))]:=by
 have h1:=(List.getElem?_eq_some_iff.1 h).1;simp only [zi,D.elem,D.cells,D.size,Nat.mul_one,←List.map_drop];rw [List.drop_eq_getElem_cons h1,(List.getElem?_eq_some_iff.1 h).2];rfl
def ku (b ty:Nat) (c:List UInt8) (s:Cu):Ob:=.box b ty [.a (.ro (zi c)),.a (.v (.int .i64 (s.1:Int))),.a (.v (.int .i64 s.2))]
def jem:C:=iS [iA 2 (.mov (.c (.pointer none)))] (iS [iA 5 (iM 0),iA 6 (iG 5),iA 7 (.bin .add 3 (.c (.int .i64 94701)) (.t 6)),iA 3 (iM 7)] (.seq (iS [iA 4 (iN 0)] (.blk 0 (.loop (.seq (iS [iA 8 (iM 4),iA 9 (iM 0),iA 10 (iG 9),iA 11 (iP .lss 3 8 10),iA 12 (iM 11),iB 13 12 true (iM 4),iB 14 12 true (iQ .lss 3 13 4000),iA 15 (.pick (.t 12) (.t 14) (.c (.bool false)))] (iD 15 .skip (.exit 0))) (.seq (.blk 1 (.reg [iA 18 (iM 3),iA 19 (iQ .mul 3 18 131),iA 20 (iM 0),iA 21 (iM 4),iA 22 (iI 1 20 21),iA 23 (iL 22),iA 24 (.cv (.num .i64) 0 (.t 23)),iA 25 (iP .add 3 19 24),iA 26 (iQ .add 3 25 7),iA 27 (iQ .and 3 26 1073741823),iA 3 (iM 27)])) (.reg [iA 16 (iM 4),iA 17 (iQ .add 3 16 1),iA 4 (iM 17)])))))) (iS [iA 28 (iM 0),iA 29 (iM 3),iA 30 (.bld [.slice none 0 0,.int .i64 0,.int .i64 0] [(0,1,.t 28),(2,1,.t 29)]),iA 31 (.box 125 3 (.t 30)),iA 2 (iM 31)] .ret)))
theorem jgn:fnC Try.prog Try.f55=some (jem,[.t 2],32):=by kernel_rfl
def jcN:C:=iS [iA 2 (iN 0)] (iS [iA 4 (iM 0),iA 5 (iM 0),iA 6 (iF 0 5),iA 7 (iF 2 6),iA 8 (iL 7),iA 9 (iQ .mul 3 8 6364136223846793005),iA 10 (iQ .add 3 9 1442695040888963407),iA 11 (iF 0 4),iA 12 (iF 2 11),iC (.st 1 [none] (.t 12) (.t 10))] (.seq (.dreg (T.pure 0 (iA 13 (iM 0)) (T.pure 1 (iA 14 (iF 0 13)) (T.pure 2 (iA 15 (iF 2 14)) (T.pure 3 (iA 16 (iL 15)) (T.pure 4 (iA 17 (.bin .shr 3 (.t 16) (.c (.int .u64 33)))) (T.pure 5 (iA 18 (iM 0)) (T.pure 6 (iA 19 (iF 0 18)) (T.pure 7 (iA 20 (iF 2 19)) (T.pure 8 (iA 21 (iL 20)) (T.pure 9 (iA 22 (.bin .shr 3 (.t 21) (.c (.int .u64 45)))) (T.pure 10 (iA 23 (iP .xor 3 17 22)) (T.pure 11 (iA 24 (iQ .and 3 23 255)) (T.pure 12 (iA 3 (iM 24)) T.done)))))))))))))) (.seq (.seq (.dreg (T.pure 0 (iA 25 (iM 0)) (T.pure 1 (iA 26 (iF 0 25)) (T.pure 2 (iA 27 (iF 1 26)) (T.pure 3 (iA 28 (iL 27)) (T.pure 4 (iA 29 (iM 0)) (T.pure 5 (iA 30 (iF 0 29)) (T.pure 6 (iA 31 (iF 0 30)) (T.pure 7 (iA 32 (iL 31)) (T.pure 8 (iA 33 (iG 32)) (T.pure 9 (iA 34 (iP .lss 3 28 33)) T.done))))))))))) (iD 34 (.seq (.dreg (T.pure 0 (iA 35 (iM 3)) (T.pure 1 (iA 36 (iM 0)) (T.pure 2 (iA 37 (iF 0 36)) (T.pure 3 (iA 38 (iF 0 37)) (T.pure 4 (iA 39 (iL 38)) (T.pure 5 (iA 40 (iM 0)) (T.pure 6 (iA 41 (iF 0 40)) (T.pure 7 (iA 42 (iF 1 41)) (T.pure 8 (iA 43 (iL 42)) (T.pure 9 (iA 44 (iI 1 39 43)) (T.pure 10 (iA 45 (iL 44)) (T.pure 11 (iA 46 (.cv (.num .i64) 0 (.t 45))) (T.pure 12 (iA 47 (iP .add 3 35 46)) (T.pure 13 (iA 48 (iQ .and 3 47 255)) (T.pure 14 (iA 3 (iM 48)) T.done)))))))))))))))) (.reg [iA 49 (iM 0),iA 50 (iM 0),iA 51 (iF 0 50),iA 52 (iF 1 51),iA 53 (iL 52),iA 54 (iQ .add 3 53 1),iA 55 (iF 0 49),iA 56 (iF 1 55),iC (.st 1 [none] (.t 56) (.t 54))])) .skip)) (iS [iA 57 (iM 3),iA 2 (iM 57)] .ret))))
theorem jfl:fnC Try.prog Try.f57=some (jcN,[.t 2],58):=by kernel_rfl
def jbE:C:=iS [iA 4 (iN 0)] (.seq (iS [iA 9 (iM 1),iA 10 (iQ .leq 3 9 0)] (iD 10 (iS [iA 4 (iN 0)] .ret) .skip)) (.seq (iS [iA 11 (iM 1),iA 12 (iQ .leq 3 11 256)] (iD 12 (iS [iA 13 (iM 0),iA 14 (.call 57 [.t 13]),iA 15 (iM 1),iA 16 (iP .rem 3 14 15),iA 4 (iM 16)] .ret) .skip)) (iS [iA 17 (iM 0),iA 18 (.call 57 [.t 17]),iA 5 (iM 18)] (iS [iA 19 (iM 0),iA 20 (.call 57 [.t 19]),iA 6 (iM 20)] (iS [iA 21 (iM 0),iA 22 (.call 57 [.t 21]),iA 7 (iM 22)] (iS [iA 23 (iM 0),iA 24 (.call 57 [.t 23]),iA 8 (iM 24)] (iS [iA 25 (iM 5),iA 26 (iQ .mul 3 25 16777216),iA 27 (iM 6),iA 28 (iQ .mul 3 27 65536),iA 29 (iP .add 3 26 28),iA 30 (iM 7),iA 31 (iQ .mul 3 30 256),iA 32 (iP .add 3 29 31),iA 33 (iM 8),iA 34 (iP .add 3 32 33),iA 35 (iM 1),iA 36 (iP .rem 3 34 35),iA 4 (iM 36)] .ret)))))))
theorem jd5:fnC Try.prog Try.f58=some (jbE,[.t 4],37):=by kernel_rfl
def jcM:C:=iS [iA 4 (iO false)] (iS [iA 5 (iM 0),iA 6 (iM 1),iA 7 (.call 58 [.t 5,.t 6]),iA 8 (iQ .eql 3 7 0),iA 4 (iM 8)] .ret)
theorem jfk:fnC Try.prog Try.f142=some (jcM,[.t 4],9):=by kernel_rfl
def jcH:C:=iS [iA 2 (.alloc 24 [.int .i64 0,.int .i64 0,.int .i64 0,.int .i64 0,.slice none 0 0])] (iS [iA 9 (iM 0),iA 10 (.call 58 [.t 9,.c (.int .i64 4)]),iA 11 (iM 0),iA 12 (.call 58 [.t 11,.c (.int .i64 3)]),iA 13 (.bin .add 3 (.c (.int .i64 1)) (.t 12)),iA 14 (iM 0),iA 15 (.call 58 [.t 14,.c (.int .i64 4)]),iA 16 (.bin .add 3 (.c (.int .i64 1)) (.t 15)),iA 17 (iM 0),iA 18 (.call 58 [.t 17,.c (.int .i64 6)]),iA 19 (.bin .add 3 (.c (.int .i64 1)) (.t 18)),iA 20 (.bld [.int .i64 0,.int .i64 0,.int .i64 0,.int .i64 0,.slice none 0 0] [(0,1,.t 10),(1,1,.t 13),(2,1,.t 16),(3,1,.t 19)]),iA 3 (.alloc 24 [.int .i64 0,.int .i64 0,.int .i64 0,.int .i64 0,.slice none 0 0]),iC (.st 5 [none,none,none,none,some (2,103)] (.t 3) (.t 20))] (.seq (iS [iA 21 (iM 0),iA 22 (.call 142 [.t 21,.c (.int .i64 10)])] (iD 22 (.reg [iA 23 (iF 3 3),iC (.st 1 [none] (.t 23) (.c (.int .i64 12)))]) .skip)) (.seq (iS [iA 4 (iN 0)] (.blk 0 (.loop (.seq (iS [iA 24 (iM 4),iA 25 (iM 0),iA 26 (.call 58 [.t 25,.c (.int .i64 9)]),iA 27 (iP .lss 3 24 26),iA 28 (iM 27),iB 29 28 true (iF 3 3),iB 30 28 true (iL 29),iB 31 28 true (iQ .gtr 3 30 1),iA 32 (.pick (.t 28) (.t 31) (.c (.bool false)))] (iD 32 .skip (.exit 0))) (.seq (.blk 1 (iS [iA 35 (iM 0),iA 36 (iF 3 3),iA 37 (iL 36),iA 38 (iQ .sub 3 37 1),iA 39 (.call 58 [.t 35,.t 38]),iA 40 (.bin .add 3 (.c (.int .i64 1)) (.t 39)),iA 5 (iM 40)] (iS [iA 41 (iM 0),iA 42 (iM 5),iA 43 (.call 58 [.t 41,.t 42]),iA 44 (iM 5),iA 45 (.bld [.int .i64 0,.int .i64 0] [(0,1,.t 43),(1,1,.t 44)]),iA 6 (.alloc 103 [.int .i64 0,.int .i64 0]),iC (.st 2 [none,none] (.t 6) (.t 45))] (iS [iA 7 (iO false)] (.seq (iS [iA 8 (iN 0)] (.blk 2 (.loop (.seq (iS [iA 46 (iM 8),iA 47 (iF 4 3),iA 48 (iL 47),iA 49 (iG 48),iA 50 (iP .lss 3 46 49)] (iD 50 .skip (.exit 2))) (.seq (.blk 3 (.dreg (T.pure 0 (iA 53 (iM 7)) (T.pure 1 (iA 54 (iM 53)) (T.pure 2 (iB 55 54 false (iF 4 3)) (T.pure 3 (iB 56 54 false (iL 55)) (T.pure 4 (iB 57 54 false (iM 8)) (T.pure 5 (iB 58 54 false (iI 2 56 57)) (T.pure 6 (iB 59 54 false (iT 2 58)) (T.pure 7 (iB 60 54 false (iT 2 6)) (T.pure 8 (iB 61 54 false (iP .eql 103 59 60)) (T.pure 9 (iA 62 (.pick (.t 54) (.c (.bool true)) (.t 61))) (T.pure 10 (iA 7 (iM 62)) T.done))))))))))))) (.reg [iA 51 (iM 8),iA 52 (iQ .add 3 51 1),iA 8 (iM 52)])))))) (iS [iA 63 (iM 7),iA 64 (iU 63)] (iD 64 (.reg [iA 65 (iF 4 3),iA 66 (iL 65),iA 67 (iT 2 6),iA 68 (.bsl 103 2 1 [none,none] [(0,2,.t 67)]),iA 69 (.app 103 2 16 (.t 66) (.t 68)),iA 70 (iF 4 3),iC (.st 1 [some (2,103)] (.t 70) (.t 69))]) .skip))))))) (.reg [iA 33 (iM 4),iA 34 (iQ .add 3 33 1),iA 4 (iM 34)])))))) (iS [iA 71 (iT 5 3),iC (.st 5 [none,none,none,none,some (2,103)] (.t 2) (.t 71))] .ret))))
theorem jff:fnC Try.prog Try.f139=some (jcH,[.cell 2 true 5],72):=by kernel_rfl
theorem jb5 (c:List UInt8) (hc:c.length≤1048576) (s:Cu) (b:Nat) (o:Nat→Ob) (hs:s.1≤c.length) (ho:o 89=ku b 125 c s):
 jya Try.prog 57 [Bx 89 b] o (Ni (ki c s).1) (jwi o 89 (ku b 125 c (ki c s).2)):=by
 obtain ⟨k,h⟩:=s;dsimp only at hs;refine jhA ?_;refine qZ (β:=8000000) Try.func57 jfl (by simp) ?_
 unfold jcN;unfold ku at ho;have hH:IntKind.i64.wrap (IntKind.i64.wrap (h*6364136223846793005)+1442695040888963407)=jl3 h:=rfl;by_cases hlt:k<c.length
 ·have hlt':(k:Int)<(c.length:Int):=by omega
  obtain ⟨u,hu⟩:=je hlt;have hw:IntKind.i64.wrap ((k:Int)+1)=((k+1:Nat):Int):=jg (by omega) (by omega)
  have hr:ki c (k,h)=(joK (jv5 (jl3 h)+(u.toNat:Int)) 255,(k+1,jl3 h)):=by simp only [ki,hu]
  have hx:=jkG (joP ((jl3 h).fdiv (2^33)) ((jl3 h).fdiv (2^45)));rw [←show jv5 (jl3 h)=joK (joP ((jl3 h).fdiv (2^33)) ((jl3 h).fdiv (2^45))) 255 from rfl] at hx
  have hul:=UInt8.toNat_lt u;have hwx:IntKind.i64.wrap (jv5 (jl3 h)+(u.toNat:Int))=jv5 (jl3 h)+(u.toNat:Int):=jg (by omega) (by omega)
  simp only [go_sem,ho,hH,hlt',hlt,hw,jjg hu,jl2,kj,qy];rw [hr];refine ⟨?_,ql (by simp only [go_sem,ku,hw]) fun g g2=>?_⟩
  ·have e:∀x y:Int,AV.c (A0.v (Value.int .i64 (joK (IntKind.i64.wrap (joK (joP x y) 255+(u.toNat:Int))) 255)))=AV.c (A0.v (Value.int .i64 (IntKind.i64.wrap ((BitVec.ofInt 64 (IntKind.i64.wrap (IntKind.i64.wrap ((BitVec.ofInt 64 (IntKind.i64.wrap ((BitVec.ofInt 64 x^^^BitVec.ofInt 64 y).toNat))&&&BitVec.ofInt 64 255).toNat)+(u.toNat:Int)))&&&BitVec.ofInt 64 255).toNat)))):=fun _ _=>rfl
   refine (e _ _).symm.trans ?_;show AV.c (A0.v (Value.int .i64 (joK (IntKind.i64.wrap (jv5 (jl3 h)+(u.toNat:Int))) 255)))=_;rw [hwx]
  ·simp only [go_sem,eq_false g2,if_false]
 ·have hlt':¬(k:Int)<(c.length:Int):=by omega
  have hr:ki c (k,h)=(jv5 (jl3 h),(k,jl3 h)):=by simp only [ki,List.getElem?_eq_none (by omega:c.length≤k)]
  simp only [go_sem,ho,hH,hlt',qy];rw [hr];refine ⟨rfl,ql (by simp only [go_sem,ku]) fun g g2=>?_⟩
  simp only [go_sem,eq_false g2,if_false]
theorem jP (c:List UInt8) (hc:c.length≤1048576) (n:Int) (s:Cu) (b:Nat) (o:Nat→Ob) (hs:s.1≤c.length) (ho:o 89=ku b 125 c s):
 jya Try.prog 58 [Bx 89 b,Ni n] o (Ni (jh c n s).1) (jwi o 89 (ku b 125 c (jh c n s).2)):=by
 refine jhA ?_;refine qZ (β:=9000000) Try.func58 jd5 (by simp) ?_
 unfold jbE;by_cases h0:n≤0
 ·have hr:jh c n s=(0,s):=by rw [jh,if_pos h0]
  rw [hr];simp only [go_sem,h0];exact ql (by simp only [go_sem,ho]) fun g g2=>by simp only [go_sem,eq_false g2,if_false]
 have hn0:n≠0:=by omega
 by_cases h1:n≤256
 ·have hr:jh c n s=((ki c s).1.tmod n,(ki c s).2):=by rw [jh,if_neg h0,if_pos h1]
  rw [hr];simp only [go_sem,h0,h1];refine jn (jb5 c hc s b _ hs (by simp only [go_sem,ho])) (by simp only [go_sem]) ?_
  simp only [go_sem,hn0];exact ql (by simp only [go_sem]) fun g g2=>by simp only [go_sem,eq_false g2,if_false]
 ·have hr:jh c n s=(((ki c s).1*16777216+(ki c (ki c s).2).1*65536+(ki c (ki c (ki c s).2).2).1*256+(ki c (ki c (ki c (ki c s).2).2).2).1).tmod n,(ki c (ki c (ki c (ki c s).2).2).2).2):=by rw [jh,if_neg h0,if_neg h1]
  rw [hr];simp only [go_sem,h0,h1];refine jn (jb5 c hc s b _ hs (by simp only [go_sem,ho])) (by simp only [go_sem]) ?_
  have a1:=vV c s;have t1:=vW hs;generalize ki c s=r1 at*;simp only [go_sem];refine jn (jb5 c hc r1.2 b _ t1 (by simp only [go_sem])) (by simp only [go_sem]) ?_
  have a2:=vV c r1.2;have t2:=vW t1;generalize ki c r1.2=r2 at*;simp only [go_sem];refine jn (jb5 c hc r2.2 b _ t2 (by simp only [go_sem])) (by simp only [go_sem]) ?_
  have a3:=vV c r2.2;have t3:=vW t2;generalize ki c r2.2=r3 at*;simp only [go_sem];refine jn (jb5 c hc r3.2 b _ t3 (by simp only [go_sem])) (by simp only [go_sem]) ?_
  have a4:=vV c r3.2;generalize ki c r3.2=r4 at*;have w1:IntKind.i64.wrap (r1.1*16777216)=r1.1*16777216:=jg (by omega) (by omega)
  have w2:IntKind.i64.wrap (r2.1*65536)=r2.1*65536:=jg (by omega) (by omega)
  have w3:IntKind.i64.wrap (r1.1*16777216+r2.1*65536)=r1.1*16777216+r2.1*65536:=jg (by omega) (by omega)
  have w4:IntKind.i64.wrap (r3.1*256)=r3.1*256:=jg (by omega) (by omega)
  have w5:IntKind.i64.wrap (r1.1*16777216+r2.1*65536+r3.1*256)=r1.1*16777216+r2.1*65536+r3.1*256:=jg (by omega) (by omega)
  have w6:IntKind.i64.wrap (r1.1*16777216+r2.1*65536+r3.1*256+r4.1)=r1.1*16777216+r2.1*65536+r3.1*256+r4.1:=jg (by omega) (by omega)
  simp only [go_sem,w1,w2,w3,w4,w5,w6,hn0];exact ql (by simp only [go_sem]) fun g g2=>by simp only [go_sem,eq_false g2,if_false]
theorem jgO (c:List UInt8) (hc:c.length≤1048576) (n:Int) (s:Cu) (b:Nat) (o:Nat→Ob) (hs:s.1≤c.length) (ho:o 89=ku b 125 c s):
 jya Try.prog 142 [Bx 89 b,Ni n] o (.c (.v (.bool ((jh c n s).1==0)))) (jwi o 89 (ku b 125 c (jh c n s).2)):=by
 refine jhA ?_;refine qZ (β:=9100000) Try.func142 jfk (by simp) ?_
 unfold jcM;simp only [go_sem];refine jn (jP c hc n s b _ hs (by simp only [go_sem,ho])) (by simp only [go_sem]) ?_
 simp only [go_sem];exact ql (by simp only [go_sem]) fun g g2=>by simp only [go_sem,eq_false g2,if_false]
theorem jsQ (l:List Ed) (e:Ed):D.sl 2 tEd (l.flatMap jW++[.val (.int .i64 e.src),.val (.int .i64 e.dst)])=jt (l++[e]):=jjq l e
theorem jjl {c:List UInt8} {n:Int} {f i:Nat} {E:List Ed} {s:Cu} (h:¬((i:Int)<(jh c 9 s).1∧1<n)):vH c n (f+1) i E s=(E,(jh c 9 s).2):=by rw [vH];dsimp only;rw [if_neg h]
theorem jsZ {c:List UInt8} {n:Int} {f i:Nat} {E:List Ed} {s:Cu} (h:(i:Int)<(jh c 9 s).1∧1<n):vH c n (f+1) i E s=vH c n f (i+1) (if (⟨(jh c (1+(jh c (n-1) (jh c 9 s).2).1) (jh c (n-1) (jh c 9 s).2).2).1,1+(jh c (n-1) (jh c 9 s).2).1⟩:Ed)∈E then E else E++[⟨(jh c (1+(jh c (n-1) (jh c 9 s).2).1) (jh c (n-1) (jh c 9 s).2).2).1,1+(jh c (n-1) (jh c 9 s).2).1⟩]) (jh c (1+(jh c (n-1) (jh c 9 s).2).1) (jh c (n-1) (jh c 9 s).2).2).2:=by rw [vH];dsimp only;rw [if_pos h]
theorem jsp (c:List UInt8) (hc:c.length≤1048576) (s:Cu) (b:Nat) (o:Nat→Ob) (hs:s.1≤c.length) (ho:o 89=ku b 125 c s) (h86:o 86=.none):
 Inl Try.prog 139 [Bx 89 b] o fun av o2=>∃e:jm,av=.agg [.v (.int .i64 (ja3 c s).1.prio),.v (.int .i64 (ja3 c s).1.most),.v (.int .i64 (ja3 c s).1.wait),.v (.int .i64 (ja3 c s).1.tasks),.v (e [])]∧(e []).oneCell'=true∧o2 86=.loose (jt (ja3 c s).1.edges) e∧o2 89=ku b 125 c (ja3 c s).2∧∀g,g<900000000→g≠86→g≠89→o2 g=o g:=by
 refine jfV (β:=9000000) [[1,1],[1,1,1],[1,1,1,1],[1,1,1,1,0]] Try.func139 jff (by simp) ?_
 unfold jcH;simp only [C.ghs,C.ghAt,List.foldr];simp only [go_sem];intro b2;refine jn (jP c hc 4 s b _ hs (by simp only [go_sem,ho])) (by simp only [go_sem]) ?_
 have s1:=js (n:=4) hs;have r1:=jA c (n:=4) s (by omega)
 generalize hq1:jh c 4 s=q1 at*;simp only [go_sem];refine jn (jP c hc 3 q1.2 b _ s1 (by simp only [go_sem])) (by simp only [go_sem]) ?_
 have s2:=js (n:=3) s1;have r2:=jA c (n:=3) q1.2 (by omega)
 generalize hq2:jh c 3 q1.2=q2 at*;simp only [go_sem];refine jn (jP c hc 4 q2.2 b _ s2 (by simp only [go_sem])) (by simp only [go_sem]) ?_
 have s3:=js (n:=4) s2;have r3:=jA c (n:=4) q2.2 (by omega)
 generalize hq3:jh c 4 q2.2=q3 at*;simp only [go_sem];refine jn (jP c hc 6 q3.2 b _ s3 (by simp only [go_sem])) (by simp only [go_sem]) ?_
 have s4:=js (n:=6) s3;have r4:=jA c (n:=6) q3.2 (by omega)
 generalize hq4:jh c 6 q3.2=q4 at*;have w2:IntKind.i64.wrap (1+q2.1)=1+q2.1:=jg (by omega) (by omega)
 have w3:IntKind.i64.wrap (1+q3.1)=1+q3.1:=jg (by omega) (by omega)
 have w4:IntKind.i64.wrap (1+q4.1)=1+q4.1:=jg (by omega) (by omega)
 simp only [go_sem,w2,w3,w4];intro b3;have s5:=js (n:=10) s4;generalize hq5:jh c 10 q4.2=q5 at*;obtain ⟨n,hn⟩:∃n:Int,(if q5.1=0 then (12:Int) else 1+q4.1)=n:=⟨_,rfl⟩
 have hn12:1≤n∧n≤12:=by rw [←hn];split<;>omega
 have hpl:ja3 c s=(⟨q1.1,1+q2.1,1+q3.1,n,(vH c n 9 0 [] q5.2).1⟩,(vH c n 9 0 [] q5.2).2):=by
  simp only [ja3,hq1,hq2,hq3,hq4,hq5,hn]
 generalize hD0:vH c n 9 0 [] q5.2=D0 at hpl;rw [hpl];refine kK (WkK.of ?_);refine jrb (fun _:Unit=>St.ofB [(0,Bx 89 b),(2,Bx 900000200 b2),(3,Bx 900000300 b3)] [(900000200,ZPl b2 24),(900000300,jns b3 24 q1.1 (1+q2.1) (1+q3.1) n [] vT)] 900000000 (fun j=>if j=89 then ku b 125 c q5.2 else o j)) ?_ ?_
 ·simp only [go_sem]
  refine jn (jgO c hc 10 q4.2 b _ s4 (by simp only [go_sem])) (by simp only [go_sem]) ?_
  rw [hq5];cases h5:q5.1==0
  ·have e:¬q5.1=0:=by simpa using h5
   rw [if_neg e] at hn;simp only [go_sem,h5];exact ⟨(),(jR [some 900000200,some 900000300] (by simp only [go_sem,jk,hn,w2,w3,w4]<;>and_intros<;>first|rfl|assumption|trivial) (fun j hj=>by by_cases e89:j=89<;>simp only [go_sem,e89,hj,if_true,if_false,jp hj 900000200 (by omega),jp hj 900000300 (by omega),jk,hn,w2,w3,w4]) (by decide))⟩
  ·have e:q5.1=0:=by simpa using h5
   rw [if_pos e] at hn;simp only [go_sem,h5];exact ⟨(),(jR [some 900000200,some 900000300] (by simp only [go_sem,jk,hn,w2,w3,w4]<;>and_intros<;>first|rfl|assumption|trivial) (fun j hj=>by by_cases e89:j=89<;>simp only [go_sem,e89,hj,if_true,if_false,jp hj 900000200 (by omega),jp hj 900000300 (by omega),jk,hn,w2,w3,w4]) (by decide))⟩
 rintro ⟨⟩;refine jrb (fun i:{i:(List Ed×Cu)×jm//D0=i.1}=>St.ofB [(0,Bx 89 b),(2,Bx 900000200 b2),(3,Bx 900000300 b3)] [(900000200,ZPl b2 24),(900000300,jns b3 24 q1.1 (1+q2.1) (1+q3.1) n i.1.1.1 i.1.2)] 900000000 (fun j=>if j=89 then ku b 125 c i.1.1.2 else o j)) ?_ ?_
 ·simp only [go_sem]
  refine jq (fun i:(Nat×List Ed×Cu)×jm=>St.ofB [(0,Bx 89 b),(2,Bx 900000200 b2),(3,Bx 900000300 b3),(4,Ni i.1.1)] [(900000200,ZPl b2 24),(900000300,jns b3 24 q1.1 (1+q2.1) (1+q3.1) n i.1.2.1 i.2)] 900000000 (fun j=>if j=89 then ku b 125 c i.1.2.2 else o j)) (fun i=>i.1.1≤8∧i.1.2.1.length≤i.1.1∧i.1.2.2.1≤c.length∧D0=vH c n (9-i.1.1) i.1.1 i.1.2.1 i.1.2.2) (fun i=>9-i.1.1) ((0,[],q5.2),vT) (⟨Nat.zero_le 8,Nat.le_refl 0,s5,hD0.symm⟩) (jR [some 900000200,some 900000300] (by simp only [go_sem]<;>and_intros<;>first|rfl|assumption|trivial) (fun j hj=>by by_cases e89:j=89<;>simp only [go_sem,e89,hj,if_true,if_false,jp hj 900000200 (by omega),jp hj 900000300 (by omega)]) (by decide)) ?_
  rintro ⟨⟨ii,E,u⟩,e0⟩ ⟨hi8,hEl,hu,hdE⟩;dsimp only at hi8 hEl hu hdE;obtain ⟨f,hf⟩:∃f,9-ii=f+1:=⟨8-ii,by omega⟩
  rw [hf] at hdE;simp only [go_sem];refine jn (jP c hc 9 u b _ hu (by simp only [go_sem])) (by simp only [go_sem]) ?_
  have u1:=js (n:=9) hu;have x1:=jA c (n:=9) u (by omega)
  generalize hp1:jh c 9 u=p1 at*;by_cases hlt:(ii:Int)<p1.1;rotate_left
  ·rw [jjl (by rw [hp1];omega),hp1] at hdE
   simp only [go_sem,hlt];exact ⟨⟨((E,p1.2),e0),hdE⟩,(jR [some 900000200,some 900000300] (by simp only [go_sem]<;>and_intros<;>first|rfl|assumption|trivial) (fun j hj=>by by_cases e89:j=89<;>simp only [go_sem,e89,hj,if_true,if_false,jp hj 900000200 (by omega),jp hj 900000300 (by omega)]) (by decide))⟩
  by_cases hgt:n>1;rotate_left
  ·rw [jjl (by omega),hp1] at hdE
   simp only [go_sem,hlt,hgt];exact ⟨⟨((E,p1.2),e0),hdE⟩,(jR [some 900000200,some 900000300] (by simp only [go_sem]<;>and_intros<;>first|rfl|assumption|trivial) (fun j hj=>by by_cases e89:j=89<;>simp only [go_sem,e89,hj,if_true,if_false,jp hj 900000200 (by omega),jp hj 900000300 (by omega)]) (by decide))⟩
  rw [jsZ (by rw [hp1];omega),hp1] at hdE
  have hwn:IntKind.i64.wrap (n-1)=n-1:=jg (by omega) (by omega)
  simp only [go_sem,hlt,hgt,hwn];refine jn (jP c hc (n-1) p1.2 b _ u1 (by simp only [go_sem])) (by simp only [go_sem,hwn]) ?_
  have u2:=js (n:=n-1) u1;have x2:=jA c (n:=n-1) p1.2 (by omega)
  generalize hp2:jh c (n-1) p1.2=p2 at*;have hw2:IntKind.i64.wrap (1+p2.1)=1+p2.1:=jg (by omega) (by omega)
  simp only [go_sem,hw2];refine jn (jP c hc (1+p2.1) p2.2 b _ u2 (by simp only [go_sem])) (by simp only [go_sem,hw2]) ?_
  have u3:=js (n:=1+p2.1) u2;have x3:=jA c (n:=1+p2.1) p2.2 (by omega)
  generalize hp3:jh c (1+p2.1) p2.2=p3 at*;simp only [go_sem,hw2];intro b6;obtain ⟨e,he⟩:∃e:Ed,e=⟨p3.1,1+p2.1⟩:=⟨_,rfl⟩;have he1:p3.1=e.src:=by rw [he]
  have he2:1+p2.1=e.dst:=by rw [he]
  rw [←he] at hdE;have hwi:IntKind.i64.wrap ((ii:Int)+1)=((ii+1:Nat):Int):=jg (by omega) (by omega)
  refine jq (fun i:Nat=>St.ofB [(0,Bx 89 b),(2,Bx 900000200 b2),(3,Bx 900000300 b3),(4,Ni ii),(6,Bx 900000600 b6),(7,.c (.v (.bool (decide (e∈E.take i))))),(8,Ni i)] [(900000200,ZPl b2 24),(900000300,jns b3 24 q1.1 (1+q2.1) (1+q3.1) n E e0),(900000600,.box b6 103 [.a (.v (.int .i64 e.src)),.a (.v (.int .i64 e.dst))])] 900000000 (fun j=>if j=89 then ku b 125 c p3.2 else o j)) (fun i=>i≤E.length) (fun i=>E.length-i) 0 (by (try dsimp only);first|omega|(simp;done)|(and_intros<;>first|omega|simp)) (jR [some 900000200,some 900000300,some 900000600] (by simp only [go_sem,List.take_zero,List.not_mem_nil,decide_false,hw2,he1,he2]<;>and_intros<;>first|rfl|assumption|trivial) (fun j hj=>by by_cases e89:j=89<;>simp only [go_sem,e89,hj,if_true,if_false,jp hj 900000200 (by omega),jp hj 900000300 (by omega),jp hj 900000600 (by omega),List.take_zero,List.not_mem_nil,decide_false,hw2,he1,he2]) (by decide)) ?_
  rintro k hk;by_cases hkl:k<E.length
  ·have hkl':(k:Int)<(E.length:Int):=by omega
   have h0k:(k:Int)≥0:=by omega
   obtain ⟨x,hx⟩:=je hkl;have hwk:IntKind.i64.wrap ((k:Int)+1)=((k+1:Nat):Int):=jg (by omega) (by omega)
   have htk:E.take (k+1)=E.take k++[x]:=by rw [List.take_add_one,hx];rfl
   by_cases hm:e∈E.take k
   ·have h1:decide (e∈E.take k)=true:=decide_eq_true hm
    have h2:decide (e∈E.take (k+1))=true:=decide_eq_true (by rw [htk];simp [hm])
    simp only [go_sem,hkl',h1];exact ⟨k+1,by (try dsimp only);first|omega|assumption|(and_intros<;>first|omega|assumption),(jR [some 900000200,some 900000300,some 900000600] (by simp only [go_sem,h2,hwk]<;>and_intros<;>first|rfl|assumption|trivial) (fun j hj=>by by_cases e89:j=89<;>simp only [go_sem,e89,hj,if_true,if_false,jp hj 900000200 (by omega),jp hj 900000300 (by omega),jp hj 900000600 (by omega),h2,hwk]) (by decide)),by (try dsimp only);omega⟩
   ·have h1:decide (e∈E.take k)=false:=decide_eq_false hm
    by_cases hxe:x=e
    ·have h2:decide (e∈E.take (k+1))=true:=decide_eq_true (by rw [htk];simp [hxe])
     have h3:decide (x=e)=true:=decide_eq_true hxe;simp only [go_sem,hkl',hkl,h0k,h1,jml hx,jlF hkl,jW,h3];exact ⟨k+1,by (try dsimp only);first|omega|assumption|(and_intros<;>first|omega|assumption),(jR [some 900000200,some 900000300,some 900000600] (by simp only [go_sem,h2,hwk,h3]<;>and_intros<;>first|rfl|assumption|trivial) (fun j hj=>by by_cases e89:j=89<;>simp only [go_sem,e89,hj,if_true,if_false,jp hj 900000200 (by omega),jp hj 900000300 (by omega),jp hj 900000600 (by omega),h2,hwk,h3]) (by decide)),by (try dsimp only);omega⟩
    ·have h2:decide (e∈E.take (k+1))=false:=decide_eq_false (by rw [htk];simp [hm];exact fun h=>hxe h.symm)
     have h3:decide (x=e)=false:=decide_eq_false hxe;simp only [go_sem,hkl',hkl,h0k,h1,jml hx,jlF hkl,jW,h3];exact ⟨k+1,by (try dsimp only);first|omega|assumption|(and_intros<;>first|omega|assumption),(jR [some 900000200,some 900000300,some 900000600] (by simp only [go_sem,h2,hwk,h3]<;>and_intros<;>first|rfl|assumption|trivial) (fun j hj=>by by_cases e89:j=89<;>simp only [go_sem,e89,hj,if_true,if_false,jp hj 900000200 (by omega),jp hj 900000300 (by omega),jp hj 900000600 (by omega),h2,hwk,h3]) (by decide)),by (try dsimp only);omega⟩
  ·obtain rfl:k=E.length:=by omega
   have hkl':¬((E.length:Nat):Int)<(E.length:Int):=by omega
   rw [List.take_length];by_cases hm:e∈E
   ·have h1:decide (e∈E)=true:=decide_eq_true hm
    rw [if_pos hm] at hdE;simp only [go_sem,hkl',h1];exact ⟨((ii+1,E,p3.2),e0),⟨by dsimp only;omega,by dsimp only;omega,u3,by rw [show 9-(ii+1)=f by omega];exact hdE⟩,(jR [some 900000200,some 900000300] (by simp only [go_sem,hwi]<;>and_intros<;>first|rfl|assumption|trivial) (fun j hj=>by by_cases e89:j=89<;>simp only [go_sem,e89,hj,if_true,if_false,jp hj 900000200 (by omega),jp hj 900000300 (by omega),jp hj 900000600 (by omega),hwi]) (by decide)),by (try dsimp only);omega⟩
   ·have h1:decide (e∈E)=false:=decide_eq_false hm
    rw [if_neg hm] at hdE;simp only [go_sem,hkl',h1];intro e1;refine ⟨by unfold maxLen;omega,by omega,fun e2=>?_⟩
    exact ⟨((ii+1,E++[e],p3.2),e2),⟨by dsimp only;omega,by dsimp only;simp;omega,u3,by rw [show 9-(ii+1)=f by omega];exact hdE⟩,(jR [some 900000200,some 900000300] (by simp only [go_sem,hwi,jsQ]<;>and_intros<;>first|rfl|assumption|trivial) (fun j hj=>by by_cases e89:j=89<;>simp only [go_sem,e89,hj,if_true,if_false,jp hj 900000200 (by omega),jp hj 900000300 (by omega),jp hj 900000600 (by omega),jp hj 900006800 (by omega),jp hj 900006900 (by omega),hwi,jsQ]) (by decide)),by (try dsimp only);omega⟩
 rintro ⟨⟨⟨E,u⟩,e0⟩,hdE⟩;dsimp only at hdE;subst hdE;simp only [go_sem];refine kK ?_;refine qh 900000300 4 86 (d:=jt E) (η:=e0) (by simp only [go_sem]) (by simp only [go_sem,h86]) (by decide) fun hx=>?_
 refine WkK.of ?_;simp only [go_sem,hx];exact ⟨e0,rfl,hx,rfl,fun g g1 g2 g3=>by simp only [g2,g3,g1,jp g1 900000200 (by omega),jp g1 900000300 (by omega),if_true,if_false]⟩
end Go.Proofs.Ytmnpailnelmpiaa
