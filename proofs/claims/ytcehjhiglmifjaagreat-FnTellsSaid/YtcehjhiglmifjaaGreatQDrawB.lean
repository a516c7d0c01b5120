/- Parts. -/
import Derived.Test.YtcehjhiglmifjaaGreatQKeepB
set_option linter.all false
set_option maxHeartbeats 16000000
set_option maxRecDepth 100000
namespace Go.Proofs.YtcehjhiglmifjaaGreat
open Go.RowKit Go.Sort
theorem jl6 {l:List UInt8} {k:Nat} {u:UInt8} (h:l[k]?=some u):(jaU l).elem k=[D.val (.int .u8 (u.toNat:Int))]:=by
 have h1:=(aMI.1 h).1;simp only [jaU,D.elem,D.cells,D.size,aMZ,<-List.map_drop];rw [aOC h1,(aMI.1 h).2];rfl
def qo (b ty:Nat) (c:List UInt8) (s:Cu):Ob:=.box b ty [.a (.ro (jaU c)),.a (.v (.int .i64 (s.1:Int))),.a (.v (.int .i64 s.2))]
def jgA:C:=iS [iA 2 (.mov (.c (.pointer none)))] (iS [aM 5 0,aG 6 5,iA 7 (.bin .add 3 (oI 94701) (.t 6)),aM 3 7] (.seq (iS [aN 4 0] (.blk 0 (.loop (.seq (iS [aM 8 4,aM 9 0,aG 10 9,aP 11 .lss 3 8 10,aM 12 11,iB 13 12 true (iM 4),iB 14 12 true (iQ .lss 3 13 4000),iA 15 (iY 12 (.t 14) (oF))] (iD 15 .skip (.exit 0))) (.seq (.blk 1 (.reg [aM 18 3,aQ 19 .mul 3 18 131,aM 20 0,aM 21 4,aI 22 1 20 21,aL 23 22,iA 24 (.cv (.num .i64) 0 (.t 23)),aP 25 .add 3 19 24,aQ 26 .add 3 25 7,aQ 27 .and 3 26 1073741823,aM 3 27])) (.reg [aM 16 4,aQ 17 .add 3 16 1,aM 4 17])))))) (iS [aM 28 0,aM 29 3,iA 30 (.bld [.slice none 0 0,.int .i64 0,.int .i64 0] [(0,1,.t 28),(2,1,.t 29)]),iA 31 (.box 146 3 (.t 30)),aM 2 31] .ret)))
theorem jiF:fnC Tryz.prog Tryz.f58=some (jgA,[.t 2],32):=by kernel_rfl
def jez:C:=iS [aN 2 0] (iS [aM 4 0,aM 5 0,aF 6 0 5,aF 7 2 6,aL 8 7,aQ 9 .mul 3 8 6364136223846793005,aQ 10 .add 3 9 1442695040888963407,aF 11 0 4,aF 12 2 11,wAD 12 10] (.seq (.dreg (tA 0 13 (iM 0) (tA 1 14 (iF 0 13) (tA 2 15 (iF 2 14) (tA 3 16 (iL 15) (tA 4 17 (.bin .shr 3 (.t 16) (.c (.int .u64 33))) (tA 5 18 (iM 0) (tA 6 19 (iF 0 18) (tA 7 20 (iF 2 19) (tA 8 21 (iL 20) (tA 9 22 (.bin .shr 3 (.t 21) (.c (.int .u64 45))) (tA 10 23 (iP .xor 3 17 22) (tA 11 24 (iQ .and 3 23 255) (tA 12 3 (iM 24) .done)))))))))))))) (.seq (.seq (.dreg (tA 0 25 (iM 0) (tA 1 26 (iF 0 25) (tA 2 27 (iF 1 26) (tA 3 28 (iL 27) (tA 4 29 (iM 0) (tA 5 30 (iF 0 29) (tA 6 31 (iF 0 30) (tA 7 32 (iL 31) (tA 8 33 (iG 32) (tA 9 34 (iP .lss 3 28 33) .done))))))))))) (iD 34 (.seq (.dreg (tA 0 35 (iM 3) (tA 1 36 (iM 0) (tA 2 37 (iF 0 36) (tA 3 38 (iF 0 37) (tA 4 39 (iL 38) (tA 5 40 (iM 0) (tA 6 41 (iF 0 40) (tA 7 42 (iF 1 41) (tA 8 43 (iL 42) (tA 9 44 (iI 1 39 43) (tA 10 45 (iL 44) (tA 11 46 (.cv (.num .i64) 0 (.t 45)) (tA 12 47 (iP .add 3 35 46) (tA 13 48 (iQ .and 3 47 255) (tA 14 3 (iM 48) .done)))))))))))))))) (.reg [aM 49 0,aM 50 0,aF 51 0 50,aF 52 1 51,aL 53 52,aQ 54 .add 3 53 1,aF 55 0 49,aF 56 1 55,wAD 56 54])) .skip)) (iS [aM 57 3,aM 2 57] .ret))))
theorem jhC:fnC Tryz.prog Tryz.f59=some (jez,[.t 2],58):=by kernel_rfl
def jdf:C:=iS [aN 4 0] (.seq (iS [aM 9 1,aQ 10 .leq 3 9 0] (iD 10 (iS [aN 4 0] .ret) .skip)) (.seq (iS [aM 11 1,aQ 12 .leq 3 11 256] (iD 12 (iS [aM 13 0,iA 14 (iK 59 [13]),aM 15 1,aP 16 .rem 3 14 15,aM 4 16] .ret) .skip)) (iS [aM 17 0,iA 18 (iK 59 [17]),aM 5 18] (iS [aM 19 0,iA 20 (iK 59 [19]),aM 6 20] (iS [aM 21 0,iA 22 (iK 59 [21]),aM 7 22] (iS [aM 23 0,iA 24 (iK 59 [23]),aM 8 24] (iS [aM 25 5,aQ 26 .mul 3 25 16777216,aM 27 6,aQ 28 .mul 3 27 65536,aP 29 .add 3 26 28,aM 30 7,aQ 31 .mul 3 30 256,aP 32 .add 3 29 31,aM 33 8,aP 34 .add 3 32 33,aM 35 1,aP 36 .rem 3 34 35,aM 4 36] .ret)))))))
theorem jgg:fnC Tryz.prog Tryz.f60=some (jdf,[.t 4],37):=by kernel_rfl
def jey:C:=iS [aO 4 false] (iS [aM 5 0,aM 6 1,iA 7 (iK 60 [5,6]),aQ 8 .eql 3 7 0,aM 4 8] .ret)
theorem jhB:fnC Tryz.prog Tryz.f160=some (jey,[.t 4],9):=by kernel_rfl
def jeu:C:=iS [iA 2 wAR] (iS [aM 9 0,iA 10 (.call 60 [.t 9,oI 4]),aM 11 0,iA 12 (.call 60 [.t 11,oI 3]),iA 13 (.bin .add 3 (oI 1) (.t 12)),aM 14 0,iA 15 (.call 60 [.t 14,oI 4]),iA 16 (.bin .add 3 (oI 1) (.t 15)),aM 17 0,iA 18 (.call 60 [.t 17,oI 6]),iA 19 (.bin .add 3 (oI 1) (.t 18)),iA 20 (.bld [.int .i64 0,.int .i64 0,.int .i64 0,.int .i64 0,.slice none 0 0] [(0,1,.t 10),(1,1,.t 13),(2,1,.t 16),(3,1,.t 19)]),iA 3 wAR,wAH 3 20] (.seq (iS [aM 21 0,iA 22 (.call 160 [.t 21,oI 10])] (iD 22 (.reg [aF 23 3 3,iC (.st 1 [none] (.t 23) (oI 12))]) .skip)) (.seq (iS [aN 4 0] (.blk 0 (.loop (.seq (iS [aM 24 4,aM 25 0,iA 26 (.call 60 [.t 25,oI 9]),aP 27 .lss 3 24 26,aM 28 27,iB 29 28 true (iF 3 3),iB 30 28 true (iL 29),iB 31 28 true (iQ .gtr 3 30 1),iA 32 (iY 28 (.t 31) (oF))] (iD 32 .skip (.exit 0))) (.seq (.blk 1 (iS [aM 35 0,aF 36 3 3,aL 37 36,aQ 38 .sub 3 37 1,iA 39 (iK 60 [35,38]),iA 40 (.bin .add 3 (oI 1) (.t 39)),aM 5 40] (iS [aM 41 0,aM 42 5,iA 43 (iK 60 [41,42]),aM 44 5,iA 45 (.bld [.int .i64 0,.int .i64 0] [(0,1,.t 43),(1,1,.t 44)]),iA 6 wAO,wAG 6 45] (iS [aO 7 false] (.seq (iS [aN 8 0] (.blk 2 (.loop (.seq (iS [aM 46 8,aF 47 4 3,aL 48 47,aG 49 48,aP 50 .lss 3 46 49] (iD 50 .skip (.exit 2))) (.seq (.blk 3 (.dreg (tA 0 53 (iM 7) (tA 1 54 (iM 53) (tB 2 55 54 false (iF 4 3) (tB 3 56 54 false (iL 55) (tB 4 57 54 false (iM 8) (tB 5 58 54 false (iI 2 56 57) (tB 6 59 54 false (iT 2 58) (tB 7 60 54 false (iT 2 6) (tB 8 61 54 false (iP .eql 161 59 60) (tA 9 62 (iY 54 (oT) (.t 61)) (tA 10 7 (iM 62) .done))))))))))))) (.reg [aM 51 8,aQ 52 .add 3 51 1,aM 8 52])))))) (iS [aM 63 7,aU 64 63] (iD 64 (.reg [aF 65 4 3,aL 66 65,aT 67 2 6,iA 68 (.bsl 161 2 1 [none,none] [(0,2,.t 67)]),iA 69 (.app 161 2 16 (.t 66) (.t 68)),aF 70 4 3,iC (.st 1 [some (2,161)] (.t 70) (.t 69))]) .skip))))))) (.reg [aM 33 4,aQ 34 .add 3 33 1,aM 4 34])))))) (iS [aT 71 5 3,wAH 2 71] .ret))))
theorem jhx:fnC Tryz.prog Tryz.f108=some (jeu,[.cell 2 true 5],72):=by kernel_rfl
theorem jfX (c:List UInt8) (hc:c.length<=1048576) (s:Cu) (b:Nat) (o:Nat->Ob) (hs:s.1<=c.length) (ho:o 89=qo b 146 c s):
 jDl Tryz.prog 59 [Bx 89 b] o (Ni (kW c s).1) (jA7 o 89 (qo b 146 c (kW c s).2)):=by
 obtain ⟨k,h⟩:=s;dsimp only at hs;refine jqi ?_;refine qv (β:=8000000) Tryz.func59 jhC (by simp) ?_
 unfold jez;unfold qo at ho;have hH:IntKind.i64.wrap (IntKind.i64.wrap (h*6364136223846793005)+1442695040888963407)=jo5 h:=rfl;by_cases aB:k<c.length
 ·have aA:(k:Int)<(c.length:Int):=by omega
  obtain ⟨u,hu⟩:=jd aB;have hw:=kX k;have hr:kW c (k,h)=(jsa (jy4 (jo5 h)+(u.toNat:Int)) 255,(k+1,jo5 h)):=by simp only [kW,hu]
  have hx:=jnD (jse ((jo5 h).fdiv (2^33)) ((jo5 h).fdiv (2^45)));rw [<-show jy4 (jo5 h)=jsa (jse ((jo5 h).fdiv (2^33)) ((jo5 h).fdiv (2^45))) 255 from rfl] at hx
  have n6:=UInt8.toNat_lt u;have hwx:IntKind.i64.wrap (jy4 (jo5 h)+(u.toNat:Int))=jy4 (jo5 h)+(u.toNat:Int):=zy;simp only [go_sem,ho,hH,aA,aB,hw,jl6 hu,jy3,vt,jaQ];rw [hr];refine ⟨?_,jbJ (by simp only [go_sem,qo,hw]) λg g2=>?_⟩
  ·have e:∀x y:Int,AV.c (A0.v (Value.int .i64 (jsa (IntKind.i64.wrap (jsa (jse x y) 255+(u.toNat:Int))) 255)))=AV.c (A0.v (Value.int .i64 (IntKind.i64.wrap ((BitVec.ofInt 64 (IntKind.i64.wrap (IntKind.i64.wrap ((BitVec.ofInt 64 (IntKind.i64.wrap ((BitVec.ofInt 64 x^^^BitVec.ofInt 64 y).toNat))&&&BitVec.ofInt 64 255).toNat)+(u.toNat:Int)))&&&BitVec.ofInt 64 255).toNat)))):=λ_ _=>rfl
   refine (e _ _).symm.trans ?_;show AV.c (A0.v (Value.int .i64 (jsa (IntKind.i64.wrap (jy4 (jo5 h)+(u.toNat:Int))) 255)))=_;rw [hwx]
  ·simp only [go_sem,eq_false g2,if_false]
 ·have aA:¬(k:Int)<(c.length:Int):=by omega
  have hr:kW c (k,h)=(jy4 (jo5 h),(k,jo5 h)):=by simp only [kW,aOH (by omega:c.length<=k)]
  simp only [go_sem,ho,hH,aA,jaQ];rw [hr];refine ⟨rfl,jbJ (by simp only [go_sem,qo]) λg g2=>?_⟩
  simp only [go_sem,eq_false g2,if_false]
theorem ky (c:List UInt8) (hc:c.length<=1048576) (n:Int) (s:Cu) (b:Nat) (o:Nat->Ob) (hs:s.1<=c.length) (ho:o 89=qo b 146 c s):
 jDl Tryz.prog 60 [Bx 89 b,Ni n] o (Ni (jo c n s).1) (jA7 o 89 (qo b 146 c (jo c n s).2)):=by
 refine jqi ?_;refine qv (β:=9000000) Tryz.func60 jgg (by simp) ?_
 unfold jdf;by_cases h0:n<=0
 ·have hr:jo c n s=(0,s):=by rw [jo,if_pos h0]
  rw [hr];simp only [go_sem,h0];exact jbJ (by simp only [go_sem,ho]) λg g2=>by simp only [go_sem,eq_false g2,if_false]
 have mM:n≠0:=by omega
 by_cases h1:n<=256
 ·have hr:jo c n s=((kW c s).1.tmod n,(kW c s).2):=by rw [jo,if_neg h0,if_pos h1]
  rw [hr];simp only [go_sem,h0,h1];refine kh (jfX c hc s b _ hs (by simp only [go_sem,ho])) (by simp only [go_sem]) ?_
  simp only [go_sem,mM];exact jbJ (by simp only [go_sem]) λg g2=>by simp only [go_sem,eq_false g2,if_false]
 ·have hr:jo c n s=(((kW c s).1*16777216+(kW c (kW c s).2).1*65536+(kW c (kW c (kW c s).2).2).1*256+(kW c (kW c (kW c (kW c s).2).2).2).1).tmod n,(kW c (kW c (kW c (kW c s).2).2).2).2):=by rw [jo,if_neg h0,if_neg h1]
  rw [hr];simp only [go_sem,h0,h1];refine kh (jfX c hc s b _ hs (by simp only [go_sem,ho])) (by simp only [go_sem]) ?_
  have a1:=jaA c s;have t1:=jbj hs;generalize kW c s=r1 at*;simp only [go_sem];refine kh (jfX c hc r1.2 b _ t1 (by simp only [go_sem])) (by simp only [go_sem]) ?_
  have a2:=jaA c r1.2;have t2:=jbj t1;generalize kW c r1.2=r2 at*;simp only [go_sem];refine kh (jfX c hc r2.2 b _ t2 (by simp only [go_sem])) (by simp only [go_sem]) ?_
  have a3:=jaA c r2.2;have t3:=jbj t2;generalize kW c r2.2=r3 at*;simp only [go_sem];refine kh (jfX c hc r3.2 b _ t3 (by simp only [go_sem])) (by simp only [go_sem]) ?_
  have a4:=jaA c r3.2;generalize kW c r3.2=r4 at*;have w1:IntKind.i64.wrap (r1.1*16777216)=r1.1*16777216:=zy;have w2:IntKind.i64.wrap (r2.1*65536)=r2.1*65536:=zy;have w3:IntKind.i64.wrap (r1.1*16777216+r2.1*65536)=r1.1*16777216+r2.1*65536:=zy;have w4:IntKind.i64.wrap (r3.1*256)=r3.1*256:=zy;have w5:IntKind.i64.wrap (r1.1*16777216+r2.1*65536+r3.1*256)=r1.1*16777216+r2.1*65536+r3.1*256:=zy;have w6:IntKind.i64.wrap (r1.1*16777216+r2.1*65536+r3.1*256+r4.1)=r1.1*16777216+r2.1*65536+r3.1*256+r4.1:=zy;simp only [go_sem,w1,w2,w3,w4,w5,w6,mM];exact jbJ (by simp only [go_sem]) λg g2=>by simp only [go_sem,eq_false g2,if_false]
theorem jjk (c:List UInt8) (hc:c.length<=1048576) (n:Int) (s:Cu) (b:Nat) (o:Nat->Ob) (hs:s.1<=c.length) (ho:o 89=qo b 146 c s):
 jDl Tryz.prog 160 [Bx 89 b,Ni n] o (.c (.v (.bool ((jo c n s).1==0)))) (jA7 o 89 (qo b 146 c (jo c n s).2)):=by
 refine jqi ?_;refine qv (β:=9100000) Tryz.func160 jhB (by simp) ?_
 unfold jey;simp only [go_sem];refine kh (ky c hc n s b _ hs (by simp only [go_sem,ho])) (by simp only [go_sem]) ?_
 simp only [go_sem];exact jbJ (by simp only [go_sem]) λg g2=>by simp only [go_sem,eq_false g2,if_false]
theorem jvV (l:List Ed) (e:Ed):D.sl 2 tEd (l.flatMap jR++[.val (.int .i64 e.src),.val (.int .i64 e.dst)])=jv (l++[e]):=jtI l e
theorem jl9 {c:List UInt8} {n:Int} {f i:Nat} {E:List Ed} {s:Cu} (h:¬((i:Int)<(jo c 9 s).1/\1<n)):jai c n (f+1) i E s=(E,(jo c 9 s).2):=by rw [jai];dsimp only;rw [if_neg h]
theorem jv7 {c:List UInt8} {n:Int} {f i:Nat} {E:List Ed} {s:Cu} (h:(i:Int)<(jo c 9 s).1/\1<n):jai c n (f+1) i E s=jai c n f (i+1) (if (⟨(jo c (1+(jo c (n-1) (jo c 9 s).2).1) (jo c (n-1) (jo c 9 s).2).2).1,1+(jo c (n-1) (jo c 9 s).2).1⟩:Ed)∈E then E else E++[⟨(jo c (1+(jo c (n-1) (jo c 9 s).2).1) (jo c (n-1) (jo c 9 s).2).2).1,1+(jo c (n-1) (jo c 9 s).2).1⟩]) (jo c (1+(jo c (n-1) (jo c 9 s).2).1) (jo c (n-1) (jo c 9 s).2).2).2:=by rw [jai];dsimp only;rw [if_pos h]
theorem jvA (c:List UInt8) (hc:c.length<=1048576) (s:Cu) (b:Nat) (o:Nat->Ob) (hs:s.1<=c.length) (ho:o 89=qo b 146 c s) (rO:o 86=.none):
 Inl Tryz.prog 108 [Bx 89 b] o λav o2=>∃e:jm,av=.agg [.v (.int .i64 (jcG c s).1.aMC),.v (.int .i64 (jcG c s).1.aMG),.v (.int .i64 (jcG c s).1.aMF),.v (.int .i64 (jcG c s).1.aLT),.v (e [])]/\(e []).oneCell'=true/\o2 86=.loose (jv (jcG c s).1.aLY) e/\o2 89=qo b 146 c (jcG c s).2/\∀g,g<900000000->g≠86->g≠89->o2 g=o g:=by
 refine jlZ (β:=9000000) [[1,1],[1,1,1],[1,1,1,1],[1,1,1,1,0]] Tryz.func108 jhx (by simp) ?_
 unfold jeu;simp only [C.ghs,C.ghAt,List.foldr];simp only [go_sem];intro b2;refine kh (ky c hc 4 s b _ hs (by simp only [go_sem,ho])) (by simp only [go_sem]) ?_
 have s1:=jq (n:=4) hs;have r1:=jN c (n:=4) s (by omega)
 generalize l0:jo c 4 s=q1 at*;simp only [go_sem];refine kh (ky c hc 3 q1.2 b _ s1 (by simp only [go_sem])) (by simp only [go_sem]) ?_
 have s2:=jq (n:=3) s1;have r2:=jN c (n:=3) q1.2 (by omega)
 generalize lZ:jo c 3 q1.2=q2 at*;simp only [go_sem];refine kh (ky c hc 4 q2.2 b _ s2 (by simp only [go_sem])) (by simp only [go_sem]) ?_
 have s3:=jq (n:=4) s2;have r3:=jN c (n:=4) q2.2 (by omega)
 generalize hq3:jo c 4 q2.2=q3 at*;simp only [go_sem];refine kh (ky c hc 6 q3.2 b _ s3 (by simp only [go_sem])) (by simp only [go_sem]) ?_
 have s4:=jq (n:=6) s3;have r4:=jN c (n:=6) q3.2 (by omega)
 generalize hq4:jo c 6 q3.2=q4 at*;have w2:IntKind.i64.wrap (1+q2.1)=1+q2.1:=zy;have w3:IntKind.i64.wrap (1+q3.1)=1+q3.1:=zy;have w4:IntKind.i64.wrap (1+q4.1)=1+q4.1:=zy;simp only [go_sem,w2,w3,w4];intro b3;have s5:=jq (n:=10) s4;generalize hq5:jo c 10 q4.2=q5 at*;obtain ⟨n,hn⟩:∃n:Int,(if q5.1=0 then (12:Int) else 1+q4.1)=n:=⟨_,rfl⟩
 have nB:1<=n/\n<=12:=by rw [<-hn];split<;>omega
 have iW:jcG c s=(⟨q1.1,1+q2.1,1+q3.1,n,(jai c n 9 0 [] q5.2).1⟩,(jai c n 9 0 [] q5.2).2):=by
  simp only [jcG,l0,lZ,hq3,hq4,hq5,hn]
 generalize hD0:jai c n 9 0 [] q5.2=D0 at iW;rw [iW];refine qa (WkK.of ?_);refine jjF (λ_:Unit=>St.ofB [(0,Bx 89 b),(2,Bx 900000200 b2),(3,Bx 900000300 b3)] [(900000200,ZPl b2 49),(900000300,jyw b3 49 q1.1 (1+q2.1) (1+q3.1) n [] jcF)] 900000000 (λj=>if j=89 then qo b 146 c q5.2 else o j)) ?_ ?_
 ·simp only [go_sem]
  refine kh (jjk c hc 10 q4.2 b _ s4 (by simp only [go_sem])) (by simp only [go_sem]) ?_
  rw [hq5];cases h5:q5.1==0
  ·have e:¬q5.1=0:=by simpa using h5
   rw [if_neg e] at hn;simp only [go_sem,h5];exact ⟨(),(qc [some 900000200,some 900000300] (by simp only [go_sem,km,hn,w2,w3,w4]<;>trivial) (λj hj=>by by_cases e89:j=89<;>simp only [go_sem,e89,hj,if_true,if_false,jB hj 900000200 (by omega),jB hj 900000300 (by omega),km,hn,w2,w3,w4]) (by decide))⟩
  ·have e:q5.1=0:=by simpa using h5
   rw [if_pos e] at hn;simp only [go_sem,h5];exact ⟨(),(qc [some 900000200,some 900000300] (by simp only [go_sem,km,hn,w2,w3,w4]<;>trivial) (λj hj=>by by_cases e89:j=89<;>simp only [go_sem,e89,hj,if_true,if_false,jB hj 900000200 (by omega),jB hj 900000300 (by omega),km,hn,w2,w3,w4]) (by decide))⟩
 rintro ⟨⟩;refine jjF (λi:{i:(List Ed×Cu)×jm//D0=i.1}=>St.ofB [(0,Bx 89 b),(2,Bx 900000200 b2),(3,Bx 900000300 b3)] [(900000200,ZPl b2 49),(900000300,jyw b3 49 q1.1 (1+q2.1) (1+q3.1) n i.1.1.1 i.1.2)] 900000000 (λj=>if j=89 then qo b 146 c i.1.1.2 else o j)) ?_ ?_
 ·simp only [go_sem]
  refine kN (λi:(Nat×List Ed×Cu)×jm=>St.ofB [(0,Bx 89 b),(2,Bx 900000200 b2),(3,Bx 900000300 b3),(4,Ni i.1.1)] [(900000200,ZPl b2 49),(900000300,jyw b3 49 q1.1 (1+q2.1) (1+q3.1) n i.1.2.1 i.2)] 900000000 (λj=>if j=89 then qo b 146 c i.1.2.2 else o j)) (λi=>i.1.1<=8/\i.1.2.1.length<=i.1.1/\i.1.2.2.1<=c.length/\D0=jai c n (9-i.1.1) i.1.1 i.1.2.1 i.1.2.2) (λi=>9-i.1.1) ((0,[],q5.2),jcF) (⟨aNE 8,aMV 0,s5,hD0.symm⟩) (qc [some 900000200,some 900000300] (by simp only [go_sem]<;>trivial) (λj hj=>by by_cases e89:j=89<;>simp only [go_sem,e89,hj,if_true,if_false,jB hj 900000200 (by omega),jB hj 900000300 (by omega)]) (by decide)) ?_
  rintro ⟨⟨ii,E,u⟩,e0⟩ ⟨uW,hEl,hu,l7⟩;dsimp only at uW hEl hu l7;obtain ⟨f,hf⟩:∃f,9-ii=f+1:=⟨8-ii,by omega⟩
  rw [hf] at l7;simp only [go_sem];refine kh (ky c hc 9 u b _ hu (by simp only [go_sem])) (by simp only [go_sem]) ?_
  have u1:=jq (n:=9) hu;have x1:=jN c (n:=9) u (by omega)
  generalize tL:jo c 9 u=p1 at*;by_cases aB:(ii:Int)<p1.1;rotate_left
  ·rw [jl9 (by rw [tL];omega),tL] at l7
   simp only [go_sem,aB];exact ⟨⟨((E,p1.2),e0),l7⟩,(qc [some 900000200,some 900000300] (by simp only [go_sem]<;>trivial) (λj hj=>by by_cases e89:j=89<;>simp only [go_sem,e89,hj,if_true,if_false,jB hj 900000200 (by omega),jB hj 900000300 (by omega)]) (by decide))⟩
  by_cases g9:n>1;rotate_left
  ·rw [jl9 (by omega),tL] at l7
   simp only [go_sem,aB,g9];exact ⟨⟨((E,p1.2),e0),l7⟩,(qc [some 900000200,some 900000300] (by simp only [go_sem]<;>trivial) (λj hj=>by by_cases e89:j=89<;>simp only [go_sem,e89,hj,if_true,if_false,jB hj 900000200 (by omega),jB hj 900000300 (by omega)]) (by decide))⟩
  rw [jv7 (by rw [tL];omega),tL] at l7
  have lV:IntKind.i64.wrap (n-1)=n-1:=zy;simp only [go_sem,aB,g9,lV];refine kh (ky c hc (n-1) p1.2 b _ u1 (by simp only [go_sem])) (by simp only [go_sem,lV]) ?_
  have u2:=jq (n:=n-1) u1;have x2:=jN c (n:=n-1) p1.2 (by omega)
  generalize tK:jo c (n-1) p1.2=p2 at*;have bS:IntKind.i64.wrap (1+p2.1)=1+p2.1:=zy;simp only [go_sem,bS];refine kh (ky c hc (1+p2.1) p2.2 b _ u2 (by simp only [go_sem])) (by simp only [go_sem,bS]) ?_
  have u3:=jq (n:=1+p2.1) u2;have x3:=jN c (n:=1+p2.1) p2.2 (by omega)
  generalize hp3:jo c (1+p2.1) p2.2=p3 at*;simp only [go_sem,bS];intro b6;obtain ⟨e,he⟩:∃e:Ed,e=⟨p3.1,1+p2.1⟩:=⟨_,rfl⟩;have mT:p3.1=e.src:=by rw [he]
  have cB:1+p2.1=e.dst:=by rw [he]
  rw [<-he] at l7;have iR:=kX ii;refine vo (λi:Nat=>St.ofB [(0,Bx 89 b),(2,Bx 900000200 b2),(3,Bx 900000300 b3),(4,Ni ii),(6,Bx 900000600 b6),(7,.c (.v (.bool (decide (e∈E.take i))))),(8,Ni i)] [(900000200,ZPl b2 49),(900000300,jyw b3 49 q1.1 (1+q2.1) (1+q3.1) n E e0),(900000600,.box b6 161 [.a (.v (.int .i64 e.src)),.a (.v (.int .i64 e.dst))])] 900000000 (λj=>if j=89 then qo b 146 c p3.2 else o j)) (λi=>i<=E.length) (λi=>E.length-i) 0 (qc [some 900000200,some 900000300,some 900000600] (by simp only [go_sem,aNM,List.not_mem_nil,decide_false,bS,mT,cB]<;>trivial) (λj hj=>by by_cases e89:j=89<;>simp only [go_sem,e89,hj,if_true,if_false,jB hj 900000200 (by omega),jB hj 900000300 (by omega),jB hj 900000600 (by omega),aNM,List.not_mem_nil,decide_false,bS,mT,cB]) (by decide)) ?_
  rintro k hk;by_cases cZ:k<E.length
  ·have nD:(k:Int)<(E.length:Int):=by omega
   have bD:=qT k;obtain ⟨x,hx⟩:=jd cZ;have gF:=kX k;have dO:E.take (k+1)=E.take k++[x]:=by rw [aMT,hx];rfl
   by_cases hm:e∈E.take k
   ·have h1:decide (e∈E.take k)=true:=decide_eq_true hm
    have h2:decide (e∈E.take (k+1))=true:=decide_eq_true (by rw [dO];simp [hm])
    simp only [go_sem,nD,h1];exact ql (k+1) (qc [some 900000200,some 900000300,some 900000600] (by simp only [go_sem,h2,gF]<;>trivial) (λj hj=>by by_cases e89:j=89<;>simp only [go_sem,e89,hj,if_true,if_false,jB hj 900000200 (by omega),jB hj 900000300 (by omega),jB hj 900000600 (by omega),h2,gF]) (by decide))
   ·have h1:decide (e∈E.take k)=false:=decide_eq_false hm
    by_cases nP:x=e
    ·have h2:decide (e∈E.take (k+1))=true:=decide_eq_true (by rw [dO];simp [nP])
     have h3:decide (x=e)=true:=decide_eq_true nP;simp only [go_sem,nD,cZ,bD,h1,jpq hx,joO cZ,jR,h3];exact ql (k+1) (qc [some 900000200,some 900000300,some 900000600] (by simp only [go_sem,h2,gF,h3]<;>trivial) (λj hj=>by by_cases e89:j=89<;>simp only [go_sem,e89,hj,if_true,if_false,jB hj 900000200 (by omega),jB hj 900000300 (by omega),jB hj 900000600 (by omega),h2,gF,h3]) (by decide))
    ·have h2:decide (e∈E.take (k+1))=false:=decide_eq_false (by rw [dO];simp [hm];exact λh=>nP h.symm)
     have h3:decide (x=e)=false:=decide_eq_false nP;simp only [go_sem,nD,cZ,bD,h1,jpq hx,joO cZ,jR,h3];exact ql (k+1) (qc [some 900000200,some 900000300,some 900000600] (by simp only [go_sem,h2,gF,h3]<;>trivial) (λj hj=>by by_cases e89:j=89<;>simp only [go_sem,e89,hj,if_true,if_false,jB hj 900000200 (by omega),jB hj 900000300 (by omega),jB hj 900000600 (by omega),h2,gF,h3]) (by decide))
  ·obtain rfl:k=E.length:=by omega
   have nD:¬((E.length:Nat):Int)<(E.length:Int):=by omega
   rw [aOI];by_cases hm:e∈E
   ·have h1:decide (e∈E)=true:=decide_eq_true hm
    rw [if_pos hm] at l7;simp only [go_sem,nD,h1];exact ⟨((ii+1,E,p3.2),e0),⟨by dsimp only;omega,by dsimp only;omega,u3,by rw [show 9-(ii+1)=f by omega];exact l7⟩,(qc [some 900000200,some 900000300] (by simp only [go_sem,iR]<;>trivial) (λj hj=>by by_cases e89:j=89<;>simp only [go_sem,e89,hj,if_true,if_false,jB hj 900000200 (by omega),jB hj 900000300 (by omega),jB hj 900000600 (by omega),iR]) (by decide)),by (try dsimp only);omega⟩
   ·have h1:decide (e∈E)=false:=decide_eq_false hm
    rw [if_neg hm] at l7;simp only [go_sem,nD,h1];intro e1;refine ⟨by unfold maxLen;omega,by omega,λe2=>?_⟩
    exact ⟨((ii+1,E++[e],p3.2),e2),⟨by dsimp only;omega,by dsimp only;simp;omega,u3,by rw [show 9-(ii+1)=f by omega];exact l7⟩,(qc [some 900000200,some 900000300] (by simp only [go_sem,iR,jvV]<;>trivial) (λj hj=>by by_cases e89:j=89<;>simp only [go_sem,e89,hj,if_true,if_false,jB hj 900000200 (by omega),jB hj 900000300 (by omega),jB hj 900000600 (by omega),jB hj 900006800 (by omega),jB hj 900006900 (by omega),iR,jvV]) (by decide)),by (try dsimp only);omega⟩
 rintro ⟨⟨⟨E,u⟩,e0⟩,l7⟩;dsimp only at l7;subst l7;simp only [go_sem];refine qa ?_;refine qY 900000300 4 86 (d:=jv E) (η:=e0) (by simp only [go_sem]) (by simp only [go_sem,rO]) (by decide) λhx=>?_
 refine WkK.of ?_;simp only [go_sem,hx];exact ⟨e0,rfl,hx,rfl,λg g1 g2 g3=>by simp only [g2,g3,g1,jB g1 900000200 (by omega),jB g1 900000300 (by omega),if_true,if_false]⟩
abbrev YdHs (y:Yd) (x2 x3:Value):AV:=.agg [.v (.int .i64 y.now),.v (.int .i64 y.seq),.hs 94 0 [] x2 1 0 y.aLU.length,.hs 95 0 [] x3 8 0 y.aLX.length]
abbrev tup3 (a b c:Int):AV:=.tup [(false,[.v (.int .i64 a)]),(false,[.v (.int .i64 b)]),(false,[.v (.int .i64 c)])]
theorem jzc {l:List Rn} {k:Nat} {r:Rn} (h:l[k]?=some r):((l.flatMap jc).drop (k*8)).take 1=[.val (.int .i64 r.id)]:=qA (enc:=jc) (size:=8) (λ_=>rfl) h (j:=0) (n:=1) (by decide)
theorem jyV {l:List Rn} {k:Nat} {r:Rn} (h:l[k]?=some r):k*8+1<=(l.flatMap jc).length:=qG (enc:=jc) (size:=8) (λ_=>rfl) h (j:=0) (n:=1) (by decide)
theorem juN {s:St} {a b c:Nat} {x y z:A0} {K:AV->(Nat->Ob)->Prop} (ha:s.t a=.c x) (hb:s.t b=.c y) (hc:s.t c=.c z) (h:K (.tup [(false,[x]),(false,[y]),(false,[z])]) s.o):jtM [.t a,.t b,.t c] K s:=by
 simp only [jtM,jis,ha,hb,hc];exact h
def jeB:C:=iS [iA 2 (.box 52 8 (.t 0)),iA 4 (.mov (.c (.slice none 0 0)))] (iS [iA 7 (.bsl 3 1 0 [] []),aM 5 7] (.seq (iS [aN 6 0] (.blk 0 (.loop (.seq (iS [aM 8 6,aF 9 7 2,aL 10 9,aG 11 10,aP 12 .lss 3 8 11] (iD 12 .skip (.exit 0))) (.seq (.blk 1 (iS [aF 15 7 2,aL 16 15,aM 17 6,aI 18 4 16 17,aF 19 0 18,aL 20 19,aM 21 1,aP 22 .eql 3 20 21] (iD 22 (.reg [aM 23 5,aM 24 6,iA 25 (wAW [(0,1,.t 24)]),iA 26 (wA3 23 25),aM 5 26]) .skip))) (.reg [aM 13 6,aQ 14 .add 3 13 1,aM 6 14])))))) (iS [aM 27 5,aM 4 27] .ret)))
theorem jhE:fnC Tryz.prog Tryz.f199=some (jeB,[.t 4],28):=by kernel_rfl
def jep:C:=iS [iA 3 (.box 27 4 (.t 1)),aN 4 0,aN 5 0,aN 6 0] (.seq (iS [aN 7 0] (.blk 0 (.loop (.seq (iS [aM 11 7,aF 12 3 3,aL 13 12,aG 14 13,aP 15 .lss 3 11 14] (iD 15 .skip (.exit 0))) (.seq (.blk 1 (iS [aF 18 3 3,aL 19 18,aM 20 7,aI 21 8 19 20,aT 22 8 21,iA 23 (.call 199 [.t 22,oI 3]),aM 8 23] (iS [aM 24 8,aG 25 24,aQ 26 .gtr 3 25 0,aM 27 26,iB 28 27 true (iM 0),iB 29 27 true (.call 160 [.t 28,oI 5]),iB 30 27 true (iU 29),iA 31 (iY 27 (.t 30) (oF))] (iD 31 (iS [aM 32 8,aM 33 0,aM 34 8,aG 35 34,iA 36 (iK 60 [33,35]),aI 37 1 32 36,aL 38 37,aM 9 38] (iS [aF 39 3 3,aL 40 39,aM 41 7,aI 42 8 40 41,aF 43 7 42,aL 44 43,aM 45 9,aI 46 4 44 45,aF 47 2 46,aL 48 47,aM 10 48] (.seq (iS [aM 49 0,iA 50 (.call 160 [.t 49,oI 8])] (iD 50 (.reg [aM 51 10,aQ 52 .sub 3 51 1,aM 53 0,iA 54 (.call 60 [.t 53,oI 2]),iA 55 (.bin .mul 3 (oI 2) (.t 54)),aP 56 .add 3 52 55,aM 10 56]) .skip)) (iS [aF 57 3 3,aL 58 57,aM 59 7,aI 60 8 58 59,aF 61 0 60,aL 62 61,aM 63 9,aM 64 10,aM 4 62,aM 5 63,aM 6 64] .ret)))) .skip)))) (.reg [aM 16 7,aQ 17 .add 3 16 1,aM 7 17])))))) (iS [aM 65 0,iA 66 (.call 60 [.t 65,oI 5]),iA 67 (.bin .add 3 (oI 1) (.t 66)),aM 68 0,iA 69 (.call 60 [.t 68,oI 6]),aQ 70 .sub 3 69 1,aM 71 0,iA 72 (.call 60 [.t 71,oI 4]),aM 4 67,aM 5 70,aM 6 72] .ret))
theorem jhs:fnC Tryz.prog Tryz.f184=some (jep,[.t 4,.t 5,.t 6],73):=by kernel_rfl
theorem jkU (r:Rn) (s:Int) (hl:r.aLT.length<=2000000):kg Tryz.prog 199 [.agg (jc r),.c (.val (.int .i64 s))] (.c (je (qQ s r.aLT))):=by
 refine pf_ jhE ?_;unfold jeB;simp only [go_sem,jc,ja];intro b fG;refine vo (λi:Nat×jm=>St.of [(1,Ni s),(2,Bx 200 b),(5,Hd 5 i.2),(6,Ni i.1)] [(200,Bi b _ (jc r)),(5,.loose (je (zh s r.aLT i.1)) i.2)]) (λi=>i.1<=r.aLT.length) (λi=>r.aLT.length-i.1) (0,fG) (jy [200,700] (by simp only [go_sem,jc,ja,jyz,jp9]<;>trivial)) ?_
 rintro ⟨k,η⟩ hk;dsimp only at hk;by_cases aB:k<r.aLT.length
 ·have aA:(k:Int)<r.aLT.length:=by omega
  have bD:=qT k;obtain ⟨x,hx⟩:=jd aB;have hw:=kX k;have hc:=jcK hx s;have cX:=vx s r.aLT k;generalize zh s r.aLT k=R at*;have eI:R.length+1<=maxLen:=by unfold maxLen;omega
  have eC:(R.length+1)*8<=140737488355328:=by omega
  by_cases h2:x.aLV=s
  ·have bI:(x.aLV==s)=true:=by simpa using h2
   rw [if_pos h2] at hc;simp only [go_sem,jc,ja,aB,aA,bD,jS hx,jk,bI,eI,eC,vC];intro cT fO;simp only [go_sem,hw];exact ql (k+1,fO) (jy [200,2600] (by simp only [go_sem,jc,ja,hc]<;>trivial))
  ·have bI:(x.aLV==s)=false:=by simpa using h2
   rw [if_neg h2,aNI] at hc;simp only [go_sem,jc,ja,aB,aA,bD,jS hx,jk,bI,hw];exact ql (k+1,η) (jy [200,5] (by simp only [go_sem,jc,ja,hc]<;>trivial))
 have aA:¬(k:Int)<r.aLT.length:=by omega
 obtain rfl:k=r.aLT.length:=by omega
 simp only [go_sem,jc,ja,aA,qQ]
theorem jrA (c:List UInt8) (hc:c.length<=1048576) (y:Yd) (hy:YdI y) (s:Cu) (b:Nat) (o:Nat->Ob) (f2 f3:jm) (hs:s.1<=c.length) (ho:o 89=qo b 146 c s) (rN:o 94=.loose (ku y.aLU) f2) (lS:o 95=.loose (jI y.aLX) f3):
 Inl Tryz.prog 184 [Bx 89 b,YdHs y (f2 []) (f3 [])] o λav o2=>av=tup3 (qD c y s).1.1 (qD c y s).1.2.1 (qD c y s).1.2.2/\o2 89=qo b 146 c (qD c y s).2/\∀g,g<800000000->g≠89->o2 g=o g:=by
 refine qv (β:=8000000) Tryz.func184 jhs (by simp) ?_
 unfold jep;have h8:=hy.rns.eight;simp only [go_sem];intro b3;have uK:=jCC (g:=95) (sz:=8) (d:=jI y.aLX) (η:=f3) rfl rfl (vB _) (by decide)
 have fS:∀r s',jbO c y.aLX s=(r,s')->qD c y s=match (r,s') with
  |(some x,s)=>(x,s)
  |(none,s)=>let a:=jo c 5 s;let b:=jo c 6 a.2;let d:=jo c 4 b.2;((1+a.1,b.1-1,d.1),d.2):=λr s' h=>by rw [qD,h]<;>rfl
 refine kN (λi:Nat×Cu=>St.ofB [(0,Bx 89 b),(3,Bx 800000300 b3),(7,Ni i.1)] [(800000300,.box b3 tYd [.a (.v (.int .i64 y.now)),.a (.v (.int .i64 y.seq)),.a (.hs 94 0 [] (f2 []) 1 0 y.aLU.length),.a (.hs 95 0 [] (f3 []) 8 0 y.aLX.length)])] 800000000 (λj=>if j=89 then qo b 146 c i.2 else o j)) (λi=>i.1<=y.aLX.length/\i.2.1<=c.length/\jbO c y.aLX s=jbO c (y.aLX.drop i.1) i.2) (λi=>y.aLX.length-i.1) (0,s) (⟨aNE _,hs,rfl⟩) (qc [some 800000300] (by simp only [go_sem,ho]<;>trivial) (λj hj=>by by_cases e89:j=89<;>simp only [go_sem,e89,hj,if_true,if_false,jB hj 800000300 (by omega),ho]) (by decide)) ?_
 rintro ⟨k,u⟩ ⟨hk,hu,hH⟩;dsimp only at hk hu hH;by_cases aB:k<y.aLX.length;rotate_left
 ·have aA:¬(k:Int)<y.aLX.length:=by omega
  rw [List.drop_eq_nil_of_le (by omega),jbO] at hH
  rw [fS _ _ hH];dsimp only;simp only [go_sem,aA,uK,lS];refine kh (ky c hc 5 u b _ hu (by simp only [go_sem])) (by simp only [go_sem]) ?_
  have u1:=jq (n:=5) hu;have x1:=jN c (n:=5) u (by omega)
  generalize jo c 5 u=p1 at*;have w1:IntKind.i64.wrap (1+p1.1)=1+p1.1:=zy;simp only [go_sem,w1];refine kh (ky c hc 6 p1.2 b _ u1 (by simp only [go_sem])) (by simp only [go_sem]) ?_
  have u2:=jq (n:=6) u1;have x2:=jN c (n:=6) p1.2 (by omega)
  generalize jo c 6 p1.2=p2 at*;have w2:IntKind.i64.wrap (p2.1-1)=p2.1-1:=zy;simp only [go_sem,w2];refine kh (ky c hc 4 p2.2 b _ u2 (by simp only [go_sem])) (by simp only [go_sem]) ?_
  have x3:=jN c (n:=4) p2.2 (by omega)
  generalize jo c 4 p2.2=p3 at*;simp only [go_sem,w1,w2];exact juN (by simp only [go_sem,w1]) (by simp only [go_sem,w2]) (by simp only [go_sem]) ⟨rfl,by simp only [go_sem],λg g1 g2=>by simp only [go_sem,g1,g2,jB g1 800000300 (by omega),if_true,if_false]⟩
 have aA:(k:Int)<y.aLX.length:=by omega
 have bD:=qT k;obtain ⟨r,hr⟩:=jd aB;have cC:=(hy.rns.right r (aMJ hr)).le12;simp only [go_sem,aA,uK,lS,aB,bD,aMX,jkJ hr,je9 hr,jc,ja];refine jn (jkU r 3 (by omega)) (by simp only [go_sem,jc,ja,lS,jf0 hr,jW hr]) λyN=>?_
 simp only [go_sem,jc,ja,lS,jf0 hr,jW hr];have gF:=kX k
 have hd:y.aLX.drop k=r::y.aLX.drop (k+1):=by
  obtain ⟨hk,rfl⟩:=aMI.1 hr;exact aOC hk
 rw [hd,jbO] at hH;dsimp only at hH;have d9:=λv:Int=>@tinL_mem 3 r.aLT v
 have cP:=vx 3 r.aLT r.aLT.length;rw [show zh 3 r.aLT r.aLT.length=qQ 3 r.aLT from rfl] at cP
 generalize qQ 3 r.aLT=L at*;by_cases hL:L=[]
 ·subst hL
  rw [if_pos rfl] at hH;have hz:¬((([]:List Int).length:Int)>0):=by simp
  simp only [go_sem,hz,gF];exact ⟨(k+1,u),⟨aB,hu,hH⟩,(qc [some 800000300] (by simp only [go_sem,gF]<;>trivial) (λj hj=>by by_cases e89:j=89<;>simp only [go_sem,e89,hj,if_true,if_false,jB hj 800000300 (by omega),jB hj 800002300 (by omega),gF]) (by decide)),by (try dsimp only);omega⟩
 rw [if_neg hL] at hH;have hLp:0<L.length:=List.length_pos_iff.2 hL;have hz:((L.length:Int)>0):=by omega
 simp only [go_sem,hz];refine kh (jjk c hc 5 u b _ hu (by simp only [go_sem])) (by simp only [go_sem]) ?_
 have u1:=jq (n:=5) hu;generalize jo c 5 u=p1 at*;by_cases h5:p1.1=0
 ·have mD:(p1.1==0)=true:=by simp [h5]
  rw [if_pos h5] at hH;simp only [go_sem,mD,gF];exact ⟨(k+1,p1.2),⟨aB,u1,hH⟩,(qc [some 800000300] (by simp only [go_sem,gF]<;>trivial) (λj hj=>by by_cases e89:j=89<;>simp only [go_sem,e89,hj,if_true,if_false,jB hj 800000300 (by omega),jB hj 800002300 (by omega),gF]) (by decide)),by (try dsimp only);omega⟩
 have mD:(p1.1==0)=false:=by simp [h5]
 rw [if_neg h5] at hH;simp only [go_sem,mD];refine kh (ky c hc L.length p1.2 b _ u1 (by simp only [go_sem])) (by simp only [go_sem]) ?_
 have u2:=jq (n:=(L.length:Int)) u1;have x2:=jN c (n:=(L.length:Int)) p1.2 (by omega)
 generalize jo c L.length p1.2=p2 at*;obtain ⟨j,hj⟩:=Int.eq_ofNat_of_zero_le x2.1;rw [hj] at x2;have bJ:j<L.length:=by omega
 have dU:=qT j;obtain ⟨v,hv⟩:=jd bJ;obtain ⟨t,x,hvt,hx,gS⟩:=(d9 v).1 (aMJ hv);have lX:=(aMI.1 hx).1;have eY:=qT t;rw [hj,aMQ,hv,aMM,hvt,aMQ,hx] at hH;rw [hvt] at hv;have iJ:j+1<=(L.flatMap λn=>[iv n]).length:=by have:=jf bJ;rwa [aMZ] at this
 have lA:((L.flatMap λn=>[iv n]).drop j).take 1=[iv (t:Int)]:=by have:=jg hv;rwa [aMZ] at this
 simp only [go_sem,hj,dU,bJ,iJ,lA,aMZ,uK,lS,aB,bD,aMX,qL hr,qU hr,jW hr,lX,eY,jmg hx,jl0 hx];simp only [Option.map_some,aMM] at hH;refine kh (jjk c hc 8 p2.2 b _ u2 (by simp only [go_sem])) (by simp only [go_sem]) ?_
 have u3:=jq (n:=8) u2;generalize jo c 8 p2.2=p3 at*;by_cases mC:p3.1=0
 ·have h8b:(p3.1==0)=true:=by simp [mC]
  rw [if_pos mC] at hH;simp only [go_sem,h8b];refine kh (ky c hc 2 p3.2 b _ u3 (by simp only [go_sem])) (by simp only [go_sem]) ?_
  have x4:=jN c (n:=2) p3.2 (by omega)
  generalize jo c 2 p3.2=p4 at*;have w4:IntKind.i64.wrap (2*p4.1)=2*p4.1:=zy;rw [fS _ _ hH];dsimp only;simp only [go_sem,w4,uK,lS,aB,bD,aMX,jzc hr,jyV hr];exact juN (by simp only [go_sem]) (by simp only [go_sem]) (by simp only [go_sem,w4]) ⟨rfl,by simp only [go_sem],λg g1 g2=>by simp only [go_sem,g1,g2,jB g1 800000300 (by omega),jB g1 800002300 (by omega),if_true,if_false]⟩
 ·have h8b:(p3.1==0)=false:=by simp [mC]
  rw [if_neg mC] at hH;rw [fS _ _ hH];dsimp only;simp only [go_sem,h8b,uK,lS,aB,bD,aMX,jzc hr,jyV hr];exact juN (by simp only [go_sem]) (by simp only [go_sem]) (by simp only [go_sem]) ⟨rfl,by simp only [go_sem],λg g1 g2=>by simp only [go_sem,g1,g2,jB g1 800000300 (by omega),jB g1 800002300 (by omega),if_true,if_false]⟩
abbrev DdAV (d:Dd) (g:Nat) (e:jm):AV:=.agg [.v (.int .i64 d.aMD),.v (.int .i64 d.run),.v (.int .i64 d.aLW.aMC),.v (.int .i64 d.aLW.aMG),.v (.int .i64 d.aLW.aMF),.v (.int .i64 d.aLW.aLT),.h g 6 [] (e []),.v (.int .i64 d.aMA),.v (.int .i64 d.tri),.v (.int .i64 d.aLZ),.v (.int .i64 d.aMB)]
def jen:C:=iS [iA 3 (.box 27 4 (.t 1)),iA 4 wAQ] (iS [aM 12 0,iA 13 (.call 60 [.t 12,oI 20]),aM 5 13] (.seq (.blk 0 (iS [aM 15 5,aQ 16 .lss 3 15 6,aM 14 16] (iD 14 (iS [aM 17 0,iA 18 (.call 60 [.t 17,oI 8]),aM 19 0,iA 20 (.call 60 [.t 19,oI 7]),iA 21 (wAT [(0,1,oI 2),(9,1,.t 18),(10,1,.t 20)]),wAE 4 21] .ret) (iS [aM 23 5,aQ 24 .lss 3 23 10,aM 22 24] (iD 22 (iS [aM 25 0,iA 26 (.call 60 [.t 25,oI 9]),iA 27 (.bin .add 3 (oI 1) (.t 26)),aM 28 0,iA 29 (iK 108 [28]),iA 30 (wAT [(0,1,oI 1),(1,1,.t 27),(2,5,.t 29)]),wAE 4 30] .ret) (iS [aM 32 5,aQ 33 .lss 3 32 15,aM 31 33] (iD 31 (iS [aM 35 0,aT 36 4 3,iA 37 (iK 184 [35,36]),aM 34 37,aE 38 34 0,aE 39 34 1,aE 40 34 2,aM 6 38,aM 7 39,aM 8 40] (iS [aM 41 6,aM 42 7,iA 43 (.call 134 [.t 42,oI 0,oI 99]),aM 44 8,iA 45 (.call 134 [.t 44,oI 0,oI 99]),iA 46 (wAT [(0,1,oI 3),(1,1,.t 41),(7,1,.t 43),(8,1,.t 45)]),wAE 4 46] .ret)) (iS [aM 48 5,aQ 49 .eql 3 48 15,aM 47 49] (iD 47 (iS [aM 51 0,aT 52 4 3,iA 53 (iK 184 [51,52]),aM 50 53,aE 54 50 0,aE 55 50 1,aE 56 50 2,aM 9 54,aM 10 55,aM 11 56] (iS [aM 57 9,aM 58 10,iA 59 (.call 134 [.t 58,oI 0,oI 99]),aM 60 11,iA 61 (.call 134 [.t 60,oI 0,oI 99]),iA 62 (wAT [(0,1,oI 4),(1,1,.t 57),(7,1,.t 59),(8,1,.t 61)]),wAE 4 62] .ret)) (iS [aM 64 5,aQ 65 .eql 3 64 16,aM 63 65] (iD 63 (iS [iA 66 (wAT [(0,1,oI 5)]),wAE 4 66] .ret) (iS [aM 68 5,aQ 69 .eql 3 68 17,aM 67 69] (iD 67 (iS [aM 70 0,iA 71 (.call 60 [.t 70,oI 9]),iA 72 (.bin .add 3 (oI 1) (.t 71)),iA 73 (wAT [(0,1,oI 6),(1,1,.t 72)]),wAE 4 73] .ret) (iS [aM 75 5,aQ 76 .eql 3 75 18,aM 74 76] (iD 74 (iS [aM 77 0,iA 78 (.call 60 [.t 77,oI 9]),iA 79 (.bin .add 3 (oI 1) (.t 78)),iA 80 (wAT [(0,1,oI 7),(1,1,.t 79)]),wAE 4 80] .ret) .skip))))))))))))))) (.seq (iS [aM 81 0,iA 82 (.call 160 [.t 81,oI 3])] (iD 82 (iS [iA 83 (wAT [(0,1,oI 8)]),wAE 4 83] .ret) .skip)) (iS [iA 84 (wAT [(0,1,oI 5)]),wAE 4 84] .ret))))
theorem jhq:fnC Tryz.prog Tryz.f142=some (jen,[.cell 4 true 11],85):=by kernel_rfl
theorem jxM (c:List UInt8) (hc:c.length<=1048576) (y:Yd) (hy:YdI y) (s:Cu) (b:Nat) (o:Nat->Ob) (f2 f3:jm) (hs:s.1<=c.length) (ho:o 89=qo b 146 c s) (rO:o 86=.none) (rN:o 94=.loose (ku y.aLU) f2) (lS:o 95=.loose (jI y.aLX) f3):
 Inl Tryz.prog 142 [Bx 89 b,YdHs y (f2 []) (f3 [])] o λav o2=>∃(e:jm) (b4:Nat),av=DdAV (qy c y s).1 700000400 e/\o2 700000400=DdR b4 60 (qy c y s).1 e/\o2 89=qo b 146 c (qy c y s).2/\∀g,g<700000000->g≠86->g≠89->o2 g=o g:=by
 refine jlZ (β:=7000000) [[1,1,0,0,1,0,1],[1,1,0,0,1,1,1,0,1],[1,1,0,0,1,1,1,1,1,0,1,1],[1,1,0,0,1,1,1,1,1,1,1,0,1,1],[1,1,0,0,1,1,1,1,1,1,1,1,1,0,1],[1,1,0,0,1,1,1,1,1,1,1,1,1,1,1,0,1],[1,1,0,0,1,1,1,1,1,1,1,1,1,1,1,1,1,0,1],[1,1,1,0,1,0,1],[1,1,1,1,1]] Tryz.func142 jhq (by simp) ?_
 unfold jen;simp only [C.ghs,C.ghAt,List.foldr];simp only [go_sem];intro b3 b4;refine kh (ky c hc 20 s b _ hs (by simp only [go_sem,ho])) (by simp only [go_sem]) ?_
 have s1:=jq (n:=20) hs;have x1:=jN c (n:=20) s (by omega)
 generalize l0:jo c 20 s=q1 at*;by_cases c1:q1.1<6
 ·simp only [go_sem,c1]
  refine kh (ky c hc 8 q1.2 b _ s1 (by simp only [go_sem])) (by simp only [go_sem]) ?_
  have s2:=jq (n:=8) s1;have x2:=jN c (n:=8) q1.2 (by omega)
  generalize lZ:jo c 8 q1.2=q2 at*;simp only [go_sem];refine kh (ky c hc 7 q2.2 b _ s2 (by simp only [go_sem])) (by simp only [go_sem]) ?_
  have s3:=jq (n:=7) s2;have x3:=jN c (n:=7) q2.2 (by omega)
  generalize hq3:jo c 7 q2.2=q3 at*;have hd:qy c y s=(⟨2,0,plZ,0,0,q2.1,q3.1⟩,q3.2):=by simp only [qy,l0,if_pos c1,lZ,hq3]
  rw [hd];simp only [go_sem,ho];refine qa ?_;refine WkK.wk (s':=St.ofB [(4,Bx 700000400 b4)] [(700000400,DdR b4 60 ⟨2,0,plZ,0,0,q2.1,q3.1⟩ jcF)] 700000000 (λj=>if j=89 then qo b 146 c q3.2 else o j)) (qc [some 700000400] (by simp only [go_sem,km,ho]<;>trivial) (λj hj=>by by_cases e89:j=89<;>simp only [go_sem,e89,hj,if_true,if_false,jB hj 700000400 (by omega),jB hj 700000300 (by omega),km,ho]) (by decide)) ?_
  refine WkK.of ?_;simp only [go_sem];exact ⟨jcF,b4,rfl,rfl,λg g1 g2 g3=>by simp only [g1,g3,jB g1 700000400 (by omega),if_true,if_false]⟩
 by_cases c2:q1.1<10
 ·simp only [go_sem,c1,c2]
  refine kh (ky c hc 9 q1.2 b _ s1 (by simp only [go_sem])) (by simp only [go_sem]) ?_
  have s2:=jq (n:=9) s1;have x2:=jN c (n:=9) q1.2 (by omega)
  generalize lZ:jo c 9 q1.2=q2 at*;have w2:IntKind.i64.wrap (1+q2.1)=1+q2.1:=zy;simp only [go_sem,w2];refine kL (by simp only [go_sem]) (jvA c hc q2.2 b _ s2 (by simp only [go_sem]) (by simp only [go_sem,rO])) λav o' ⟨e,lN,bK,o1,o2,hk⟩=>?_
  subst lN;have k4:=hk 700000400 (by decide) (by decide) (by decide)
  have kall:∀g,g<700000000->o' g=if g=89 then qo b 146 c (jcG c q2.2).2 else if g=86 then .loose (jv (jcG c q2.2).1.aLY) e else o g:=λg hg=>by
   by_cases h1:g=89
   ·subst h1;rw [o2];rfl
   ·by_cases h2:g=86
    ·subst h2;rw [o1];rfl
    ·rw [hk g (by omega) h2 h1,if_neg h1,if_neg h2]
     simp only [go_sem,h1,h2,jB hg 700000300 (by omega),jB hg 700000400 (by omega),if_false]
  simp only [go_sem] at k4;have hd:qy c y s=(⟨1,1+q2.1,(jcG c q2.2).1,0,0,0,0⟩,(jcG c q2.2).2):=by simp only [qy,l0,if_neg c1,if_pos c2,lZ]
  rw [hd];generalize jcG c q2.2=p at*;simp only [go_sem,k4,bK,w2];refine qa ?_;refine WkK.wk (s':=St.ofB [(4,Bx 700000400 b4)] [(700000400,.box b4 60 [.a (.v (.int .i64 1)),.a (.v (.int .i64 (1+q2.1))),.a (.v (.int .i64 p.1.aMC)),.a (.v (.int .i64 p.1.aMG)),.a (.v (.int .i64 p.1.aMF)),.a (.v (.int .i64 p.1.aLT)),.a (.v (e [])),.a (.v (.int .i64 0)),.a (.v (.int .i64 0)),.a (.v (.int .i64 0)),.a (.v (.int .i64 0))])] 700000000 (λj=>if j=89 then qo b 146 c p.2 else if j=86 then .loose (jv p.1.aLY) e else o j)) (qc [some 700000400] (by simp only [go_sem,w2,kall]<;>trivial) (λj hj=>by by_cases e89:j=89<;>by_cases e86:j=86<;>simp only [go_sem,e89,e86,hj,if_true,if_false,jB hj 700000400 (by omega),w2,kall]) (by decide)) ?_
  refine ve 700000400 6 86 (d:=jv p.1.aLY) (η:=e) rfl rfl rfl ?_;refine WkK.of ?_;simp only [go_sem];exact ⟨e,b4,rfl,rfl,λg g1 g2 g3=>by simp only [g1,g2,g3,jB g1 700000400 (by omega),if_true,if_false]⟩
 by_cases c3:q1.1<15
 ·simp only [go_sem,c1,c2,c3]
  refine kL (by simp only [go_sem]) (jrA c hc y hy q1.2 b _ f2 f3 s1 (by simp only [go_sem]) (by simp only [go_sem,rN]) (by simp only [go_sem,lS])) λav o' ⟨lN,o2,hk⟩=>?_
  subst lN;have k4:=hk 700000400 (by decide) (by decide)
  have kall:∀g,g<700000000->o' g=if g=89 then qo b 146 c (qD c y q1.2).2 else o g:=λg hg=>by
   by_cases h1:g=89
   ·subst h1;rw [o2];rfl
   ·rw [hk g (by omega) h1,if_neg h1]
    simp only [go_sem,h1,jB hg 700000300 (by omega),jB hg 700000400 (by omega),if_false]
  simp only [go_sem] at k4;simp only [go_sem];refine jx (vN (qD c y q1.2).1.2.1 0 99) λη=>?_
  simp only [go_sem];refine jx (vN (qD c y q1.2).1.2.2 0 99) λη=>?_
  simp only [go_sem];have hd:qy c y s=(⟨3,(qD c y q1.2).1.1,plZ,brI (qD c y q1.2).1.2.1 0 99,brI (qD c y q1.2).1.2.2 0 99,0,0⟩,(qD c y q1.2).2):=by simp only [qy,l0,if_neg c1,if_neg c2,if_pos c3]
  rw [hd];simp only [go_sem,k4,kall];refine qa ?_;refine WkK.wk (s':=St.ofB [(4,Bx 700000400 b4)] [(700000400,DdR b4 60 ⟨3,(qD c y q1.2).1.1,plZ,brI (qD c y q1.2).1.2.1 0 99,brI (qD c y q1.2).1.2.2 0 99,0,0⟩ jcF)] 700000000 (λj=>if j=89 then qo b 146 c (qD c y q1.2).2 else o j)) (qc [some 700000400] (by simp only [go_sem,km,k4,kall]<;>trivial) (λj hj=>by by_cases e89:j=89<;>simp only [go_sem,e89,hj,if_true,if_false,jB hj 700000400 (by omega),jB hj 700000300 (by omega),km,k4,kall]) (by decide)) ?_
  refine WkK.of ?_;simp only [go_sem];exact ⟨jcF,b4,rfl,rfl,λg g1 g2 g3=>by simp only [g1,g3,jB g1 700000400 (by omega),if_true,if_false]⟩
 by_cases c4:q1.1=15
 ·have b4':(q1.1==15)=true:=by simp [c4]
  simp only [go_sem,c1,c2,c3,b4'];refine kL (by simp only [go_sem]) (jrA c hc y hy q1.2 b _ f2 f3 s1 (by simp only [go_sem]) (by simp only [go_sem,rN]) (by simp only [go_sem,lS])) λav o' ⟨lN,o2,hk⟩=>?_
  subst lN;have k4:=hk 700000400 (by decide) (by decide)
  have kall:∀g,g<700000000->o' g=if g=89 then qo b 146 c (qD c y q1.2).2 else o g:=λg hg=>by
   by_cases h1:g=89
   ·subst h1;rw [o2];rfl
   ·rw [hk g (by omega) h1,if_neg h1]
    simp only [go_sem,h1,jB hg 700000300 (by omega),jB hg 700000400 (by omega),if_false]
  simp only [go_sem] at k4;simp only [go_sem];refine jx (vN (qD c y q1.2).1.2.1 0 99) λη=>?_
  simp only [go_sem];refine jx (vN (qD c y q1.2).1.2.2 0 99) λη=>?_
  simp only [go_sem];have hd:qy c y s=(⟨4,(qD c y q1.2).1.1,plZ,brI (qD c y q1.2).1.2.1 0 99,brI (qD c y q1.2).1.2.2 0 99,0,0⟩,(qD c y q1.2).2):=by simp only [qy,l0,if_neg c1,if_neg c2,if_neg c3,if_pos c4]
  rw [hd];simp only [go_sem,k4,kall];refine qa ?_;refine WkK.wk (s':=St.ofB [(4,Bx 700000400 b4)] [(700000400,DdR b4 60 ⟨4,(qD c y q1.2).1.1,plZ,brI (qD c y q1.2).1.2.1 0 99,brI (qD c y q1.2).1.2.2 0 99,0,0⟩ jcF)] 700000000 (λj=>if j=89 then qo b 146 c (qD c y q1.2).2 else o j)) (qc [some 700000400] (by simp only [go_sem,km,k4,kall]<;>trivial) (λj hj=>by by_cases e89:j=89<;>simp only [go_sem,e89,hj,if_true,if_false,jB hj 700000400 (by omega),jB hj 700000300 (by omega),km,k4,kall]) (by decide)) ?_
  refine WkK.of ?_;simp only [go_sem];exact ⟨jcF,b4,rfl,rfl,λg g1 g2 g3=>by simp only [g1,g3,jB g1 700000400 (by omega),if_true,if_false]⟩
 have b4':(q1.1==15)=false:=by simp [c4]
 by_cases c5:q1.1=16
 ·have b5':(q1.1==16)=true:=by simp [c5]
  have hd:qy c y s=(⟨5,0,plZ,0,0,0,0⟩,q1.2):=by simp only [qy,l0,if_neg c1,if_neg c2,if_neg c3,if_neg c4,if_pos c5]
  rw [hd];simp only [go_sem,c1,c2,c3,b4',b5',ho];refine qa ?_;refine WkK.wk (s':=St.ofB [(4,Bx 700000400 b4)] [(700000400,DdR b4 60 ⟨5,0,plZ,0,0,0,0⟩ jcF)] 700000000 (λj=>if j=89 then qo b 146 c q1.2 else o j)) (qc [some 700000400] (by simp only [go_sem,km,c1,c2,c3,b4',b5',ho]<;>trivial) (λj hj=>by by_cases e89:j=89<;>simp only [go_sem,e89,hj,if_true,if_false,jB hj 700000400 (by omega),jB hj 700000300 (by omega),km,c1,c2,c3,b4',b5',ho]) (by decide)) ?_
  refine WkK.of ?_;simp only [go_sem];exact ⟨jcF,b4,rfl,rfl,λg g1 g2 g3=>by simp only [g1,g3,jB g1 700000400 (by omega),if_true,if_false]⟩
 have b5':(q1.1==16)=false:=by simp [c5]
 by_cases c6:q1.1=17
 ·have b6':(q1.1==17)=true:=by simp [c6]
  simp only [go_sem,c1,c2,c3,b4',b5',b6'];refine kh (ky c hc 9 q1.2 b _ s1 (by simp only [go_sem])) (by simp only [go_sem]) ?_
  have s2:=jq (n:=9) s1;have x2:=jN c (n:=9) q1.2 (by omega)
  generalize lZ:jo c 9 q1.2=q2 at*;have w2:IntKind.i64.wrap (1+q2.1)=1+q2.1:=zy;have hd:qy c y s=(⟨6,1+q2.1,plZ,0,0,0,0⟩,q2.2):=by simp only [qy,l0,if_neg c1,if_neg c2,if_neg c3,if_neg c4,if_neg c5,if_pos c6,lZ]
  rw [hd];simp only [go_sem,w2,ho];refine qa ?_;refine WkK.wk (s':=St.ofB [(4,Bx 700000400 b4)] [(700000400,DdR b4 60 ⟨6,1+q2.1,plZ,0,0,0,0⟩ jcF)] 700000000 (λj=>if j=89 then qo b 146 c q2.2 else o j)) (qc [some 700000400] (by simp only [go_sem,km,w2,ho]<;>trivial) (λj hj=>by by_cases e89:j=89<;>simp only [go_sem,e89,hj,if_true,if_false,jB hj 700000400 (by omega),jB hj 700000300 (by omega),km,w2,ho]) (by decide)) ?_
  refine WkK.of ?_;simp only [go_sem];exact ⟨jcF,b4,rfl,rfl,λg g1 g2 g3=>by simp only [g1,g3,jB g1 700000400 (by omega),if_true,if_false]⟩
 have b6':(q1.1==17)=false:=by simp [c6]
 by_cases c7:q1.1=18
 ·have b7':(q1.1==18)=true:=by simp [c7]
  simp only [go_sem,c1,c2,c3,b4',b5',b6',b7'];refine kh (ky c hc 9 q1.2 b _ s1 (by simp only [go_sem])) (by simp only [go_sem]) ?_
  have s2:=jq (n:=9) s1;have x2:=jN c (n:=9) q1.2 (by omega)
  generalize lZ:jo c 9 q1.2=q2 at*;have w2:IntKind.i64.wrap (1+q2.1)=1+q2.1:=zy;have hd:qy c y s=(⟨7,1+q2.1,plZ,0,0,0,0⟩,q2.2):=by simp only [qy,l0,if_neg c1,if_neg c2,if_neg c3,if_neg c4,if_neg c5,if_neg c6,if_pos c7,lZ]
  rw [hd];simp only [go_sem,w2,ho];refine qa ?_;refine WkK.wk (s':=St.ofB [(4,Bx 700000400 b4)] [(700000400,DdR b4 60 ⟨7,1+q2.1,plZ,0,0,0,0⟩ jcF)] 700000000 (λj=>if j=89 then qo b 146 c q2.2 else o j)) (qc [some 700000400] (by simp only [go_sem,km,w2,ho]<;>trivial) (λj hj=>by by_cases e89:j=89<;>simp only [go_sem,e89,hj,if_true,if_false,jB hj 700000400 (by omega),jB hj 700000300 (by omega),km,w2,ho]) (by decide)) ?_
  refine WkK.of ?_;simp only [go_sem];exact ⟨jcF,b4,rfl,rfl,λg g1 g2 g3=>by simp only [g1,g3,jB g1 700000400 (by omega),if_true,if_false]⟩
 have b7':(q1.1==18)=false:=by simp [c7]
 simp only [go_sem,c1,c2,c3,b4',b5',b6',b7'];refine kh (jjk c hc 3 q1.2 b _ s1 (by simp only [go_sem])) (by simp only [go_sem]) ?_
 have s2:=jq (n:=3) s1;generalize lZ:jo c 3 q1.2=q2 at*;by_cases c8:q2.1=0
 ·have b8':(q2.1==0)=true:=by simp [c8]
  have hd:qy c y s=(⟨8,0,plZ,0,0,0,0⟩,q2.2):=by simp only [qy,l0,if_neg c1,if_neg c2,if_neg c3,if_neg c4,if_neg c5,if_neg c6,if_neg c7,lZ,if_pos c8]
  rw [hd];simp only [go_sem,b8',ho];refine qa ?_;refine WkK.wk (s':=St.ofB [(4,Bx 700000400 b4)] [(700000400,DdR b4 60 ⟨8,0,plZ,0,0,0,0⟩ jcF)] 700000000 (λj=>if j=89 then qo b 146 c q2.2 else o j)) (qc [some 700000400] (by simp only [go_sem,km,b8',ho]<;>trivial) (λj hj=>by by_cases e89:j=89<;>simp only [go_sem,e89,hj,if_true,if_false,jB hj 700000400 (by omega),jB hj 700000300 (by omega),km,b8',ho]) (by decide)) ?_
  refine WkK.of ?_;simp only [go_sem];exact ⟨jcF,b4,rfl,rfl,λg g1 g2 g3=>by simp only [g1,g3,jB g1 700000400 (by omega),if_true,if_false]⟩
 ·have b8':(q2.1==0)=false:=by simp [c8]
  have hd:qy c y s=(⟨5,0,plZ,0,0,0,0⟩,q2.2):=by simp only [qy,l0,if_neg c1,if_neg c2,if_neg c3,if_neg c4,if_neg c5,if_neg c6,if_neg c7,lZ,if_neg c8]
  rw [hd];simp only [go_sem,b8',ho];refine qa ?_;refine WkK.wk (s':=St.ofB [(4,Bx 700000400 b4)] [(700000400,DdR b4 60 ⟨5,0,plZ,0,0,0,0⟩ jcF)] 700000000 (λj=>if j=89 then qo b 146 c q2.2 else o j)) (qc [some 700000400] (by simp only [go_sem,km,b8',ho]<;>trivial) (λj hj=>by by_cases e89:j=89<;>simp only [go_sem,e89,hj,if_true,if_false,jB hj 700000400 (by omega),jB hj 700000300 (by omega),km,b8',ho]) (by decide)) ?_
  refine WkK.of ?_;simp only [go_sem];exact ⟨jcF,b4,rfl,rfl,λg g1 g2 g3=>by simp only [g1,g3,jB g1 700000400 (by omega),if_true,if_false]⟩
theorem jjQ:kg Tryz.prog 33 [] (.agg (jb newYd)):=jjN ⟨_,Tryz.func33,by kernel_rfl,by kernel_rfl⟩ λw=>jlC w
section
variable {s:St} {K:St->Prop}
theorem jzj {o':Nat->Ob} (h:jyx o' s.o) (hk:WkK ⟨s.t,o'⟩ K):WkK s K:=λB N w0 w a F hr=>by
 obtain ⟨F',h1,_⟩:=hr.less h;exact hk B N w0 w a F' h1
theorem jwN (g:Nat) (hk:WkK ⟨s.t,λj=>if j=g then .none else s.o j⟩ K):WkK s K:=jzj (λj=>by
 by_cases e:j=g
 ·rw [if_pos e];exact .inr rfl
 ·rw [if_neg e];exact .inl rfl) hk
theorem jzU {a n k g c b ty:Nat} {x:A0} {cs:List Cell} {K:AV->(Nat->Ob)->Prop} (ha:s.t a=.c x) (hn:s.t n=.c (.bp g c b)) (ho:s.o g=.box b ty cs) (hl:c+k<=cs.length) (h:K (.tup [(false,[x]),(true,jdW g c ((cs.drop c).take k))]) s.o):jtM [.t a,.cell n true k] K s:=by
 simp only [jtM,jis,ha,hn];exact ⟨_,⟨ty,cs,ho,hl,rfl⟩,.inl trivial,h⟩
end
abbrev ddH (d:Dd) (x:Value):List D:=[.val (.int .i64 d.aMD),.val (.int .i64 d.run),.val (.int .i64 d.aLW.aMC),.val (.int .i64 d.aLW.aMG),.val (.int .i64 d.aLW.aMF),.val (.int .i64 d.aLW.aLT),jrq (some (2,tEd)) x,.val (.int .i64 d.aMA),.val (.int .i64 d.tri),.val (.int .i64 d.aLZ),.val (.int .i64 d.aMB)]
abbrev DdRH (b ty:Nat) (d:Dd) (x:Value):Ob:=.box b ty [.a (.v (.int .i64 d.aMD)),.a (.v (.int .i64 d.run)),.a (.v (.int .i64 d.aLW.aMC)),.a (.v (.int .i64 d.aLW.aMG)),.a (.v (.int .i64 d.aLW.aMF)),.a (.v (.int .i64 d.aLW.aLT)),.a (.v x),.a (.v (.int .i64 d.aMA)),.a (.v (.int .i64 d.tri)),.a (.v (.int .i64 d.aLZ)),.a (.v (.int .i64 d.aMB))]
theorem jno (l:List Dd):(l.flatMap jj).length=l.length*11:=jG (enc:=jj) (size:=11) (λ_=>rfl) l
theorem jC0 (l:List Dd) (row:List D) (j:Nat):(l.flatMap jj++row)[l.length*11+j]?=row[j]?:=by
 rw [aOA (by rw [jno];omega),jno,aNR]
theorem jAL (l:List Dd) (row:List D) (j:Nat) (d:D):(l.flatMap jj++row).set (l.length*11+j) d=l.flatMap jj++row.set j d:=by
 rw [aPO _ _ (by rw [jno];omega),jno,aNR]
theorem jv5 (l:List Dd) (d:Dd):D.sl 11 tDd (l.flatMap jj++jj d)=kv (l++[d]):=by simp [kv]
def jdd:C:=iS [iA 4 (.mov (.c (.slice none 0 0))),iA 5 wAK] (iS [iA 10 (.call 33 []),iA 6 wAK,wAA 6 10] (iS [iA 11 (.bsl 60 11 0 [] []),aM 7 11] (.seq (iS [aN 8 0] (.blk 0 (.loop (.seq (iS [aM 12 8,aM 13 1,aP 14 .lss 3 12 13] (iD 14 .skip (.exit 0))) (.seq (.blk 1 (iS [aM 17 0,aT 18 4 6,iA 19 (iK 142 [17,18]),iA 9 wAQ,wAE 9 19] (iS [aM 20 7,aT 21 11 9,iA 22 (.bsl 60 11 1 [none,none,none,none,none,none,some (2,161),none,none,none,none] [(0,11,.t 21)]),iA 23 (.app 60 11 104 (.t 20) (.t 22)),aM 7 23] (.reg [aT 25 4 6,aT 26 11 9,iA 27 (iK 95 [25,26]),aM 24 27,aE 28 24 0,aE 29 24 1,wAA 6 28])))) (.reg [aM 15 8,aQ 16 .add 3 15 1,aM 8 16])))))) (.seq (.dreg (tA 0 30 (iM 7) (tA 1 31 (iT 4 6) (tA 2 4 (iM 30) (.alt (wAA 5 31) [] .done .stop))))) .ret))))
theorem jge:fnC Tryz.prog Tryz.f89=some (jdd,[.t 4,.cell 5 true 4],32):=by kernel_rfl
theorem joN (c:List UInt8) (hc:c.length<=1048576) (m:Nat) (hm:m<=1000) (s:Cu) (b:Nat) (o:Nat->Ob) (hs:s.1<=c.length) (ho:o 89=qo b 146 c s) (rO:o 86=.none) (rN:o 94=.none) (lS:o 95=.none):
 Inl Tryz.prog 89 [Bx 89 b,Ni m] o λav o2=>∃(e e2 e3:jm) (b5:Nat),av=.tup [(false,[.h 600000700 0 [] (e [])]),(true,[.v (.int .i64 (vT c m ([],newYd,s)).2.1.now),.v (.int .i64 (vT c m ([],newYd,s)).2.1.seq),.h 600000500 2 [] (e2 []),.h 600000500 3 [] (e3 [])])]/\o2 600000700=.loose (kv (vT c m ([],newYd,s)).1) e/\
  o2 600000500=ka b5 tYd (vT c m ([],newYd,s)).2.1.now (vT c m ([],newYd,s)).2.1.seq (vT c m ([],newYd,s)).2.1.aLU e2 (vT c m ([],newYd,s)).2.1.aLX e3/\o2 89=qo b 146 c (vT c m ([],newYd,s)).2.2/\∀g,g<600000000->g≠89->o2 g=o g:=by
 refine jlZ (β:=6000000) [[1,1,1,0,1,0,0,1,0,0,0],[1,1,1,0,1,0,0,1,0,0,1],[1,1,1,0,1,0,0,1,0,0,1,1],[1,1,1,0,1,0,0,1,1],[1,1,1,1,0]] Tryz.func89 jge (by simp) ?_
 unfold jdd;simp only [C.ghs,C.ghAt,List.foldr];simp only [go_sem];intro b5;refine jx jjQ λv6=>?_
 simp only [go_sem,jb];intro b6 aAI;generalize hX:vT c m ([],newYd,s)=X at*;refine kN (λi:(Nat×(List Dd×Yd×Cu))×jm×jm×jm=>St.ofB [(0,Bx 89 b),(1,Ni m),(5,Bx 600000500 b5),(6,Bx 600000600 b6),(7,Hd 600000700 i.2.1),(8,Ni i.1.1)] [(600000500,ZYd b5 tYd),(600000600,ka b6 tYd i.1.2.2.1.now i.1.2.2.1.seq i.1.2.2.1.aLU i.2.2.1 i.1.2.2.1.aLX i.2.2.2),(600000700,.loose (kv i.1.2.1) i.2.1)] 600000000 (λj=>if j=89 then qo b 146 c i.1.2.2.2 else if j=94 then .none else if j=95 then .none else if j=86 then .none else o j)) (λi=>i.1.1<=m/\DdsI c i.1.1 i.1.2/\X=vT c (m-i.1.1) i.1.2) (λi=>m-i.1.1) ((0,([],newYd,s)),aAI,v6 2,v6 3) (⟨aNE _,.start hs,hX.symm⟩) (qc [some 600000500,some 600000600,some 600001100] (by simp only [go_sem,jlS,jb,ho,rO,rN,lS]<;>trivial) (λj hj=>by by_cases e89:j=89<;>by_cases e94:j=94<;>by_cases e95:j=95<;>by_cases e86:j=86<;>simp only [go_sem,e89,e94,e95,e86,hj,if_true,if_false,jB hj 600000500 (by omega),jB hj 600000600 (by omega),jB hj 600001100 (by omega),jB hj 600001002 (by omega),jB hj 600001003 (by omega),jlS,jb,ho,rO,rN,lS]) (by decide)) ?_
 rintro ⟨⟨i,l,y,u⟩,e,e2,e3⟩ ⟨hi,hD,u6⟩;dsimp only at hi hD u6;by_cases aB:i<m;rotate_left
 ·have aA:¬(i:Int)<(m:Int):=by omega
  have h0:m-i=0:=by omega
  rw [h0,vT] at u6;subst u6;simp only [go_sem,aA];refine qa (WkK.of ?_);simp only [go_sem];refine jzU (x:=.h 600000700 0 [] (e [])) (g:=600000500) (c:=0) (b:=b5) (ty:=tYd) (cs:=[.a (.v (.int .i64 y.now)),.a (.v (.int .i64 y.seq)),.own (ku y.aLU) e2,.own (jI y.aLX) e3]) (by simp only [go_sem]) (by simp only [go_sem]) (by simp only [go_sem]) (by simp) ?_
  simp only [go_sem];refine ⟨e,e2,e3,b5,rfl,rfl,rfl,λg g1 g2=>?_⟩
  by_cases e94:g=94
  ·subst e94;simp only [go_sem,rN]
  by_cases e95:g=95
  ·subst e95;simp only [go_sem,lS]
  by_cases e86:g=86
  ·subst e86;simp only [go_sem,rO]
  simp only [go_sem,g1,g2,e94,e95,e86,jB g1 600000500 (by omega),jB g1 600000600 (by omega),jB g1 600000700 (by omega),if_true,if_false]
 have aA:(i:Int)<(m:Int):=by omega
 obtain ⟨f,hf⟩:∃f,m-i=f+1:=⟨m-i-1,by omega⟩
 rw [hf,vT] at u6;dsimp only at u6;have hDn:=hD.next;have eD:=hD.at_;have hyI:=hD.yd;have eV:=hD.len;have sK:=jki c y u;dsimp only at hDn eD hyI eV;have hyt:=(hyI.ok (by have:=hD.seq;dsimp only at this;omega)).small
 simp only [go_sem,aA];refine qa ?_;refine jg6 600000600 2 94 rfl rfl rfl (by decide) (Nat.zero_lt_succ 0) ?_
 refine jg6 600000600 3 95 rfl rfl rfl (by decide) (Nat.zero_lt_succ 7) ?_
 refine WkK.wk (s':=St.ofB [(0,Bx 89 b),(1,Ni m),(5,Bx 600000500 b5),(6,Bx 600000600 b6),(7,Hd 600000700 e),(8,Ni i)] [(600000500,ZYd b5 tYd),(600000600,.box b6 tYd [.a (.v (.int .i64 y.now)),.a (.v (.int .i64 y.seq)),.a (.hs 94 0 [] (e2 []) 1 0 y.aLU.length),.a (.hs 95 0 [] (e3 []) 8 0 y.aLX.length)]),(600000700,.loose (kv l) e)] 600000000 (λj=>if j=89 then qo b 146 c u else if j=94 then .loose (ku y.aLU) e2 else if j=95 then .loose (jI y.aLX) e3 else if j=86 then .none else o j)) (qc [some 600000500,some 600000600,some 600000700] (by simp only [go_sem]<;>trivial) (λj hj=>by by_cases e89:j=89<;>by_cases e94:j=94<;>by_cases e95:j=95<;>by_cases e86:j=86<;>simp only [go_sem,e89,e94,e95,e86,hj,if_true,if_false,jB hj 600000500 (by omega),jB hj 600000600 (by omega),jB hj 600000700 (by omega)]) (by decide)) ?_
 refine WkK.of ?_;simp only [go_sem];refine kL (by simp only [go_sem]) (jxM c hc y hyI u b _ e2 e3 eD (by simp only [go_sem]) (by simp only [go_sem]) (by simp only [go_sem]) (by simp only [go_sem])) λav o' ⟨ed,b4,lN,ho4,o2,hk⟩=>?_
 subst lN;have k5:=hk 600000500 (by decide) (by decide) (by decide)
 have k6:=hk 600000600 (by decide) (by decide) (by decide)
 have k7:=hk 600000700 (by decide) (by decide) (by decide)
 have kall:∀g,g<600000000->g≠86->o' g=if g=89 then qo b 146 c (qy c y u).2 else if g=94 then .loose (ku y.aLU) e2 else if g=95 then .loose (jI y.aLX) e3 else o g:=λg hg h2=>by
  by_cases h1:g=89
  ·subst h1;rw [o2];rfl
  ·rw [hk g (by omega) h2 h1,if_neg h1]
   simp only [go_sem,hg,h1,h2,if_true,if_false]
 simp only [go_sem] at k5 k6 k7;simp only [go_sem,ho4];intro b9;refine qa ?_;refine jwN 86 ?_;generalize xW:(qy c y u).1=d at*;refine WkK.wk (s':=St.ofB [(0,Bx 89 b),(1,Ni m),(5,Bx 600000500 b5),(6,Bx 600000600 b6),(7,Hd 600000700 e),(8,Ni i),(9,Bx 600000900 b9)] [(600000500,ZYd b5 tYd),(600000600,.box b6 tYd [.a (.v (.int .i64 y.now)),.a (.v (.int .i64 y.seq)),.a (.hs 94 0 [] (e2 []) 1 0 y.aLU.length),.a (.hs 95 0 [] (e3 []) 8 0 y.aLX.length)]),(600000700,.loose (kv l) e),(600000900,DdR b9 60 d ed)] 600000000 (λj=>if j=89 then qo b 146 c (qy c y u).2 else if j=94 then .loose (ku y.aLU) e2 else if j=95 then .loose (jI y.aLX) e3 else if j=86 then .none else o j)) (qc [some 600000500,some 600000600,some 600000700,some 600000900] (by simp only [go_sem,k5,k6,k7,ho4,kall]<;>trivial) (λj hj=>by by_cases e89:j=89<;>by_cases e94:j=94<;>by_cases e95:j=95<;>by_cases e86:j=86<;>simp only [go_sem,e89,e94,e95,e86,hj,if_true,if_false,jB hj 600000500 (by omega),jB hj 600000600 (by omega),jB hj 600000700 (by omega),jB hj 600000900 (by omega),jB hj 700000400 (by omega),k5,k6,k7,ho4,kall]) (by decide)) ?_
 refine qY 600000900 6 600090100 (d:=jv d.aLW.aLY) (η:=ed) (by simp only [go_sem]) (by simp only [go_sem]) (by decide) λhx6=>?_
 refine WkK.of ?_;have m1:l.length+1<=maxLen:=by unfold maxLen;omega
 have m2:(l.length+1)*104<=140737488355328:=by omega
 simp only [go_sem,hx6];intro aGM;refine jqI (λfB=>St.ofB [(0,Bx 89 b),(1,Ni m),(5,Bx 600000500 b5),(6,Bx 600000600 b6),(7,Hd 600000700 fB),(8,Ni i),(9,Bx 600000900 b9)] [(600000500,ZYd b5 tYd),(600000600,.box b6 tYd [.a (.v (.int .i64 y.now)),.a (.v (.int .i64 y.seq)),.a (.hs 94 0 [] (e2 []) 1 0 y.aLU.length),.a (.hs 95 0 [] (e3 []) 8 0 y.aLX.length)]),(600000700,.loose (.sl 11 tDd (l.flatMap jj++ddH d (ed []))) fB),(600000900,DdRH b9 60 d (ed [])),(600090100,.loose (jv d.aLW.aLY) ed)] 600000000 (λj=>if j=89 then qo b 146 c (qy c y u).2 else if j=94 then .loose (ku y.aLU) e2 else if j=95 then .loose (jI y.aLX) e3 else if j=86 then .none else o j)) m1 m2 ?_ (λfB=>(qc [some 600000500,some 600000600,some 600002300,some 600000900,some 600090100] (by simp only [go_sem]<;>trivial) (λj hj=>by by_cases e89:j=89<;>by_cases e94:j=94<;>by_cases e95:j=95<;>by_cases e86:j=86<;>simp only [go_sem,e89,e94,e95,e86,hj,if_true,if_false,jB hj 600000500 (by omega),jB hj 600000600 (by omega),jB hj 600002300 (by omega),jB hj 600000900 (by omega),jB hj 600090100 (by omega),jB hj 600000700 (by omega),jB hj 600002200 (by omega)]) (by decide))) (λfB=>(qc [some 600000500,some 600000600,some 600002300,some 600000900,some 600090100] (by simp only [go_sem]<;>trivial) (λj hj=>by by_cases e89:j=89<;>by_cases e94:j=94<;>by_cases e95:j=95<;>by_cases e86:j=86<;>simp only [go_sem,e89,e94,e95,e86,hj,if_true,if_false,jB hj 600000500 (by omega),jB hj 600000600 (by omega),jB hj 600002300 (by omega),jB hj 600000900 (by omega),jB hj 600090100 (by omega),jB hj 600000700 (by omega),jB hj 600002200 (by omega)]) (by decide))) ?_
 ·simp only [jjX _ hx6,jjY];rfl
 intro fB;refine jbu 600000600 2 94 (d:=ku y.aLU) (η:=e2) rfl rfl rfl rfl (jaP _).symm rfl (Nat.zero_lt_succ 0) ?_;refine jbu 600000600 3 95 (d:=jI y.aLX) (η:=e3) rfl rfl rfl rfl (vB _).symm rfl (Nat.zero_lt_succ 7) ?_;refine ve 600000900 6 600090100 (d:=jv d.aLW.aLY) (η:=ed) rfl rfl rfl ?_;generalize mU:D.sl 11 tDd (l.flatMap jj++ddH d (ed []))=dR;refine WkK.wk (s':=St.ofB [(0,Bx 89 b),(1,Ni m),(5,Bx 600000500 b5),(6,Bx 600000600 b6),(7,Hd 600000700 fB),(8,Ni i),(9,Bx 600000900 b9)] [(600000500,ZYd b5 tYd),(600000600,ka b6 tYd y.now y.seq y.aLU e2 y.aLX e3),(600000700,.loose dR fB),(600000900,DdR b9 60 d ed)] 600000000 (λj=>if j=89 then qo b 146 c (qy c y u).2 else if j=94 then .none else if j=95 then .none else if j=86 then .none else o j)) (qc [some 600000500,some 600000600,some 600000700,some 600000900] (by simp only [go_sem]<;>trivial) (λj hj=>by by_cases e89:j=89<;>by_cases e94:j=94<;>by_cases e95:j=95<;>by_cases e86:j=86<;>simp only [go_sem,e89,e94,e95,e86,hj,if_true,if_false,jB hj 600000500 (by omega),jB hj 600000600 (by omega),jB hj 600000700 (by omega),jB hj 600000900 (by omega),jB hj 600090100 (by omega)]) (by decide)) ?_
 refine WkK.of ?_;simp only [go_sem];refine jn (joj y d (by omega) (by simp only [jbX,jeZ];omega)) (by simp only [go_sem,jb,jj,ja,qO]) λuN=>?_
 simp only [go_sem,jb,jj,ja,qO];generalize hy':doY y d=y' at*;refine qa ?_;subst mU;refine WkK.wk (s':=St.ofB [(0,Bx 89 b),(1,Ni m),(5,Bx 600000500 b5),(6,Bx 600000600 b6),(7,Hd 600000700 fB),(8,Ni i)] [(600000500,ZYd b5 tYd),(600000600,ka b6 tYd y'.now y'.seq y'.aLU (uN 2) y'.aLX (uN 3)),(600000700,.loose (.sl 11 tDd (l.flatMap jj++ddH d (ed []))) fB),(600000900,DdR b9 60 d ed)] 600000000 (λj=>if j=89 then qo b 146 c (qy c y u).2 else if j=94 then .none else if j=95 then .none else if j=86 then .none else o j)) (qc [some 600000500,some 600000600,some 600000700,some 600000900] (by simp only [go_sem,jb,qO]<;>trivial) (λj hj=>by by_cases e89:j=89<;>by_cases e94:j=94<;>by_cases e95:j=95<;>by_cases e86:j=86<;>simp only [go_sem,e89,e94,e95,e86,hj,if_true,if_false,jB hj 600000500 (by omega),jB hj 600000600 (by omega),jB hj 600000700 (by omega),jB hj 600000900 (by omega),jB hj 600002702 (by omega),jB hj 600002703 (by omega),jb,qO]) (by decide)) ?_
 refine qY 600000900 6 600090100 (d:=jv d.aLW.aLY) (η:=ed) (by simp only [go_sem]) (by simp only [go_sem]) (by decide) λ_=>?_
 refine qI 600000700 0 (l.length*11+6) 600090100 (η:=fB) (aV:=ed) (cs:=d.aLW.aLY.flatMap jR) rfl (jC0 _ _ 6) (.inr rfl) rfl (by decide) λeP hηA=>?_
 rw [jAL];refine WkK.of ?_;have eU:D.sl 11 tDd (l.flatMap jj++(ddH d (ed [])).set 6 (.sl 2 tEd (d.aLW.aLY.flatMap jR)))=kv (l++[d]):=jv5 l d;have hw:=kX i;simp only [go_sem,hw];exact ⟨((i+1,(l++[d],y',(qy c y u).2)),eP,uN 2,uN 3),⟨by dsimp only;omega,hDn,by rw [show m-(i+1)=f by omega];exact u6⟩,(qc [some 600000500,some 600000600,some 600000700] (by simp only [go_sem,hw,eU,hηA]<;>trivial) (λj hj=>by by_cases e89:j=89<;>by_cases e94:j=94<;>by_cases e95:j=95<;>by_cases e86:j=86<;>simp only [go_sem,e89,e94,e95,e86,hj,if_true,if_false,jB hj 600000500 (by omega),jB hj 600000600 (by omega),jB hj 600000700 (by omega),jB hj 600000900 (by omega),jB hj 600090100 (by omega),hw,eU,hηA]) (by decide)),by (try dsimp only);omega⟩
def jz6 (h:Int) (u:UInt8):Int:=jsa (IntKind.i64.wrap (IntKind.i64.wrap (IntKind.i64.wrap (h*131)+(u.toNat:Int))+7)) 1073741823
theorem jCn (c:List UInt8):jDp c=(c.take 4000).foldl jz6 (94701+(c.length:Int)):=rfl
theorem jvK {α β:Type} {f:β->α->β} {l:List α} {k:Nat} {x:α} (h:l[k]?=some x) (a:β):(l.take (k+1)).foldl f a=f ((l.take k).foldl f a) x:=by
 rw [aMT,h,List.foldl_append];rfl
theorem jvz (c:List UInt8) (hc:c.length<=1048576) (o:Nat->Ob):Inl Tryz.prog 58 [.c (.ro (jaU c))] o λav o2=>∃b,av=Bx 800003100 b/\o2 800003100=qo b 146 c (jlc c)/\∀g,g<800000000->o2 g=o g:=by
 refine qv (β:=8000000) Tryz.func58 jiF (by simp) ?_
 unfold jgA;have hw:IntKind.i64.wrap (94701+(c.length:Int))=94701+(c.length:Int):=zy;simp only [go_sem,jaQ,hw];refine kN (λi:Nat=>St.ofB [(0,.c (.ro (jaU c))),(3,Ni ((c.take i).foldl jz6 (94701+(c.length:Int)))),(4,Ni i)] [] 800000000 (λj=>o j)) (λi=>i<=c.length/\i<=4000) (λi=>c.length-i) 0 (⟨aNE _,aNE _⟩) (qc [] (by simp only [go_sem,hw,aNM,List.foldl_nil]<;>trivial) (λj hj=>by simp only [go_sem,hj,if_true,if_false,hw,aNM,List.foldl_nil]) (by decide)) ?_
 rintro k ⟨hk,hk4⟩;by_cases aB:k<c.length;rotate_left
 ·have aA:¬(k:Int)<(c.length:Int):=by omega
  have hf:(c.take k).foldl jz6 (94701+(c.length:Int))=jDp c:=by
   rw [jCn,aMO (by omega),aMO (by omega)]
  rw [hf];simp only [go_sem,jaQ,aA]
  exact λb=>⟨b,rfl,rfl,λg hg=>by
   have cV:¬g=800003100:=by omega
   simp only [cV,hg,if_true,if_false]⟩
 have aA:(k:Int)<(c.length:Int):=by omega
 have bD:=qT k;by_cases hl4:k<4000;rotate_left
 ·have tR:¬(k:Int)<4000:=by omega
  have hf:(c.take k).foldl jz6 (94701+(c.length:Int))=jDp c:=by
   rw [show k=4000 by omega,jCn]
  rw [hf];simp only [go_sem,jaQ,aA,tR]
  exact λb=>⟨b,rfl,rfl,λg hg=>by
   have cV:¬g=800003100:=by omega
   simp only [cV,hg,if_true,if_false]⟩
 have tR:(k:Int)<4000:=by omega
 obtain ⟨u,hu⟩:=jd aB;have aJ:=jvK (f:=jz6) hu (94701+(c.length:Int));have gF:=kX k;simp only [go_sem,jaQ,aA,tR,aB,bD,jl6 hu,jy3];exact ql (k+1) (qc [] (by simp only [go_sem,gF,aJ,jz6]<;>trivial) (λj hj=>by simp only [go_sem,hj,if_true,if_false,gF,aJ,jz6]) (by decide))
def jel:C:=iS [iA 2 wAK] (iS [aM 6 0,aM 7 0,iA 8 (.call 60 [.t 7,oI 26]),iA 9 (iK 89 [6,8]),aM 5 9,aE 10 5 0,aE 11 5 1,iA 4 wAK,aM 3 10,wAA 4 11] (iS [aT 12 4 4,wAA 2 12] .ret))
theorem jho:fnC Tryz.prog Tryz.f57=some (jel,[.cell 2 true 4],13):=by kernel_rfl
theorem jxL (c:List UInt8) (hc:c.length<=1048576) (s:Cu) (b:Nat) (o:Nat->Ob) (hs:s.1<=c.length) (ho:o 89=qo b 146 c s) (rO:o 86=.none) (rN:o 94=.none) (lS:o 95=.none):
 Inl Tryz.prog 57 [Bx 89 b] o λav o2=>∃(e2 e3:jm) (b2:Nat),av=.agg [.v (.int .i64 (jke c s).1.now),.v (.int .i64 (jke c s).1.seq),.h 500000200 2 [] (e2 []),.h 500000200 3 [] (e3 [])]/\
  o2 500000200=ka b2 tYd (jke c s).1.now (jke c s).1.seq (jke c s).1.aLU e2 (jke c s).1.aLX e3/\∀g,g<500000000->g≠89->o2 g=o g:=by
 refine qv (β:=5000000) Tryz.func57 jho (by simp) ?_
 unfold jel;simp only [go_sem];intro b2;refine kh (ky c hc 26 s b _ hs (by simp only [go_sem,ho])) (by simp only [go_sem]) ?_
 have s1:=jq (n:=26) hs;have x1:=jN c (n:=26) s (by omega)
 have hY:jke c s=(vT c (jo c 26 s).1.toNat ([],newYd,(jo c 26 s).2)).2:=rfl;generalize l0:jo c 26 s=q1 at*;obtain ⟨m,hm⟩:∃m:Nat,q1.1=(m:Int):=⟨q1.1.toNat,by omega⟩
 rw [show q1.1.toNat=m by omega] at hY
 simp only [go_sem,hm];refine kL (by simp only [go_sem]) (joN c hc m (by omega) q1.2 b _ s1 (by simp only [go_sem]) (by simp only [go_sem,rO]) (by simp only [go_sem,rN]) (by simp only [go_sem,lS])) λav o' ⟨e,e2,e3,b5,lN,hl,hy,o2,hk⟩=>?_
 subst lN;have k2:=hk 500000200 (by decide) (by decide)
 simp only [go_sem] at k2;generalize hX:vT c m ([],newYd,q1.2)=X at*;simp only [go_sem,k2,hy];refine λb1=>⟨e2,e3,b2,by rw [hY],by rw [hY],λg g1 g2=>?_⟩
 simp only [jB g1 500000200 (by omega),jB g1 500000400 (by omega),jB g1 600000500 (by omega),if_false]
 rw [hk g (by omega) g2]
 simp only [go_sem,g2,jB g1 500000200 (by omega),if_false]
def jdj:C:=iS [iA 2 wAK] (iS [aM 3 0,iA 4 (iK 58 [3]),iA 5 (iK 57 [4]),wAA 2 5] .ret)
theorem jgj:fnC Tryz.prog Tryz.f12=some (jdj,[.cell 2 true 4],6):=by kernel_rfl
theorem jjR (c:List UInt8) (hc:c.length<=1048576):kg Tryz.prog 12 [.c (jaU c)] (.agg (jb (jke c (jlc c)).1)):=by
 refine pf_ jgj ?_;unfold jdj;simp only [go_sem];intro b2;have fJ:(jaU c).toRo=.ro (jaU c):=rfl;rw [fJ];refine kL (by simp only [go_sem]) (jvz c hc _) λav o' ⟨b,lN,ho,hk⟩=>?_
 subst lN;have k2:=hk 200 (by decide)
 simp only [go_sem] at k2;refine jaG [some 800003100,some 200] [(89,qo b 146 c (jlc c)),(200,ZYd b2 tYd)] [Bx 89 b] (by simp only [go_sem]<;>and_intros<;>rfl) (by simp only [go_sem]<;>and_intros<;>first|rfl|(rw [ho];exact of_eq_true (jO _))|(rw [k2];exact of_eq_true (jO _))) (jxL c hc (jlc c) b _ (aNE _) rfl rfl rfl rfl) ?_
 rintro av o2 ⟨e2,e3,b3,lN,sA,mO⟩;subst lN;have q2:=mO 200 (by decide) (by decide)
 simp only [go_sem] at q2;generalize (jke c (jlc c)).1=y at*;simp only [go_sem,q2,sA,jb]
def jmd:C:=iS [aO 2 false] (iS [aM 3 0,aG 4 3,aQ 5 .gtr 3 4 1048576,aM 2 5] .ret)
theorem jnt:fnC Tryz.prog Tryz.f11=some (jmd,[.t 2],6):=by kernel_rfl
theorem jB7 (c:List UInt8):kg Tryz.prog 11 [.c (jaU c)] (.c (.val (.bool (decide ((1048576:Int)<(c.length:Int)))))):=by
 refine pf_ jnt ?_;unfold jmd;have fJ:(jaU c).toRo=.ro (jaU c):=rfl;simp only [go_sem,fJ,jaQ]
def jbm:C:=iS [aO 4 false] (.seq (iS [aM 6 0,aG 7 6,aM 8 1,aG 9 8,aP 10 .neq 3 7 9] (iD 10 (iS [aO 4 false] .ret) .skip)) (.seq (iS [aN 5 0] (.blk 0 (.loop (.seq (iS [aM 11 5,aM 12 0,aG 13 12,aP 14 .lss 3 11 13] (iD 14 .skip (.exit 0))) (.seq (.blk 1 (.seq (.dreg (tA 0 17 (iM 0) (tA 1 18 (iM 5) (tA 2 19 (iI 4 17 18) (tA 3 20 (iT 4 19) (tA 4 21 (iM 1) (tA 5 22 (iM 5) (tA 6 23 (iI 4 21 22) (tA 7 24 (iT 4 23) (tA 8 25 (iP .neq 44 20 24) .done)))))))))) (iD 25 (iS [aO 4 false] .ret) .skip))) (.reg [aM 15 5,aQ 16 .add 3 15 1,aM 5 16])))))) (iS [aO 4 true] .ret)))
theorem jc8:fnC Tryz.prog Tryz.f136=some (jbm,[.t 4],26):=by kernel_rfl
theorem ju1 (xs:List En) (hl:xs.length<=2000000):kg Tryz.prog 136 [.c (ji xs),.c (ji xs)] (.c (.val (.bool true))):=by
 refine pf_ jc8 ?_;unfold jbm;simp only [go_sem,jn4,jdO,aOU];refine kN (λi:Nat=>St.of [(0,.c (.ro (ji xs))),(1,.c (.ro (ji xs))),(5,Ni i)] []) (λi=>i<=xs.length) (λi=>xs.length-i) 0 ((aNE _)) (zo [] (by simp only [go_sem]<;>trivial)) ?_
 rintro k hk;by_cases aB:k<xs.length;rotate_left
 ·have aA:¬(k:Int)<(xs.length:Int):=by omega
  simp only [go_sem,aA,jdO]
 have aA:(k:Int)<(xs.length:Int):=by omega
 obtain ⟨x,hx⟩:=jd aB;have hw:=kX k;simp only [go_sem,aA,aB,jH hx,jdO,jh,aOU,hw];exact ql (k+1) (zo [] (by simp only [go_sem,hw]<;>trivial))
def jcx:C:=iS [aO 4 false] (.seq (iS [aM 6 0,aG 7 6,aM 8 1,aG 9 8,aP 10 .neq 3 7 9] (iD 10 (iS [aO 4 false] .ret) .skip)) (.seq (iS [aN 5 0] (.blk 0 (.loop (.seq (iS [aM 11 5,aM 12 0,aG 13 12,aP 14 .lss 3 11 13] (iD 14 .skip (.exit 0))) (.seq (.blk 1 (.seq (.dreg (tA 0 17 (iM 0) (tA 1 18 (iM 5) (tA 2 19 (iI 2 17 18) (tA 3 20 (iT 2 19) (tA 4 21 (iM 1) (tA 5 22 (iM 5) (tA 6 23 (iI 2 21 22) (tA 7 24 (iT 2 23) (tA 8 25 (iP .neq 161 20 24) .done)))))))))) (iD 25 (iS [aO 4 false] .ret) .skip))) (.reg [aM 15 5,aQ 16 .add 3 15 1,aM 5 16])))))) (iS [aO 4 true] .ret)))
theorem jfl:fnC Tryz.prog Tryz.f198=some (jcx,[.t 4],26):=by kernel_rfl
theorem jom (xs:List Ed) (hl:xs.length<=2000000):kg Tryz.prog 198 [.c (jv xs),.c (jv xs)] (.c (.val (.bool true))):=by
 refine pf_ jfl ?_;unfold jcx;have fJ:(jv xs).toRo=.ro (jv xs):=rfl;simp only [go_sem,fJ,jdP,aOU];refine kN (λi:Nat=>St.of [(0,.c (.ro (jv xs))),(1,.c (.ro (jv xs))),(5,Ni i)] []) (λi=>i<=xs.length) (λi=>xs.length-i) 0 ((aNE _)) (zo [] (by simp only [go_sem]<;>trivial)) ?_
 rintro k hk;by_cases aB:k<xs.length;rotate_left
 ·have aA:¬(k:Int)<(xs.length:Int):=by omega
  simp only [go_sem,aA,jdP]
 have aA:(k:Int)<(xs.length:Int):=by omega
 obtain ⟨x,hx⟩:=jd aB;have hw:=kX k;simp only [go_sem,aA,aB,ju hx,jdP,jR,aOU,hw];exact ql (k+1) (zo [] (by simp only [go_sem,hw]<;>trivial))
def jcv:C:=iS [aO 4 false] (.seq (iS [aM 6 0,aG 7 6,aM 8 1,aG 9 8,aP 10 .neq 3 7 9] (iD 10 (iS [aO 4 false] .ret) .skip)) (.seq (iS [aN 5 0] (.blk 0 (.loop (.seq (iS [aM 11 5,aM 12 0,aG 13 12,aP 14 .lss 3 11 13] (iD 14 .skip (.exit 0))) (.seq (.blk 1 (.seq (.dreg (tA 0 17 (iM 0) (tA 1 18 (iM 5) (tA 2 19 (iI 4 17 18) (tA 3 20 (iT 4 19) (tA 4 21 (iM 1) (tA 5 22 (iM 5) (tA 6 23 (iI 4 21 22) (tA 7 24 (iT 4 23) (tA 8 25 (iP .neq 46 20 24) .done)))))))))) (iD 25 (iS [aO 4 false] .ret) .skip))) (.reg [aM 15 5,aQ 16 .add 3 15 1,aM 5 16])))))) (iS [aO 4 true] .ret)))
theorem jfj:fnC Tryz.prog Tryz.f182=some (jcv,[.t 4],26):=by kernel_rfl
theorem jok (xs:List Tk) (hl:xs.length<=2000000):kg Tryz.prog 182 [.c (jC xs),.c (jC xs)] (.c (.val (.bool true))):=by
 refine pf_ jfj ?_;unfold jcv;have fJ:(jC xs).toRo=.ro (jC xs):=rfl;simp only [go_sem,fJ,jdM,aOU];refine kN (λi:Nat=>St.of [(0,.c (.ro (jC xs))),(1,.c (.ro (jC xs))),(5,Ni i)] []) (λi=>i<=xs.length) (λi=>xs.length-i) 0 ((aNE _)) (zo [] (by simp only [go_sem]<;>trivial)) ?_
 rintro k hk;by_cases aB:k<xs.length;rotate_left
 ·have aA:¬(k:Int)<(xs.length:Int):=by omega
  simp only [go_sem,aA,jdM]
 have aA:(k:Int)<(xs.length:Int):=by omega
 obtain ⟨x,hx⟩:=jd aB;have hw:=kX k;simp only [go_sem,aA,aB,jS hx,jdM,jk,aOU,hw];exact ql (k+1) (zo [] (by simp only [go_sem,hw]<;>trivial))
def jdo:C:=iS [iA 2 (.box 49 5 (.t 0)),iA 3 (.box 49 5 (.t 1)),aO 4 false] (iS [aF 5 0 2,aL 6 5,aF 7 0 3,aL 8 7,aP 9 .eql 3 6 8,aM 10 9,iB 11 10 true (iF 1 2),iB 12 10 true (iL 11),iB 13 10 true (iF 1 3),iB 14 10 true (iL 13),iB 15 10 true (iP .eql 3 12 14),iA 16 (iY 10 (.t 15) (oF)),aM 17 16,iB 18 17 true (iF 2 2),iB 19 17 true (iL 18),iB 20 17 true (iF 2 3),iB 21 17 true (iL 20),iB 22 17 true (iP .eql 3 19 21),iA 23 (iY 17 (.t 22) (oF)),aM 24 23,iB 25 24 true (iF 3 2),iB 26 24 true (iL 25),iB 27 24 true (iF 3 3),iB 28 24 true (iL 27),iB 29 24 true (iP .eql 3 26 28),iA 30 (iY 24 (.t 29) (oF)),aM 31 30,iB 32 31 true (iF 4 2),iB 33 31 true (iL 32),iB 34 31 true (iF 4 3),iB 35 31 true (iL 34),iB 36 31 true (iK 198 [33,35]),iA 37 (iY 31 (.t 36) (oF)),aM 4 37] .ret)
theorem jgo:fnC Tryz.prog Tryz.f181=some (jdo,[.t 4],38):=by kernel_rfl
theorem jp0 (p:Pl) (hl:p.aLY.length<=2000000):kg Tryz.prog 181 [.agg (ja p),.agg (ja p)] (.c (.val (.bool true))):=by
 refine pf_ jgo ?_;unfold jdo;simp only [go_sem,ja,aOY];intro b2 b3;refine jx (jom p.aLY hl) λfG=>?_
 simp only [go_sem,ja]
def jeI:C:=iS [iA 2 (.box 52 8 (.t 0)),iA 3 (.box 52 8 (.t 1)),aO 4 false] (iS [aF 5 0 2,aL 6 5,aF 7 0 3,aL 8 7,aP 9 .eql 3 6 8,aM 10 9,iB 11 10 true (iF 1 2),iB 12 10 true (iT 5 11),iB 13 10 true (iF 1 3),iB 14 10 true (iT 5 13),iB 15 10 true (iK 181 [12,14]),iA 16 (iY 10 (.t 15) (oF)),aM 17 16,iB 18 17 true (iF 6 2),iB 19 17 true (iL 18),iB 20 17 true (iF 6 3),iB 21 17 true (iL 20),iB 22 17 true (iP .eql 3 19 21),iA 23 (iY 17 (.t 22) (oF)),aM 24 23,iB 25 24 true (iF 7 2),iB 26 24 true (iL 25),iB 27 24 true (iF 7 3),iB 28 24 true (iL 27),iB 29 24 true (iK 182 [26,28]),iA 30 (iY 24 (.t 29) (oF)),aM 4 30] .ret)
theorem jhL:fnC Tryz.prog Tryz.f137=some (jeI,[.t 4],31):=by kernel_rfl
theorem jsN (r:Rn) (he:r.aLW.aLY.length<=2000000) (ht:r.aLT.length<=2000000):kg Tryz.prog 137 [.agg (jc r),.agg (jc r)] (.c (.val (.bool true))):=by
 refine pf_ jhL ?_;unfold jeI;simp only [go_sem,jc,ja,aOY];intro b2 b3;refine jx (jp0 r.aLW he) λfG=>?_
 simp only [go_sem,jc,ja];simp only [go_sem,aOY];refine jx (jok r.aLT ht) λdB=>?_
 simp only [go_sem,jc,ja]
def jdn:C:=iS [aO 4 false] (.seq (iS [aM 6 0,aG 7 6,aM 8 1,aG 9 8,aP 10 .neq 3 7 9] (iD 10 (iS [aO 4 false] .ret) .skip)) (.seq (iS [aN 5 0] (.blk 0 (.loop (.seq (iS [aM 11 5,aM 12 0,aG 13 12,aP 14 .lss 3 11 13] (iD 14 .skip (.exit 0))) (.seq (.blk 1 (.seq (.dreg (tA 0 17 (iM 0) (tA 1 18 (iM 5) (tA 2 19 (iI 8 17 18) (tA 3 20 (iT 8 19) (tA 4 21 (iM 1) (tA 5 22 (iM 5) (tA 6 23 (iI 8 21 22) (tA 7 24 (iT 8 23) (tC 25 (iK 137 [20,24]) [] (tA 9 26 (iU 25) .done) .stop)))))))))) (iD 26 (iS [aO 4 false] .ret) .skip))) (.reg [aM 15 5,aQ 16 .add 3 15 1,aM 5 16])))))) (iS [aO 4 true] .ret)))
theorem jgn:fnC Tryz.prog Tryz.f77=some (jdn,[.t 4],27):=by kernel_rfl
theorem jpZ (xs:List Rn) (ht:jac xs<=2000000):kg Tryz.prog 77 [.c (jI xs),.c (jI xs)] (.c (.val (.bool true))):=by
 refine pf_ jgn ?_;unfold jdn;have eV:xs.length<=2000000:=aNX (aPM _ _) ht;have fJ:(jI xs).toRo=.ro (jI xs):=rfl;simp only [go_sem,fJ,vB,aOU];refine kN (λi:Nat=>St.of [(0,.c (.ro (jI xs))),(1,.c (.ro (jI xs))),(5,Ni i)] []) (λi=>i<=xs.length) (λi=>xs.length-i) 0 ((aNE _)) (zo [] (by simp only [go_sem]<;>trivial)) ?_
 rintro k hk;by_cases aB:k<xs.length;rotate_left
 ·have aA:¬(k:Int)<(xs.length:Int):=by omega
  simp only [go_sem,aA,vB]
 have aA:(k:Int)<(xs.length:Int):=by omega
 obtain ⟨x,hx⟩:=jd aB;have hw:=kX k
 have bW:kQ x<=2000000:=by
  have h1:=vK (tot:=kQ) hx;have h2:=jak kQ xs (k+1);simp only [jac] at ht;omega
 simp only [go_sem,aA,aB,jU hx,vB,jc,ja];refine jx (jsN x (by simp only [kQ,jeZ] at bW;omega) (by simp only [kQ,jeZ] at bW;omega)) λfG=>?_
 simp only [go_sem,jc,ja];simp only [go_sem,hw];exact ql (k+1) (zo [] (by simp only [go_sem,hw]<;>trivial))
def jcw:C:=iS [aO 4 false] (.seq (iS [aM 6 0,aG 7 6,aM 8 1,aG 9 8,aP 10 .neq 3 7 9] (iD 10 (iS [aO 4 false] .ret) .skip)) (.seq (iS [aN 5 0] (.blk 0 (.loop (.seq (iS [aM 11 5,aM 12 0,aG 13 12,aP 14 .lss 3 11 13] (iD 14 .skip (.exit 0))) (.seq (.blk 1 (.seq (.dreg (tA 0 17 (iM 0) (tA 1 18 (iM 5) (tA 2 19 (iI 1 17 18) (tA 3 20 (iL 19) (tA 4 21 (iM 1) (tA 5 22 (iM 5) (tA 6 23 (iI 1 21 22) (tA 7 24 (iL 23) (tC 25 (iK 136 [20,24]) [] (tA 9 26 (iU 25) .done) .stop)))))))))) (iD 26 (iS [aO 4 false] .ret) .skip))) (.reg [aM 15 5,aQ 16 .add 3 15 1,aM 5 16])))))) (iS [aO 4 true] .ret)))
theorem jfk:fnC Tryz.prog Tryz.f76=some (jcw,[.t 4],27):=by kernel_rfl
theorem jol (xs:List (List En)) (ht:jby xs<=2000000):kg Tryz.prog 76 [.c (ku xs),.c (ku xs)] (.c (.val (.bool true))):=by
 refine pf_ jfk ?_;unfold jcw;have eV:xs.length<=2000000:=aNX (aPM _ _) ht;have fJ:(ku xs).toRo=.ro (ku xs):=rfl;simp only [go_sem,fJ,jaP,aOU];refine kN (λi:Nat=>St.of [(0,.c (.ro (ku xs))),(1,.c (.ro (ku xs))),(5,Ni i)] []) (λi=>i<=xs.length) (λi=>xs.length-i) 0 ((aNE _)) (zo [] (by simp only [go_sem]<;>trivial)) ?_
 rintro k hk;by_cases aB:k<xs.length;rotate_left
 ·have aA:¬(k:Int)<(xs.length:Int):=by omega
  simp only [go_sem,aA,jaP]
 have aA:(k:Int)<(xs.length:Int):=by omega
 obtain ⟨x,hx⟩:=jd aB;have hw:=kX k
 have bW:zc x<=2000000:=by
  have h1:=vK (tot:=zc) hx;have h2:=jak zc xs (k+1);simp only [jby] at ht;omega
 simp only [go_sem,aA,aB,kY hx,jaP];refine jx (ju1 x (by simp only [zc] at bW;omega)) λfG=>?_
 simp only [go_sem];simp only [go_sem,hw];exact ql (k+1) (zo [] (by simp only [go_sem,hw]<;>trivial))
def jdm:C:=iS [iA 2 (.box 27 4 (.t 0)),iA 3 (.box 27 4 (.t 1)),aO 4 false] (iS [aF 5 0 2,aL 6 5,aF 7 0 3,aL 8 7,aP 9 .eql 3 6 8,aM 10 9,iB 11 10 true (iF 1 2),iB 12 10 true (iL 11),iB 13 10 true (iF 1 3),iB 14 10 true (iL 13),iB 15 10 true (iP .eql 3 12 14),iA 16 (iY 10 (.t 15) (oF)),aM 17 16,iB 18 17 true (iF 2 2),iB 19 17 true (iL 18),iB 20 17 true (iF 2 3),iB 21 17 true (iL 20),iB 22 17 true (iK 76 [19,21]),iA 23 (iY 17 (.t 22) (oF)),aM 24 23,iB 25 24 true (iF 3 2),iB 26 24 true (iL 25),iB 27 24 true (iF 3 3),iB 28 24 true (iL 27),iB 29 24 true (iK 77 [26,28]),iA 30 (iY 24 (.t 29) (oF)),aM 4 30] .ret)
theorem jgm:fnC Tryz.prog Tryz.f17=some (jdm,[.t 4],31):=by kernel_rfl
theorem jaL (y:Yd) (ht:jt y<=2000000):kg Tryz.prog 17 [.agg (jb y),.agg (jb y)] (.c (.val (.bool true))):=by
 refine pf_ jgm ?_;unfold jdm;simp only [go_sem,jb,aOY];intro b2 b3;refine jx (jol y.aLU (by simp only [jt] at ht;omega)) λfG=>?_
 simp only [go_sem,jb];refine jx (jpZ y.aLX (by simp only [jt] at ht;omega)) λdB=>?_
 simp only [go_sem,jb]
def idsLe (y:Yd):Prop:=∀r∈y.aLX,r.id<=9
theorem jah {y z:Yd} (h:idsLe y) (he:z.aLX.map (·.id)=y.aLX.map (·.id)):idsLe z:=λr hr=>by
 have:r.id∈y.aLX.map (·.id):=he▸List.mem_map_of_mem hr
 obtain ⟨r',h1,h2⟩:=aOB.1 this;rw [<-h2];exact h r' h1
theorem jjd {rs:List Rn} {k:Nat} {f:Rn->Rn} (hf:∀r,(f r).id=r.id):(rs.set k (f ((rs[k]?).getD default))).map (·.id)=rs.map (·.id):=by
 cases hr:rs[k]? with
 |none=>rw [List.set_eq_of_length_le (aPB.1 hr)]
 |some r=>rw [aMM,jmA hr (hf r)]
theorem jjL (r:Rn) (t:Int):(kx r t).id=r.id:=by
 unfold kx;split<;>rfl
theorem joD (r:Rn):(vG r).id=r.id:=by
 unfold vG;split<;>rfl
theorem idsLe.restT {z:Yd} (h:idsLe z) (k:Nat):∀t,idsLe (restT z k t)
 |0=>h
 |t+1=>jah (idsLe.restT h k t) (jf8 _ _ _)
theorem idsLe.restR {y:Yd} (h:idsLe y):∀k,idsLe (restR y k)
 |0=>h
 |k+1=>(idsLe.restR h k).restT k _
theorem idsLe.stepF:∀(L:List (List Int)) {z:Yd},idsLe z->idsLe (L.foldl jmu z)
 |[],z,h=>h
 |l::L,z,h=>idsLe.stepF L (jah h (jf8 _ _ _))
theorem jsL (z:Yd) (h v:Nat):(pollV z h v).aLX=z.aLX:=rfl
theorem jlN (h:Nat):∀(vs:List Int) (z:Yd),(pollF h vs z).aLX=z.aLX
 |[],z=>rfl
 |v::vs,z=>by
  unfold pollF;split
  ·rw [jlN h vs,jsL]
  ·rfl
theorem jpH (y:Yd) (k:Int):(vE y k).aLX=y.aLX:=by unfold vE;split<;>rfl
theorem jlM (y:Yd) (h:Nat) (d:Int):(pollZ y h d).aLX=y.aLX:=by rw [pollZ,jlN,jpH]
theorem idsLe.poll {y:Yd} (h:idsLe y) (w d:Int):idsLe (qj y w d):=by
 unfold qj;split
 ·exact h
 ·split
  ·exact jah h (by rw [jlM])
  ·refine jah (y:=pollZ y (w.tmod 4).toNat d) (jah h (by rw [jlM])) ?_
   exact jjd (f:=λr=>kD r _ _ _) λr=>rfl
theorem idsLe.do {y:Yd} (h:idsLe y) {d:Dd} (hd:d.aMD=1->d.run<=9):idsLe (doY y d):=by
 unfold doY;split
 ·exact h
 split
 ·rename_i h1
  unfold jcL;split
  ·intro r hr
   rcases aMN.1 hr with hr|hr
   ·exact h r hr
   ·obtain rfl:=aPF.1 hr
    exact hd h1
  ·exact h
 split
 ·exact h.poll _ _
 split
 ·unfold qz
  split
  ·exact jah h (jjd (f:=λr=>kx r _) λr=>jjL r _)
  ·exact h
 split
 ·unfold vp
  split
  ·exact jah h (jjd (f:=λr=>jz r _) λr=>(jaH r _).1)
  ·exact h
 split
 ·unfold jaE
  split
  ·exact λr hr=>idsLe.stepF _ h r hr
  ·exact h
 split
 ·unfold jX
  split
  ·exact jah h (jjd (f:=vG) joD)
  ·exact h
 split
 ·unfold vH
  split
  ·exact λr hr=>h r (List.mem_of_mem_eraseIdx hr)
  ·exact h
 ·unfold jbG
  split
  ·exact h.restR _
  ·exact h
theorem jv8 (c:List UInt8) (y:Yd) (s:Cu):(qy c y s).1.aMD=1->(qy c y s).1.run<=9:=by
 unfold qy;dsimp only;have x2:=(jN c (n:=9) (jo c 20 s).2 (by omega)).2
 repeat' split
 all_goals first
  |(intro h;dsimp only at h⊢;omega)
  |(intro h;exact absurd h (by decide))
theorem jma (c:List UInt8):∀(n:Nat) {x:List Dd×Yd×Cu},idsLe x.2.1->idsLe (vT c n x).2.1
 |0,x,h=>h
 |n+1,x,h=>jma c n (h.do (jv8 c x.2.1 x.2.2))
theorem jCk {y:Yd} {id:Int} (h:idsLe y) (h8:y.aLX.length<=8) (hid:9<id):runAt y id=-1:=by
 rw [runAt,if_neg (by omega)]
 exact jbF λj _ z hz he=>by have:=h z (aMJ hz);omega
theorem jdB {y:Yd} (h:YdI y):kw y+zr y.aLX=(qN kH y.aLX:Int)+y.aLU.flatten.length:=by
 have hf:=jbL h.rns.eight h.rns.ids h.ens
 have aJ:qh y (zR y)+(y.aLU.flatten.filter (jP y)).length=y.aLU.flatten.length:=by
  simp only [qh,zR,aOQ];have:=List.length_eq_countP_add_countP (jP y) (l:=y.aLU.flatten);simp only [aOQ] at this;have e:y.aLU.flatten.filter (λe=>!jP y e)=y.aLU.flatten.filter (λa=>decide ¬jP y a=true):=List.filter_congr λa _=>by cases jP y a<;>rfl
  rw [e];omega
 simp only [kw];omega
theorem jmm {l:List Rn} {k:Nat} {r:Rn} (hr:l[k]?=some r) (f:Rn->Nat):qN f (l.eraseIdx k)+f r=qN f l/\∀r2,qN f (l.set k r2)+f r=qN f l+f r2:=by
 obtain ⟨hk,e⟩:=aMI.1 hr;have h1:l=l.take k++r::l.drop (k+1):=by rw [<-e];simp
 have h2:l.eraseIdx k=l.take k++l.drop (k+1):=List.eraseIdx_eq_take_drop_succ _ _;refine ⟨?_,λr2=>?_⟩
 ·rw [h2]
  conv=>rhs;rw [h1]
  simp only [qN,aOT,List.sum_append,aNQ,aOW];omega
 ·have h3:l.set k r2=l.take k++r2::l.drop (k+1):=by rw [List.set_eq_take_append_cons_drop,if_pos hk]
  rw [h3]
  conv=>rhs;rw [h1]
  simp only [qN,aOT,List.sum_append,aNQ,aOW];omega
theorem jvk {r:Rn} (h:RunOkP r) (hs:r.aLV=1):vG r=⟨r.id,r.aLW,4,vn jA r.aLT r.aLT.length⟩:=jj1 (by rw [runOk_iff.2 h,hs];rfl)
structure AwayP (y:Yd) (r:Rn):Prop where
 cc:kK y r.id=if r.aLV=1 then 0 else 12
 fc:zj (jX y r.id) r.id=0
 fy:zj y r.id=if r.aLV=1 then 13 else 0
 okc:YardOkP (jX y r.id)
 okf:YardOkP (vH (jX y r.id) r.id)
 gone:runAt (vH (jX y r.id) r.id) r.id=-1
 slots:kw (vH (jX y r.id) r.id)<=kw y
 over:r.id∈jCb y↔r.aLV≠1
theorem away {y:Yd} (hI:YdI y) (hq:y.seq<=100000) {i:Nat} {r:Rn} (hr:y.aLX[i]?=some r):AwayP y r:=by
 have aC:=qF (hI.ok (by omega))
 have hk:=jg1 hI.rns.eight hI.rns.ids hr;have aK:¬runAt y r.id<0:=by omega
 have hg:(y.aLX[(runAt y r.id).toNat]?).getD default=r:=by rw [hk,aMQ,hr];rfl
 have hR:=hI.rns.right r (aMJ hr)
 have cc:kK y r.id=if r.aLV=1 then 0 else 12:=by
  unfold kK;rw [if_neg (by simp [aC]),if_neg aK,hg]
 have fy:zj y r.id=if r.aLV=1 then 13 else 0:=by
  unfold zj;rw [if_neg (by simp [aC]),if_neg aK,hg]
 have hz:∃r',(jX y r.id).aLX[i]?=some r'/\r'.id=r.id/\r'.aLV≠1/\(jX y r.id).seq=y.seq/\kw (jX y r.id)<=kw y:=by
  have hZ:=hI.cancel r.id;by_cases hs:r.aLV=1
  ·have pO:kK y r.id=0:=by rw [cc,if_pos hs]
   have hcy:jX y r.id=jcf y i (vG r):=by rw [jX,if_pos pO,hg,hk,aMQ]
   have s1:=jdB hZ;have s2:=jdB hI;rw [hcy] at s1⊢;have hi:=(aMI.1 hr).1;refine ⟨vG r,aML hi,joD r,by rw [jvk hR hs];simp,rfl,?_⟩
   have t1:=(jmm hr kH).2 (vG r);have t2:=(jmm hr λr=>cS 2 r.aLT).2 (vG r)
   have hl:=zM hR;have hl0:kH (vG r)=0:=by rw [jvk hR hs];simp [kH]
   simp only [jcf,zr] at s1 s2⊢;omega
  ·have hcy:jX y r.id=y:=by rw [jX,if_neg (by rw [cc,if_neg hs];decide)]
   rw [hcy];exact ⟨r,hr,rfl,hs,rfl,Int.le_refl _⟩
 obtain ⟨r',bE,hid,lG,rW,fP⟩:=hz;have hZ:=hI.cancel r.id;generalize eJ:jX y r.id=z at*;have wY:=hZ.ok (by omega)
 have hkz:=jg1 hZ.rns.eight hZ.rns.ids bE;rw [hid] at hkz;have hgz:(z.aLX[(runAt z r.id).toNat]?).getD default=r':=by rw [hkz,aMQ,bE];rfl
 have fc:zj z r.id=0:=by
  unfold zj;rw [if_neg (by simp [qF wY]),if_neg (by omega),hgz,if_neg lG]
 have hW:=hZ.forget r.id;have hwy:vH z r.id=⟨z.now,z.seq,z.aLU.map (λl=>l.filter (jbs r.id)),z.aLX.eraseIdx i⟩:=by rw [vH,if_pos fc,hkz,aMQ]
 have hwz:∀x∈(vH z r.id).aLX,x.id≠r.id:=by
  rw [hwy];intro x hx he;obtain ⟨j,mP,hj⟩:=List.mem_eraseIdx_iff_getElem?.1 hx;exact mP (joQ hZ.rns.ids hj bE (he.trans hid.symm))
 refine ⟨cc,by rw [eJ];exact fc,fy,by rw [eJ];exact wY,by rw [eJ];exact hW.ok (by rw [hwy];dsimp only;omega),?_,?_,?_⟩
 ·rw [eJ,runAt,if_neg (by have:=hW.rns.eight;omega)]
  exact jbF λj _ x hx=>hwz x (aMJ hx)
 ·rw [eJ]
  have s1:=jdB hW;have s2:=jdB hZ;rw [hwy] at s1⊢;have fW:(z.aLU.map λl=>l.filter (jbs r.id)).flatten=z.aLU.flatten.filter (jbs r.id):=by rw [List.filter_flatten]
  have aD:(z.aLU.flatten.filter (jbs r.id)).length<=z.aLU.flatten.length:=aNH _ _;have t1:=(jmm bE kH).1;have t2:=(jmm bE λr=>cS 2 r.aLT).1
  have hl:=zM (hZ.rns.right r' (aMJ bE));have hl0:kH r'=0:=by rw [kH,if_neg lG]
  simp only [zr] at s1 s2;rw [fW] at s1;omega
 ·simp only [jCb,jCa,aOB,aOD,bne_iff_ne]
  constructor
  ·rintro ⟨x,⟨hx,gS⟩,he⟩
   rwa [<-jjm hI.rns.ids hx (aMJ hr) he]
  ·intro h
   exact ⟨r,⟨aMJ hr,h⟩,rfl⟩
