/- Parts. -/
import Derived.Test.YtcehjhiglmifjaaGreatQKeepB
set_option linter.all false
set_option maxHeartbeats 8000000
set_option maxRecDepth 100000
namespace Go.Proofs.YtcehjhiglmifjaaGreat
open Go.RowKit Go.Sort
theorem jni {l:List UInt8} {k:Nat} {u:UInt8} (h:l[k]?=some u):(ja9 l).elem k=[D.val (.int .u8 (u.toNat:Int))]:=by
 have h1:=(aNP.1 h).1;simp only [D.elem,D.cells,D.size,aOG,<-List.map_drop];rw [aPG h1,(aNP.1 h).2];rfl
def qm (b ty:Nat) (c:List UInt8) (s:Cu):Ob:=.box b ty [.a (.ro (ja9 c)),.a (.v (.int .i64 (s.1:Int))),.a (.v (.int .i64 s.2))]
def jhi:C:=iS [iA 2 (.mov (.c (.pointer none)))] (iS [aM 5 0,aG 6 5,iA 7 (.bin .add 3 (oI 94701) (.t 6)),aM 3 7] (.seq (iS [aN 4 0] (.blk 0 (.loop (.seq (iS [aM 8 4,aM 9 0,aG 10 9,aP 11 .lss 3 8 10,aM 12 11,iB 13 12 true (iM 4),iB 14 12 true (iQ .lss 3 13 4000),iA 15 (iY 12 (.t 14) (oF))] (iD 15 .skip (.exit 0))) (.seq (.blk 1 (.reg [aM 18 3,aQ 19 .mul 3 18 131,aM 20 0,aM 21 4,aI 22 1 20 21,aL 23 22,iA 24 (.cv (.num .i64) 0 (.t 23)),aP 25 .add 3 19 24,aQ 26 .add 3 25 7,aQ 27 .and 3 26 1073741823,aM 3 27])) (.reg [aM 16 4,aQ 17 .add 3 16 1,aM 4 17])))))) (iS [aM 28 0,aM 29 3,iA 30 (.bld [.slice none 0 0,.int .i64 0,.int .i64 0] [(0,1,.t 28),(2,1,.t 29)]),iA 31 (.box 146 3 (.t 30)),aM 2 31] .ret)))
theorem jjI:fnC Tryz.prog Tryz.f58=some (jhi,[.t 2],32):=by kernel_rfl
def jff:C:=iS [aN 2 0] (iS [aM 4 0,aM 5 0,aF 6 0 5,aF 7 2 6,aL 8 7,aQ 9 .mul 3 8 6364136223846793005,aQ 10 .add 3 9 1442695040888963407,aF 11 0 4,aF 12 2 11,wAD 12 10] (.seq (.dreg (tA 0 13 (iM 0) (tA 1 14 (iF 0 13) (tA 2 15 (iF 2 14) (tA 3 16 (iL 15) (tA 4 17 (.bin .shr 3 (.t 16) (.c (.int .u64 33))) (tA 5 18 (iM 0) (tA 6 19 (iF 0 18) (tA 7 20 (iF 2 19) (tA 8 21 (iL 20) (tA 9 22 (.bin .shr 3 (.t 21) (.c (.int .u64 45))) (tA 10 23 (iP .xor 3 17 22) (tA 11 24 (iQ .and 3 23 255) (tA 12 3 (iM 24) .done)))))))))))))) (.seq (.seq (.dreg (tA 0 25 (iM 0) (tA 1 26 (iF 0 25) (tA 2 27 (iF 1 26) (tA 3 28 (iL 27) (tA 4 29 (iM 0) (tA 5 30 (iF 0 29) (tA 6 31 (iF 0 30) (tA 7 32 (iL 31) (tA 8 33 (iG 32) (tA 9 34 (iP .lss 3 28 33) .done))))))))))) (iD 34 (.seq (.dreg (tA 0 35 (iM 3) (tA 1 36 (iM 0) (tA 2 37 (iF 0 36) (tA 3 38 (iF 0 37) (tA 4 39 (iL 38) (tA 5 40 (iM 0) (tA 6 41 (iF 0 40) (tA 7 42 (iF 1 41) (tA 8 43 (iL 42) (tA 9 44 (iI 1 39 43) (tA 10 45 (iL 44) (tA 11 46 (.cv (.num .i64) 0 (.t 45)) (tA 12 47 (iP .add 3 35 46) (tA 13 48 (iQ .and 3 47 255) (tA 14 3 (iM 48) .done)))))))))))))))) (.reg [aM 49 0,aM 50 0,aF 51 0 50,aF 52 1 51,aL 53 52,aQ 54 .add 3 53 1,aF 55 0 49,aF 56 1 55,wAD 56 54])) .skip)) (iS [aM 57 3,aM 2 57] .ret))))
theorem jiB:fnC Tryz.prog Tryz.f59=some (jff,[.t 2],58):=by kernel_rfl
def jdJ:C:=iS [aN 4 0] (.seq (iS [aM 9 1,aQ 10 .leq 3 9 0] (iD 10 (iS [aN 4 0] .ret) .skip)) (.seq (iS [aM 11 1,aQ 12 .leq 3 11 256] (iD 12 (iS [aM 13 0,iA 14 (iK 59 [13]),aM 15 1,aP 16 .rem 3 14 15,aM 4 16] .ret) .skip)) (iS [aM 17 0,iA 18 (iK 59 [17]),aM 5 18] (iS [aM 19 0,iA 20 (iK 59 [19]),aM 6 20] (iS [aM 21 0,iA 22 (iK 59 [21]),aM 7 22] (iS [aM 23 0,iA 24 (iK 59 [23]),aM 8 24] (iS [aM 25 5,aQ 26 .mul 3 25 16777216,aM 27 6,aQ 28 .mul 3 27 65536,aP 29 .add 3 26 28,aM 30 7,aQ 31 .mul 3 30 256,aP 32 .add 3 29 31,aM 33 8,aP 34 .add 3 32 33,aM 35 1,aP 36 .rem 3 34 35,aM 4 36] .ret)))))))
theorem jgQ:fnC Tryz.prog Tryz.f60=some (jdJ,[.t 4],37):=by kernel_rfl
def jfe:C:=iS [aO 4 false] (iS [aM 5 0,aM 6 1,iA 7 (iK 60 [5,6]),aQ 8 .eql 3 7 0,aM 4 8] .ret)
theorem jiA:fnC Tryz.prog Tryz.f160=some (jfe,[.t 4],9):=by kernel_rfl
def je9:C:=iS [iA 2 wAS] (iS [aM 9 0,iA 10 (.call 60 [.t 9,oI 4]),aM 11 0,iA 12 (.call 60 [.t 11,oI 3]),iA 13 (.bin .add 3 (oI 1) (.t 12)),aM 14 0,iA 15 (.call 60 [.t 14,oI 4]),iA 16 (.bin .add 3 (oI 1) (.t 15)),aM 17 0,iA 18 (.call 60 [.t 17,oI 6]),iA 19 (.bin .add 3 (oI 1) (.t 18)),iA 20 (wA0 [(0,1,.t 10),(1,1,.t 13),(2,1,.t 16),(3,1,.t 19)]),iA 3 wAS,wAG 3 20] (.seq (iS [aM 21 0,iA 22 (.call 160 [.t 21,oI 10])] (iD 22 (.reg [aF 23 3 3,iC (.st 1 [none] (.t 23) (oI 12))]) .skip)) (.seq (iS [aN 4 0] (.blk 0 (.loop (.seq (iS [aM 24 4,aM 25 0,iA 26 (.call 60 [.t 25,oI 9]),aP 27 .lss 3 24 26,aM 28 27,iB 29 28 true (iF 3 3),iB 30 28 true (iL 29),iB 31 28 true (iQ .gtr 3 30 1),iA 32 (iY 28 (.t 31) (oF))] (iD 32 .skip (.exit 0))) (.seq (.blk 1 (iS [aM 35 0,aF 36 3 3,aL 37 36,aQ 38 .sub 3 37 1,iA 39 (iK 60 [35,38]),iA 40 (.bin .add 3 (oI 1) (.t 39)),aM 5 40] (iS [aM 41 0,aM 42 5,iA 43 (iK 60 [41,42]),aM 44 5,iA 45 (.bld [.int .i64 0,.int .i64 0] [(0,1,.t 43),(1,1,.t 44)]),iA 6 wAP,wAH 6 45] (iS [aO 7 false] (.seq (iS [aN 8 0] (.blk 2 (.loop (.seq (iS [aM 46 8,aF 47 4 3,aL 48 47,aG 49 48,aP 50 .lss 3 46 49] (iD 50 .skip (.exit 2))) (.seq (.blk 3 (.dreg (tA 0 53 (iM 7) (tA 1 54 (iM 53) (tB 2 55 54 false (iF 4 3) (tB 3 56 54 false (iL 55) (tB 4 57 54 false (iM 8) (tB 5 58 54 false (iI 2 56 57) (tB 6 59 54 false (iT 2 58) (tB 7 60 54 false (iT 2 6) (tB 8 61 54 false (iP .eql 161 59 60) (tA 9 62 (iY 54 (oT) (.t 61)) (tA 10 7 (iM 62) .done))))))))))))) (.reg [aM 51 8,aQ 52 .add 3 51 1,aM 8 52])))))) (iS [aM 63 7,aU 64 63] (iD 64 (.reg [aF 65 4 3,aL 66 65,aT 67 2 6,iA 68 (.bsl 161 2 1 [none,none] [(0,2,.t 67)]),iA 69 (.app 161 2 16 (.t 66) (.t 68)),aF 70 4 3,wAK 70 69]) .skip))))))) (.reg [aM 33 4,aQ 34 .add 3 33 1,aM 4 34])))))) (iS [aT 71 5 3,wAG 2 71] .ret))))
theorem jiv:fnC Tryz.prog Tryz.f108=some (je9,[.cell 2 true 5],72):=by kernel_rfl
theorem jeu (c:List UInt8) (hc:c.length<=1048576) (s:Cu) (b:Nat) (o:Nat->Ob) (hs:s.1<=c.length) (ho:o 89=qm b 146 c s):
 jEL Tryz.prog 59 [Bx 89 b] o (Ni (kE c s).1) (jEI o 89 (qm b 146 c (kE c s).2)):=by
 obtain ⟨k,h⟩:=s;dsimp only at hs;refine jox ?_;refine qo (β:=8000000) Tryz.func59 jiB (by simp) ?_
 unfold jff;unfold qm at ho;have hH:IntKind.i64.wrap (IntKind.i64.wrap (h*6364136223846793005)+1442695040888963407)=jqK h:=rfl;by_cases aB:k<c.length
 ·have aA:(k:Int)<(c.length:Int):=by omega
  obtain ⟨u,hu⟩:=ja aB;have hw:=kx k;have hr:kE c (k,h)=(jui (jCo (jqK h)+(u.toNat:Int)) 255,(k+1,jqK h)):=by simp only [kE,hu]
  have hx:=jo3 (jvY ((jqK h).fdiv (2^33)) ((jqK h).fdiv (2^45)));rw [<-show jCo (jqK h)=jui (jvY ((jqK h).fdiv (2^33)) ((jqK h).fdiv (2^45))) 255 from rfl] at hx
  have nW:=UInt8.toNat_lt u;have hwx:IntKind.i64.wrap (jCo (jqK h)+(u.toNat:Int))=jCo (jqK h)+(u.toNat:Int):=vF;simp only [go_sem,ho,hH,aA,aB,hw,jni hu,jyT,jaV];rw [hr];refine ⟨?_,jaf (by simp only [go_sem,qm]) λg g2=>?_⟩
  ·have e:∀x y:Int,AV.c (A0.v (Value.int .i64 (jui (IntKind.i64.wrap (jui (jvY x y) 255+(u.toNat:Int))) 255)))=AV.c (A0.v (Value.int .i64 (IntKind.i64.wrap ((BitVec.ofInt 64 (IntKind.i64.wrap (IntKind.i64.wrap ((BitVec.ofInt 64 (IntKind.i64.wrap ((BitVec.ofInt 64 x^^^BitVec.ofInt 64 y).toNat))&&&BitVec.ofInt 64 255).toNat)+(u.toNat:Int)))&&&BitVec.ofInt 64 255).toNat)))):=λ_ _=>rfl
   refine (e _ _).symm.trans ?_;show AV.c (A0.v (Value.int .i64 (jui (IntKind.i64.wrap (jCo (jqK h)+(u.toNat:Int))) 255)))=_;rw [hwx]
  ·simp only [go_sem,eq_false g2]
 ·have aA:¬(k:Int)<(c.length:Int):=by omega
  have hr:kE c (k,h)=(jCo (jqK h),(k,jqK h)):=by simp only [kE,aPN (by omega:c.length<=k)]
  simp only [go_sem,ho,hH,aA,jaV];rw [hr];refine ⟨rfl,jaf (by simp only [go_sem,qm]) λg g2=>?_⟩
  simp only [go_sem,eq_false g2]
theorem kp (c:List UInt8) (hc:c.length<=1048576) (n:Int) (s:Cu) (b:Nat) (o:Nat->Ob) (hs:s.1<=c.length) (ho:o 89=qm b 146 c s):
 jEL Tryz.prog 60 [Bx 89 b,Ni n] o (Ni (jh c n s).1) (jEI o 89 (qm b 146 c (jh c n s).2)):=by
 refine jox ?_;refine qo (β:=9000000) Tryz.func60 jgQ (by simp) ?_
 unfold jdJ;by_cases h0:n<=0
 ·have hr:jh c n s=(0,s):=by rw [jh,if_pos h0]
  rw [hr];simp only [go_sem,h0];exact jaf (by simp only [go_sem,ho]) λg g2=>by simp only [go_sem]
 have nC:n≠0:=by omega
 by_cases h1:n<=256
 ·have hr:jh c n s=((kE c s).1.tmod n,(kE c s).2):=by rw [jh,if_neg h0,if_pos h1]
  rw [hr];simp only [go_sem,h0,h1];refine jv (jeu c hc s b _ hs (by simp only [go_sem,ho])) (by simp only [go_sem]) ?_
  simp only [go_sem,nC];exact jaf (by simp only [go_sem]) λg g2=>by simp only [go_sem,eq_false g2]
 ·have hr:jh c n s=(((kE c s).1*16777216+(kE c (kE c s).2).1*65536+(kE c (kE c (kE c s).2).2).1*256+(kE c (kE c (kE c (kE c s).2).2).2).1).tmod n,(kE c (kE c (kE c (kE c s).2).2).2).2):=by rw [jh,if_neg h0,if_neg h1]
  rw [hr];simp only [go_sem,h0,h1];refine jv (jeu c hc s b _ hs (by simp only [go_sem,ho])) (by simp only [go_sem]) ?_
  have a1:=jaF c s;have t1:=jaG hs;generalize kE c s=r1 at*;simp only [go_sem];refine jv (jeu c hc r1.2 b _ t1 (by simp only [go_sem])) (by simp only [go_sem]) ?_
  have a2:=jaF c r1.2;have t2:=jaG t1;generalize kE c r1.2=r2 at*;simp only [go_sem];refine jv (jeu c hc r2.2 b _ t2 (by simp only [go_sem])) (by simp only [go_sem]) ?_
  have a3:=jaF c r2.2;have t3:=jaG t2;generalize kE c r2.2=r3 at*;simp only [go_sem];refine jv (jeu c hc r3.2 b _ t3 (by simp only [go_sem])) (by simp only [go_sem]) ?_
  have a4:=jaF c r3.2;generalize kE c r3.2=r4 at*;have w1:IntKind.i64.wrap (r1.1*16777216)=r1.1*16777216:=vF;have w2:IntKind.i64.wrap (r2.1*65536)=r2.1*65536:=vF;have w3:IntKind.i64.wrap (r1.1*16777216+r2.1*65536)=r1.1*16777216+r2.1*65536:=vF;have w4:IntKind.i64.wrap (r3.1*256)=r3.1*256:=vF;have w5:IntKind.i64.wrap (r1.1*16777216+r2.1*65536+r3.1*256)=r1.1*16777216+r2.1*65536+r3.1*256:=vF;have w6:IntKind.i64.wrap (r1.1*16777216+r2.1*65536+r3.1*256+r4.1)=r1.1*16777216+r2.1*65536+r3.1*256+r4.1:=vF;simp only [go_sem,w1,w2,w3,w4,w5,w6,nC];exact jaf (by simp only [go_sem]) λg g2=>by simp only [go_sem,eq_false g2]
theorem jkp (c:List UInt8) (hc:c.length<=1048576) (n:Int) (s:Cu) (b:Nat) (o:Nat->Ob) (hs:s.1<=c.length) (ho:o 89=qm b 146 c s):
 jEL Tryz.prog 160 [Bx 89 b,Ni n] o (.c (.v (.bool ((jh c n s).1==0)))) (jEI o 89 (qm b 146 c (jh c n s).2)):=by
 refine jox ?_;refine qo (β:=9100000) Tryz.func160 jiA (by simp) ?_
 unfold jfe;simp only [go_sem];refine jv (kp c hc n s b _ hs (by simp only [go_sem,ho])) (by simp only [go_sem]) ?_
 simp only [go_sem];exact jaf (by simp only [go_sem]) λg g2=>by simp only [go_sem,eq_false g2]
theorem jyD (l:List Ed) (e:Ed):D.sl 2 tEd (l.flatMap jK++[.val (.int .i64 e.src),.val (.int .i64 e.dst)])=js (l++[e]):=jnv l e
theorem jnl {c:List UInt8} {n:Int} {f i:Nat} {E:List Ed} {s:Cu} (h:¬((i:Int)<(jh c 9 s).1/\1<n)):jai c n (f+1) i E s=(E,(jh c 9 s).2):=by rw [jai];dsimp only;rw [if_neg h]
theorem jyS {c:List UInt8} {n:Int} {f i:Nat} {E:List Ed} {s:Cu} (h:(i:Int)<(jh c 9 s).1/\1<n):jai c n (f+1) i E s=jai c n f (i+1) (if (⟨(jh c (1+(jh c (n-1) (jh c 9 s).2).1) (jh c (n-1) (jh c 9 s).2).2).1,1+(jh c (n-1) (jh c 9 s).2).1⟩:Ed)∈E then E else E++[⟨(jh c (1+(jh c (n-1) (jh c 9 s).2).1) (jh c (n-1) (jh c 9 s).2).2).1,1+(jh c (n-1) (jh c 9 s).2).1⟩]) (jh c (1+(jh c (n-1) (jh c 9 s).2).1) (jh c (n-1) (jh c 9 s).2).2).2:=by rw [jai];dsimp only;rw [if_pos h]
theorem jx9 (c:List UInt8) (hc:c.length<=1048576) (s:Cu) (b:Nat) (o:Nat->Ob) (hs:s.1<=c.length) (ho:o 89=qm b 146 c s) (pE:o 86=.none):
 Inl Tryz.prog 108 [Bx 89 b] o λav o2=>∃e:jf,av=.agg [.v (.int .i64 (jcZ c s).1.aNI),.v (.int .i64 (jcZ c s).1.aNN),.v (.int .i64 (jcZ c s).1.aNM),.v (.int .i64 (jcZ c s).1.aNA),.v (e [])]/\(e []).oneCell'=true/\o2 86=.loose (js (jcZ c s).1.aNF) e/\o2 89=qm b 146 c (jcZ c s).2/\∀g,g<900000000->g≠86->g≠89->o2 g=o g:=by
 refine jlf (β:=9000000) [[1,1],[1,1,1],[1,1,1,1],[1,1,1,1,0]] Tryz.func108 jiv (by simp) ?_
 unfold je9;simp only [C.ghs,C.ghAt,List.foldr];simp only [go_sem];intro b2;refine jv (kp c hc 4 s b _ hs (by simp only [go_sem,ho])) (by simp only [go_sem]) ?_
 have s1:=jj (n:=4) hs;have r1:=jO c (n:=4) s (by omega)
 generalize gC:jh c 4 s=q1 at*;simp only [go_sem];refine jv (kp c hc 3 q1.2 b _ s1 (by simp only [go_sem])) (by simp only [go_sem]) ?_
 have s2:=jj (n:=3) s1;have r2:=jO c (n:=3) q1.2 (by omega)
 generalize gO:jh c 3 q1.2=q2 at*;simp only [go_sem];refine jv (kp c hc 4 q2.2 b _ s2 (by simp only [go_sem])) (by simp only [go_sem]) ?_
 have s3:=jj (n:=4) s2;have r3:=jO c (n:=4) q2.2 (by omega)
 generalize sN:jh c 4 q2.2=q3 at*;simp only [go_sem];refine jv (kp c hc 6 q3.2 b _ s3 (by simp only [go_sem])) (by simp only [go_sem]) ?_
 have s4:=jj (n:=6) s3;have r4:=jO c (n:=6) q3.2 (by omega)
 generalize wA:jh c 6 q3.2=q4 at*;have w2:IntKind.i64.wrap (1+q2.1)=1+q2.1:=vF;have w3:IntKind.i64.wrap (1+q3.1)=1+q3.1:=vF;have w4:IntKind.i64.wrap (1+q4.1)=1+q4.1:=vF;simp only [go_sem,w2,w3,w4];intro b3;have s5:=jj (n:=10) s4;generalize xG:jh c 10 q4.2=q5 at*;obtain ⟨n,hn⟩:∃n:Int,(if q5.1=0 then (12:Int) else 1+q4.1)=n:=⟨_,rfl⟩
 have nB:1<=n/\n<=12:=by rw [<-hn];split<;>omega
 have gD:jcZ c s=(⟨q1.1,1+q2.1,1+q3.1,n,(jai c n 9 0 [] q5.2).1⟩,(jai c n 9 0 [] q5.2).2):=by
  simp only [jcZ,gC,gO,sN,wA,xG,hn]
 generalize hD0:jai c n 9 0 [] q5.2=D0 at gD;rw [gD];refine kv (WkK.of ?_);refine jdf (λ_:Unit=>St.ofB [(0,Bx 89 b),(2,Bx 900000200 b2),(3,Bx 900000300 b3)] [(900000200,ZPl b2 49),(900000300,jzx b3 49 q1.1 (1+q2.1) (1+q3.1) n [] jbL)] 900000000 (λj=>if j=89 then qm b 146 c q5.2 else o j)) ?_ ?_
 ·simp only [go_sem]
  refine jv (jkp c hc 10 q4.2 b _ s4 (by simp only [go_sem])) (by simp only [go_sem]) ?_
  rw [xG];cases h5:q5.1==0
  ·have e:¬q5.1=0:=by simpa using h5
   rw [if_neg e] at hn;simp only [go_sem];exact ⟨(),(kM [some 900000200,some 900000300] (by simp only [go_sem,hn]<;>trivial) (λj hj=>by by_cases e89:j=89<;>simp only [go_sem,e89,jV hj 900000200 (by omega),jV hj 900000300 (by omega),hn]) (by decide))⟩
  ·have e:q5.1=0:=by simpa using h5
   rw [if_pos e] at hn;simp only [go_sem];exact ⟨(),(kM [some 900000200,some 900000300] (by simp only [go_sem,hn]<;>trivial) (λj hj=>by by_cases e89:j=89<;>simp only [go_sem,e89,jV hj 900000200 (by omega),jV hj 900000300 (by omega),hn]) (by decide))⟩
 rintro ⟨⟩;refine jdf (λi:{i:(List Ed×Cu)×jf//D0=i.1}=>St.ofB [(0,Bx 89 b),(2,Bx 900000200 b2),(3,Bx 900000300 b3)] [(900000200,ZPl b2 49),(900000300,jzx b3 49 q1.1 (1+q2.1) (1+q3.1) n i.1.1.1 i.1.2)] 900000000 (λj=>if j=89 then qm b 146 c i.1.1.2 else o j)) ?_ ?_
 ·simp only [go_sem]
  refine kg (λi:(Nat×List Ed×Cu)×jf=>St.ofB [(0,Bx 89 b),(2,Bx 900000200 b2),(3,Bx 900000300 b3),(4,Ni i.1.1)] [(900000200,ZPl b2 49),(900000300,jzx b3 49 q1.1 (1+q2.1) (1+q3.1) n i.1.2.1 i.2)] 900000000 (λj=>if j=89 then qm b 146 c i.1.2.2 else o j)) (λi=>i.1.1<=8/\i.1.2.1.length<=i.1.1/\i.1.2.2.1<=c.length/\D0=jai c n (9-i.1.1) i.1.1 i.1.2.1 i.1.2.2) (λi=>9-i.1.1) ((0,[],q5.2),jbL) (⟨aOL 8,aOC 0,s5,hD0.symm⟩) (kM [some 900000200,some 900000300] (by simp only [go_sem]<;>trivial) (λj hj=>by by_cases e89:j=89<;>simp only [go_sem,e89,hj]) (by decide)) ?_
  rintro ⟨⟨ii,E,u⟩,e0⟩ ⟨wC,hEl,hu,mD⟩;dsimp only at wC hEl hu mD;obtain ⟨f,hf⟩:∃f,9-ii=f+1:=⟨8-ii,by omega⟩
  rw [hf] at mD;simp only [go_sem];refine jv (kp c hc 9 u b _ hu (by simp only [go_sem])) (by simp only [go_sem]) ?_
  have u1:=jj (n:=9) hu;have x1:=jO c (n:=9) u (by omega)
  generalize pQ:jh c 9 u=p1 at*;by_cases aB:(ii:Int)<p1.1;rotate_left
  ·rw [jnl (by rw [pQ];omega),pQ] at mD
   simp only [go_sem,aB];exact ⟨⟨((E,p1.2),e0),mD⟩,(kM [some 900000200,some 900000300] (by simp only [go_sem]<;>trivial) (λj hj=>by by_cases e89:j=89<;>simp only [go_sem,e89,hj]) (by decide))⟩
  by_cases i8:n>1;rotate_left
  ·rw [jnl (by omega),pQ] at mD
   simp only [go_sem,aB,i8];exact ⟨⟨((E,p1.2),e0),mD⟩,(kM [some 900000200,some 900000300] (by simp only [go_sem]<;>trivial) (λj hj=>by by_cases e89:j=89<;>simp only [go_sem,e89,hj]) (by decide))⟩
  rw [jyS (by rw [pQ];omega),pQ] at mD
  have pK:IntKind.i64.wrap (n-1)=n-1:=vF;simp only [go_sem,aB,i8,pK];refine jv (kp c hc (n-1) p1.2 b _ u1 (by simp only [go_sem])) (by simp only [go_sem]) ?_
  have u2:=jj (n:=n-1) u1;have x2:=jO c (n:=n-1) p1.2 (by omega)
  generalize uC:jh c (n-1) p1.2=p2 at*;have bV:IntKind.i64.wrap (1+p2.1)=1+p2.1:=vF;simp only [go_sem,bV];refine jv (kp c hc (1+p2.1) p2.2 b _ u2 (by simp only [go_sem])) (by simp only [go_sem]) ?_
  have u3:=jj (n:=1+p2.1) u2;have x3:=jO c (n:=1+p2.1) p2.2 (by omega)
  generalize hp3:jh c (1+p2.1) p2.2=p3 at*;simp only [go_sem];intro b6;obtain ⟨e,he⟩:∃e:Ed,e=⟨p3.1,1+p2.1⟩:=⟨_,rfl⟩;have mU:p3.1=e.src:=by rw [he]
  have cC:1+p2.1=e.dst:=by rw [he]
  rw [<-he] at mD;have gA:=kx ii;refine qY (λi:Nat=>St.ofB [(0,Bx 89 b),(2,Bx 900000200 b2),(3,Bx 900000300 b3),(4,Ni ii),(6,Bx 900000600 b6),(7,.c (.v (.bool (decide (e∈E.take i))))),(8,Ni i)] [(900000200,ZPl b2 49),(900000300,jzx b3 49 q1.1 (1+q2.1) (1+q3.1) n E e0),(900000600,.box b6 161 [.a (.v (.int .i64 e.src)),.a (.v (.int .i64 e.dst))])] 900000000 (λj=>if j=89 then qm b 146 c p3.2 else o j)) (λi=>i<=E.length) (λi=>E.length-i) 0 (kM [some 900000200,some 900000300,some 900000600] (by simp only [go_sem,aOW,List.not_mem_nil,decide_false,mU,cC]<;>trivial) (λj hj=>by by_cases e89:j=89<;>simp only [go_sem,e89,hj,jV hj 900000600 (by omega),mU,cC]) (by decide)) ?_
  rintro k hk;by_cases dG:k<E.length
  ·have nE:(k:Int)<(E.length:Int):=by omega
   have bJ:=qX k;obtain ⟨x,hx⟩:=ja dG;have gK:=kx k;have dV:E.take (k+1)=E.take k++[x]:=by rw [aOA,hx];rfl
   by_cases hm:e∈E.take k
   ·have h1:decide (e∈E.take k)=true:=decide_eq_true hm
    have h2:decide (e∈E.take (k+1))=true:=decide_eq_true (by rw [dV];simp [hm])
    simp only [go_sem,nE,h1];exact qf (k+1) (kM [some 900000200,some 900000300,some 900000600] (by simp only [go_sem,h2,gK]<;>trivial) (λj hj=>by by_cases e89:j=89<;>simp only [go_sem,e89,hj,gK]) (by decide))
   ·have h1:decide (e∈E.take k)=false:=decide_eq_false hm
    by_cases nT:x=e
    ·have h2:decide (e∈E.take (k+1))=true:=decide_eq_true (by rw [dV];simp [nT])
     have h3:decide (x=e)=true:=decide_eq_true nT;simp only [go_sem,nE,dG,bJ,h1,jq5 hx,jqq dG,jK,h3];exact qf (k+1) (kM [some 900000200,some 900000300,some 900000600] (by simp only [go_sem,h2,gK]<;>trivial) (λj hj=>by by_cases e89:j=89<;>simp only [go_sem,e89,hj,gK]) (by decide))
    ·have h2:decide (e∈E.take (k+1))=false:=decide_eq_false (by rw [dV];simp [hm];exact λh=>nT h.symm)
     have h3:decide (x=e)=false:=decide_eq_false nT;simp only [go_sem,nE,dG,bJ,h1,jq5 hx,jqq dG,jK,h3];exact qf (k+1) (kM [some 900000200,some 900000300,some 900000600] (by simp only [go_sem,h2,gK]<;>trivial) (λj hj=>by by_cases e89:j=89<;>simp only [go_sem,e89,hj,gK]) (by decide))
  ·obtain rfl:k=E.length:=by omega
   have nE:¬((E.length:Nat):Int)<(E.length:Int):=by omega
   rw [aPP];by_cases hm:e∈E
   ·have h1:decide (e∈E)=true:=decide_eq_true hm
    rw [if_pos hm] at mD;simp only [go_sem,nE,h1];exact ⟨((ii+1,E,p3.2),e0),⟨by dsimp only;omega,by dsimp only;omega,u3,by rw [show 9-(ii+1)=f by omega];exact mD⟩,(kM [some 900000200,some 900000300] (by simp only [go_sem,gA]<;>trivial) (λj hj=>by by_cases e89:j=89<;>simp only [go_sem,e89,hj,gA]) (by decide)),by (try dsimp only);omega⟩
   ·have h1:decide (e∈E)=false:=decide_eq_false hm
    rw [if_neg hm] at mD;simp only [go_sem,nE,h1];intro e1;refine ⟨by unfold maxLen;omega,by omega,λe2=>?_⟩
    exact ⟨((ii+1,E++[e],p3.2),e2),⟨by dsimp only;omega,by dsimp only;simp;omega,u3,by rw [show 9-(ii+1)=f by omega];exact mD⟩,(kM [some 900000200,some 900000300] (by simp only [go_sem,gA,jyD]<;>trivial) (λj hj=>by by_cases e89:j=89<;>simp only [go_sem,e89,hj,jV hj 900000300 (by omega),jV hj 900006800 (by omega),jV hj 900006900 (by omega),gA,jyD]) (by decide)),by (try dsimp only);omega⟩
 rintro ⟨⟨⟨E,u⟩,e0⟩,mD⟩;dsimp only at mD;subst mD;simp only [go_sem];refine kv ?_;refine qA 900000300 4 86 (d:=js E) (η:=e0) (by simp only [go_sem]) (by simp only [go_sem,pE]) (by decide) λhx=>?_
 refine WkK.of ?_;simp only [go_sem,hx];exact ⟨e0,rfl,hx,rfl,λg g1 g2 g3=>by simp only [g2,g3,g1,jV g1 900000200 (by omega),jV g1 900000300 (by omega),if_true,if_false]⟩
abbrev YdHs (y:Yd) (x2 x3:Value):AV:=.agg [.v (.int .i64 y.now),.v (.int .i64 y.seq),.hs 94 0 [] x2 1 0 y.aNC.length,.hs 95 0 [] x3 8 0 y.aNE.length]
abbrev tup3 (a b c:Int):AV:=.tup [(false,[.v (.int .i64 a)]),(false,[.v (.int .i64 b)]),(false,[.v (.int .i64 c)])]
theorem jCv {l:List Rn} {k:Nat} {r:Rn} (h:l[k]?=some r):((l.flatMap je).drop (k*8)).take 1=[.val (.int .i64 r.id)]:=qH (enc:=je) (size:=8) (λ_=>rfl) h (j:=0) (n:=1) (by decide)
theorem jCb {l:List Rn} {k:Nat} {r:Rn} (h:l[k]?=some r):k*8+1<=(l.flatMap je).length:=qZ (enc:=je) (size:=8) (λ_=>rfl) h (j:=0) (n:=1) (by decide)
theorem jxg {s:St} {a b c:Nat} {x y z:A0} {K:AV->(Nat->Ob)->Prop} (ha:s.t a=.c x) (hb:s.t b=.c y) (hc:s.t c=.c z) (h:K (.tup [(false,[x]),(false,[y]),(false,[z])]) s.o):jv3 [.t a,.t b,.t c] K s:=by
 simp only [jv3,jju,ha,hb,hc];exact h
def jfh:C:=iS [iA 2 (.box 52 8 (.t 0)),iA 4 (.mov (.c (.slice none 0 0)))] (iS [iA 7 (wA3 []),aM 5 7] (.seq (iS [aN 6 0] (.blk 0 (.loop (.seq (iS [aM 8 6,aF 9 7 2,aL 10 9,aG 11 10,aP 12 .lss 3 8 11] (iD 12 .skip (.exit 0))) (.seq (.blk 1 (iS [aF 15 7 2,aL 16 15,aM 17 6,aI 18 4 16 17,aF 19 0 18,aL 20 19,aM 21 1,aP 22 .eql 3 20 21] (iD 22 (.reg [aM 23 5,aM 24 6,iA 25 (wA1 [(0,1,.t 24)]),iA 26 (wBA 23 25),aM 5 26]) .skip))) (.reg [aM 13 6,aQ 14 .add 3 13 1,aM 6 14])))))) (iS [aM 27 5,aM 4 27] .ret)))
theorem jiD:fnC Tryz.prog Tryz.f199=some (jfh,[.t 4],28):=by kernel_rfl
def je4:C:=iS [iA 3 (.box 27 4 (.t 1)),aN 4 0,aN 5 0,aN 6 0] (.seq (iS [aN 7 0] (.blk 0 (.loop (.seq (iS [aM 11 7,aF 12 3 3,aL 13 12,aG 14 13,aP 15 .lss 3 11 14] (iD 15 .skip (.exit 0))) (.seq (.blk 1 (iS [aF 18 3 3,aL 19 18,aM 20 7,aI 21 8 19 20,aT 22 8 21,iA 23 (.call 199 [.t 22,oI 3]),aM 8 23] (iS [aM 24 8,aG 25 24,aQ 26 .gtr 3 25 0,aM 27 26,iB 28 27 true (iM 0),iB 29 27 true (.call 160 [.t 28,oI 5]),iB 30 27 true (iU 29),iA 31 (iY 27 (.t 30) (oF))] (iD 31 (iS [aM 32 8,aM 33 0,aM 34 8,aG 35 34,iA 36 (iK 60 [33,35]),aI 37 1 32 36,aL 38 37,aM 9 38] (iS [aF 39 3 3,aL 40 39,aM 41 7,aI 42 8 40 41,aF 43 7 42,aL 44 43,aM 45 9,aI 46 4 44 45,aF 47 2 46,aL 48 47,aM 10 48] (.seq (iS [aM 49 0,iA 50 (.call 160 [.t 49,oI 8])] (iD 50 (.reg [aM 51 10,aQ 52 .sub 3 51 1,aM 53 0,iA 54 (.call 60 [.t 53,oI 2]),iA 55 (.bin .mul 3 (oI 2) (.t 54)),aP 56 .add 3 52 55,aM 10 56]) .skip)) (iS [aF 57 3 3,aL 58 57,aM 59 7,aI 60 8 58 59,aF 61 0 60,aL 62 61,aM 63 9,aM 64 10,aM 4 62,aM 5 63,aM 6 64] .ret)))) .skip)))) (.reg [aM 16 7,aQ 17 .add 3 16 1,aM 7 17])))))) (iS [aM 65 0,iA 66 (.call 60 [.t 65,oI 5]),iA 67 (.bin .add 3 (oI 1) (.t 66)),aM 68 0,iA 69 (.call 60 [.t 68,oI 6]),aQ 70 .sub 3 69 1,aM 71 0,iA 72 (.call 60 [.t 71,oI 4]),aM 4 67,aM 5 70,aM 6 72] .ret))
theorem jiq:fnC Tryz.prog Tryz.f184=some (je4,[.t 4,.t 5,.t 6],73):=by kernel_rfl
theorem jl9 (r:Rn) (s:Int) (hl:r.aNA.length<=2000000):jW Tryz.prog 199 [.agg (je r),.c (.val (.int .i64 s))] (.c (jb (qV s r.aNA))):=by
 refine pf_ jiD ?_;unfold jfh;simp only [go_sem,je,jd];intro b fB;refine qY (λi:Nat×jf=>St.of [(1,Ni s),(2,Bx 200 b),(5,Hd 5 i.2),(6,Ni i.1)] [(200,Bi b _ (je r)),(5,.loose (jb (zi s r.aNA i.1)) i.2)]) (λi=>i.1<=r.aNA.length) (λi=>r.aNA.length-i.1) (0,fB) (jt [200,700] (by simp only [go_sem,je,jd,jBH,jr4]<;>trivial)) ?_
 rintro ⟨k,η⟩ hk;dsimp only at hk;by_cases aB:k<r.aNA.length
 ·have aA:(k:Int)<r.aNA.length:=by omega
  have bJ:=qX k;obtain ⟨x,hx⟩:=ja aB;have hw:=kx k;have hc:=jc6 hx s;have cE:=vx s r.aNA k;generalize zi s r.aNA k=R at*;have dI:R.length+1<=maxLen:=zy;have eB:(R.length+1)*8<=140737488355328:=by omega
  by_cases h2:x.aND=s
  ·have bI:(x.aND==s)=true:=by simpa using h2
   rw [if_pos h2] at hc;simp only [go_sem,je,jd,aB,aA,bJ,jP hx,jH,bI,dI,eB,kT];intro cI dP;simp only [go_sem,hw];exact qf (k+1,dP) (jt [200,2600] (by simp only [go_sem,hc]<;>trivial))
  ·have bI:(x.aND==s)=false:=by simpa using h2
   rw [if_neg h2,aOP] at hc;simp only [go_sem,je,jd,aB,aA,bJ,jP hx,jH,bI,hw];exact qf (k+1,η) (jt [200,5] (by simp only [go_sem,hc]<;>trivial))
 have aA:¬(k:Int)<r.aNA.length:=by omega
 obtain rfl:k=r.aNA.length:=by omega
 simp only [go_sem,je,jd,aA,qV]
theorem jtF (c:List UInt8) (hc:c.length<=1048576) (y:Yd) (hy:YdI y) (s:Cu) (b:Nat) (o:Nat->Ob) (f2 f3:jf) (hs:s.1<=c.length) (ho:o 89=qm b 146 c s) (tJ:o 94=.loose (ki y.aNC) f2) (mW:o 95=.loose (jE y.aNE) f3):
 Inl Tryz.prog 184 [Bx 89 b,YdHs y (f2 []) (f3 [])] o λav o2=>av=tup3 (qD c y s).1.1 (qD c y s).1.2.1 (qD c y s).1.2.2/\o2 89=qm b 146 c (qD c y s).2/\∀g,g<800000000->g≠89->o2 g=o g:=by
 refine qo (β:=8000000) Tryz.func184 jiq (by simp) ?_
 unfold je4;have h8:=hy.rns.eight;simp only [go_sem];intro b3;have uZ:=jGD (g:=95) (sz:=8) (d:=jE y.aNE) (η:=f3) rfl rfl (vA _) (by decide)
 have fM:∀r s',jbU c y.aNE s=(r,s')->qD c y s=match (r,s') with
  |(some x,s)=>(x,s)
  |(none,s)=>let a:=jh c 5 s;let b:=jh c 6 a.2;let d:=jh c 4 b.2;((1+a.1,b.1-1,d.1),d.2):=λr s' h=>by rw [qD,h]<;>rfl
 refine kg (λi:Nat×Cu=>St.ofB [(0,Bx 89 b),(3,Bx 800000300 b3),(7,Ni i.1)] [(800000300,.box b3 tYd [.a (.v (.int .i64 y.now)),.a (.v (.int .i64 y.seq)),.a (.hs 94 0 [] (f2 []) 1 0 y.aNC.length),.a (.hs 95 0 [] (f3 []) 8 0 y.aNE.length)])] 800000000 (λj=>if j=89 then qm b 146 c i.2 else o j)) (λi=>i.1<=y.aNE.length/\i.2.1<=c.length/\jbU c y.aNE s=jbU c (y.aNE.drop i.1) i.2) (λi=>y.aNE.length-i.1) (0,s) (⟨aOL _,hs,rfl⟩) (kM [some 800000300] (by simp only [go_sem]<;>trivial) (λj hj=>by by_cases e89:j=89<;>simp only [go_sem,e89,jV hj 800000300 (by omega),ho]) (by decide)) ?_
 rintro ⟨k,u⟩ ⟨hk,hu,hH⟩;dsimp only at hk hu hH;by_cases aB:k<y.aNE.length;rotate_left
 ·have aA:¬(k:Int)<y.aNE.length:=by omega
  rw [List.drop_eq_nil_of_le (by omega),jbU] at hH
  rw [fM _ _ hH];dsimp only;simp only [go_sem,aA,uZ,mW];refine jv (kp c hc 5 u b _ hu (by simp only [go_sem])) (by simp only [go_sem]) ?_
  have u1:=jj (n:=5) hu;have x1:=jO c (n:=5) u (by omega)
  generalize jh c 5 u=p1 at*;have w1:IntKind.i64.wrap (1+p1.1)=1+p1.1:=vF;simp only [go_sem,w1];refine jv (kp c hc 6 p1.2 b _ u1 (by simp only [go_sem])) (by simp only [go_sem]) ?_
  have u2:=jj (n:=6) u1;have x2:=jO c (n:=6) p1.2 (by omega)
  generalize jh c 6 p1.2=p2 at*;have w2:IntKind.i64.wrap (p2.1-1)=p2.1-1:=vF;simp only [go_sem,w2];refine jv (kp c hc 4 p2.2 b _ u2 (by simp only [go_sem])) (by simp only [go_sem]) ?_
  have x3:=jO c (n:=4) p2.2 (by omega)
  generalize jh c 4 p2.2=p3 at*;simp only [go_sem];exact jxg (by simp only [go_sem]) (by simp only [go_sem]) (by simp only [go_sem]) ⟨rfl,by simp only [go_sem],λg g1 g2=>by simp only [go_sem,g1,g2]⟩
 have aA:(k:Int)<y.aNE.length:=by omega
 have bJ:=qX k;obtain ⟨r,hr⟩:=ja aB;have cF:=(hy.rns.right r (aNQ hr)).le12;simp only [go_sem,aA,uZ,mW,aB,bJ,jmz hr,jih hr,je,jd];refine jG (jl9 r 3 (by omega)) (by simp only [go_sem,je,jd,mW,joB hr,ko hr]) λwI=>?_
 simp only [go_sem];have gK:=kx k
 have hd:y.aNE.drop k=r::y.aNE.drop (k+1):=by
  obtain ⟨hk,rfl⟩:=aNP.1 hr;exact aPG hk
 rw [hd,jbU] at hH;dsimp only at hH;have eA:=λv:Int=>@tinL_mem 3 r.aNA v
 have dB:=vx 3 r.aNA r.aNA.length;rw [show zi 3 r.aNA r.aNA.length=qV 3 r.aNA from rfl] at dB
 generalize qV 3 r.aNA=L at*;by_cases hL:L=[]
 ·subst hL
  rw [if_pos rfl] at hH;have hz:¬((([]:List Int).length:Int)>0):=by simp
  simp only [go_sem,gK];exact ⟨(k+1,u),⟨aB,hu,hH⟩,(kM [some 800000300] (by simp only [go_sem]<;>trivial) (λj hj=>by by_cases e89:j=89<;>simp only [go_sem,e89,hj,jV hj 800002300 (by omega)]) (by decide)),by (try dsimp only);omega⟩
 rw [if_neg hL] at hH;have hLp:0<L.length:=aQZ.2 hL;have hz:((L.length:Int)>0):=by omega
 simp only [go_sem,hz];refine jv (jkp c hc 5 u b _ hu (by simp only [go_sem])) (by simp only [go_sem]) ?_
 have u1:=jj (n:=5) hu;generalize jh c 5 u=p1 at*;by_cases h5:p1.1=0
 ·have mH:(p1.1==0)=true:=by simp [h5]
  rw [if_pos h5] at hH;simp only [go_sem,mH,gK];exact ⟨(k+1,p1.2),⟨aB,u1,hH⟩,(kM [some 800000300] (by simp only [go_sem]<;>trivial) (λj hj=>by by_cases e89:j=89<;>simp only [go_sem,e89,hj,jV hj 800002300 (by omega)]) (by decide)),by (try dsimp only);omega⟩
 have mH:(p1.1==0)=false:=by simp [h5]
 rw [if_neg h5] at hH;simp only [go_sem,mH];refine jv (kp c hc L.length p1.2 b _ u1 (by simp only [go_sem])) (by simp only [go_sem]) ?_
 have u2:=jj (n:=(L.length:Int)) u1;have x2:=jO c (n:=(L.length:Int)) p1.2 (by omega)
 generalize jh c L.length p1.2=p2 at*;obtain ⟨j,hj⟩:=Int.eq_ofNat_of_zero_le x2.1;rw [hj] at x2;have bN:j<L.length:=by omega
 have dX:=qX j;obtain ⟨v,hv⟩:=ja bN;obtain ⟨t,x,hvt,hx,m8⟩:=(eA v).1 (aNQ hv);have oB:=(aNP.1 hx).1;have fF:=qX t;rw [hj,aNW,hv,aNZ,hvt,aNW,hx] at hH;rw [hvt] at hv;have lB:j+1<=(L.flatMap λn=>[iv n]).length:=by have:=jp bN;rwa [aOG] at this
 have nU:((L.flatMap λn=>[iv n]).drop j).take 1=[iv (t:Int)]:=by have:=jq hv;rwa [aOG] at this
 simp only [go_sem,hj,dX,bN,lB,nU,aOG,uZ,mW,aB,bJ,jav hr,jaW hr,ko hr,oB,fF,jnr hx,jnb hx];simp only [Option.map_some,aNZ] at hH;refine jv (jkp c hc 8 p2.2 b _ u2 (by simp only [go_sem])) (by simp only [go_sem]) ?_
 have u3:=jj (n:=8) u2;generalize jh c 8 p2.2=p3 at*;by_cases gX:p3.1=0
 ·have h8b:(p3.1==0)=true:=by simp [gX]
  rw [if_pos gX] at hH;simp only [go_sem,h8b];refine jv (kp c hc 2 p3.2 b _ u3 (by simp only [go_sem])) (by simp only [go_sem]) ?_
  have x4:=jO c (n:=2) p3.2 (by omega)
  generalize jh c 2 p3.2=p4 at*;have w4:IntKind.i64.wrap (2*p4.1)=2*p4.1:=vF;rw [fM _ _ hH];dsimp only;simp only [go_sem,w4,uZ,mW,aB,bJ,aOO,jCv hr,jCb hr];exact jxg (by simp only [go_sem]) (by simp only [go_sem]) (by simp only [go_sem]) ⟨rfl,by simp only [go_sem],λg g1 g2=>by simp only [go_sem,g1,g2,jV g1 800002300 (by omega)]⟩
 ·have h8b:(p3.1==0)=false:=by simp [gX]
  rw [if_neg gX] at hH;rw [fM _ _ hH];dsimp only;simp only [go_sem,h8b,uZ,mW,aB,bJ,aOO,jCv hr,jCb hr];exact jxg (by simp only [go_sem]) (by simp only [go_sem]) (by simp only [go_sem]) ⟨rfl,by simp only [go_sem],λg g1 g2=>by simp only [go_sem,g1,g2,jV g1 800002300 (by omega)]⟩
abbrev DdAV (d:Dd) (g:Nat) (e:jf):AV:=.agg [.v (.int .i64 d.aNK),.v (.int .i64 d.run),.v (.int .i64 d.aNB.aNI),.v (.int .i64 d.aNB.aNN),.v (.int .i64 d.aNB.aNM),.v (.int .i64 d.aNB.aNA),.h g 6 [] (e []),.v (.int .i64 d.aNH),.v (.int .i64 d.tri),.v (.int .i64 d.aNG),.v (.int .i64 d.aNJ)]
def je2:C:=iS [iA 3 (.box 27 4 (.t 1)),iA 4 wAT] (iS [aM 12 0,iA 13 (.call 60 [.t 12,oI 20]),aM 5 13] (.seq (.blk 0 (iS [aM 15 5,aQ 16 .lss 3 15 6,aM 14 16] (iD 14 (iS [aM 17 0,iA 18 (.call 60 [.t 17,oI 8]),aM 19 0,iA 20 (.call 60 [.t 19,oI 7]),iA 21 (wAX [(0,1,oI 2),(9,1,.t 18),(10,1,.t 20)]),wAE 4 21] .ret) (iS [aM 23 5,aQ 24 .lss 3 23 10,aM 22 24] (iD 22 (iS [aM 25 0,iA 26 (.call 60 [.t 25,oI 9]),iA 27 (.bin .add 3 (oI 1) (.t 26)),aM 28 0,iA 29 (iK 108 [28]),iA 30 (wAX [(0,1,oI 1),(1,1,.t 27),(2,5,.t 29)]),wAE 4 30] .ret) (iS [aM 32 5,aQ 33 .lss 3 32 15,aM 31 33] (iD 31 (iS [aM 35 0,aT 36 4 3,iA 37 (iK 184 [35,36]),aM 34 37,aE 38 34 0,aE 39 34 1,aE 40 34 2,aM 6 38,aM 7 39,aM 8 40] (iS [aM 41 6,aM 42 7,iA 43 (.call 134 [.t 42,oI 0,oI 99]),aM 44 8,iA 45 (.call 134 [.t 44,oI 0,oI 99]),iA 46 (wAX [(0,1,oI 3),(1,1,.t 41),(7,1,.t 43),(8,1,.t 45)]),wAE 4 46] .ret)) (iS [aM 48 5,aQ 49 .eql 3 48 15,aM 47 49] (iD 47 (iS [aM 51 0,aT 52 4 3,iA 53 (iK 184 [51,52]),aM 50 53,aE 54 50 0,aE 55 50 1,aE 56 50 2,aM 9 54,aM 10 55,aM 11 56] (iS [aM 57 9,aM 58 10,iA 59 (.call 134 [.t 58,oI 0,oI 99]),aM 60 11,iA 61 (.call 134 [.t 60,oI 0,oI 99]),iA 62 (wAX [(0,1,oI 4),(1,1,.t 57),(7,1,.t 59),(8,1,.t 61)]),wAE 4 62] .ret)) (iS [aM 64 5,aQ 65 .eql 3 64 16,aM 63 65] (iD 63 (iS [iA 66 (wAX [(0,1,oI 5)]),wAE 4 66] .ret) (iS [aM 68 5,aQ 69 .eql 3 68 17,aM 67 69] (iD 67 (iS [aM 70 0,iA 71 (.call 60 [.t 70,oI 9]),iA 72 (.bin .add 3 (oI 1) (.t 71)),iA 73 (wAX [(0,1,oI 6),(1,1,.t 72)]),wAE 4 73] .ret) (iS [aM 75 5,aQ 76 .eql 3 75 18,aM 74 76] (iD 74 (iS [aM 77 0,iA 78 (.call 60 [.t 77,oI 9]),iA 79 (.bin .add 3 (oI 1) (.t 78)),iA 80 (wAX [(0,1,oI 7),(1,1,.t 79)]),wAE 4 80] .ret) .skip))))))))))))))) (.seq (iS [aM 81 0,iA 82 (.call 160 [.t 81,oI 3])] (iD 82 (iS [iA 83 (wAX [(0,1,oI 8)]),wAE 4 83] .ret) .skip)) (iS [iA 84 (wAX [(0,1,oI 5)]),wAE 4 84] .ret))))
theorem jio:fnC Tryz.prog Tryz.f142=some (je2,[.cell 4 true 11],85):=by kernel_rfl
theorem jAT (c:List UInt8) (hc:c.length<=1048576) (y:Yd) (hy:YdI y) (s:Cu) (b:Nat) (o:Nat->Ob) (f2 f3:jf) (hs:s.1<=c.length) (ho:o 89=qm b 146 c s) (pE:o 86=.none) (tJ:o 94=.loose (ki y.aNC) f2) (mW:o 95=.loose (jE y.aNE) f3):
 Inl Tryz.prog 142 [Bx 89 b,YdHs y (f2 []) (f3 [])] o λav o2=>∃(e:jf) (b4:Nat),av=DdAV (qK c y s).1 700000400 e/\o2 700000400=DdR b4 60 (qK c y s).1 e/\o2 89=qm b 146 c (qK c y s).2/\∀g,g<700000000->g≠86->g≠89->o2 g=o g:=by
 refine jlf (β:=7000000) [[1,1,0,0,1,0,1],[1,1,0,0,1,1,1,0,1],[1,1,0,0,1,1,1,1,1,0,1,1],[1,1,0,0,1,1,1,1,1,1,1,0,1,1],[1,1,0,0,1,1,1,1,1,1,1,1,1,0,1],[1,1,0,0,1,1,1,1,1,1,1,1,1,1,1,0,1],[1,1,0,0,1,1,1,1,1,1,1,1,1,1,1,1,1,0,1],[1,1,1,0,1,0,1],[1,1,1,1,1]] Tryz.func142 jio (by simp) ?_
 unfold je2;simp only [C.ghs,C.ghAt,List.foldr];simp only [go_sem];intro b3 b4;refine jv (kp c hc 20 s b _ hs (by simp only [go_sem,ho])) (by simp only [go_sem]) ?_
 have s1:=jj (n:=20) hs;have x1:=jO c (n:=20) s (by omega)
 generalize gC:jh c 20 s=q1 at*;by_cases c1:q1.1<6
 ·simp only [go_sem,c1]
  refine jv (kp c hc 8 q1.2 b _ s1 (by simp only [go_sem])) (by simp only [go_sem]) ?_
  have s2:=jj (n:=8) s1;have x2:=jO c (n:=8) q1.2 (by omega)
  generalize gO:jh c 8 q1.2=q2 at*;simp only [go_sem];refine jv (kp c hc 7 q2.2 b _ s2 (by simp only [go_sem])) (by simp only [go_sem]) ?_
  have s3:=jj (n:=7) s2;have x3:=jO c (n:=7) q2.2 (by omega)
  generalize sN:jh c 7 q2.2=q3 at*;have hd:qK c y s=(⟨2,0,plZ,0,0,q2.1,q3.1⟩,q3.2):=by simp only [qK,gC,if_pos c1,gO,sN]
  rw [hd];simp only [go_sem];refine kv ?_;refine WkK.wk (s':=St.ofB [(4,Bx 700000400 b4)] [(700000400,DdR b4 60 ⟨2,0,plZ,0,0,q2.1,q3.1⟩ jbL)] 700000000 (λj=>if j=89 then qm b 146 c q3.2 else o j)) (kM [some 700000400] (by simp only [go_sem]<;>trivial) (λj hj=>by by_cases e89:j=89<;>simp only [go_sem,e89,jV hj 700000400 (by omega),jV hj 700000300 (by omega)]) (by decide)) ?_
  refine WkK.of ?_;simp only [go_sem];exact ⟨jbL,b4,rfl,rfl,λg g1 g2 g3=>by simp only [g1,g3,jV g1 700000400 (by omega),if_true,if_false]⟩
 by_cases c2:q1.1<10
 ·simp only [go_sem,c1,c2]
  refine jv (kp c hc 9 q1.2 b _ s1 (by simp only [go_sem])) (by simp only [go_sem]) ?_
  have s2:=jj (n:=9) s1;have x2:=jO c (n:=9) q1.2 (by omega)
  generalize gO:jh c 9 q1.2=q2 at*;have w2:IntKind.i64.wrap (1+q2.1)=1+q2.1:=vF;simp only [go_sem,w2];refine kr (by simp only [go_sem]) (jx9 c hc q2.2 b _ s2 (by simp only [go_sem]) (by simp only [go_sem,pE])) λav o' ⟨e,gV,bL,o1,o2,hk⟩=>?_
  subst gV;have k4:=hk 700000400 (by decide) (by decide) (by decide)
  have kall:∀g,g<700000000->o' g=if g=89 then qm b 146 c (jcZ c q2.2).2 else if g=86 then .loose (js (jcZ c q2.2).1.aNF) e else o g:=λg hg=>by
   by_cases h1:g=89
   ·subst h1;rw [o2];rfl
   ·by_cases h2:g=86
    ·subst h2;rw [o1];rfl
    ·rw [hk g (by omega) h2 h1,if_neg h1,if_neg h2]
     simp only [go_sem,h1,jV hg 700000300 (by omega),jV hg 700000400 (by omega)]
  simp only [go_sem] at k4;have hd:qK c y s=(⟨1,1+q2.1,(jcZ c q2.2).1,0,0,0,0⟩,(jcZ c q2.2).2):=by simp only [qK,gC,if_neg c1,if_pos c2,gO]
  rw [hd];generalize jcZ c q2.2=p at*;simp only [go_sem,k4,bL];refine kv ?_;refine WkK.wk (s':=St.ofB [(4,Bx 700000400 b4)] [(700000400,.box b4 60 [.a (.v (.int .i64 1)),.a (.v (.int .i64 (1+q2.1))),.a (.v (.int .i64 p.1.aNI)),.a (.v (.int .i64 p.1.aNN)),.a (.v (.int .i64 p.1.aNM)),.a (.v (.int .i64 p.1.aNA)),.a (.v (e [])),.a (.v (.int .i64 0)),.a (.v (.int .i64 0)),.a (.v (.int .i64 0)),.a (.v (.int .i64 0))])] 700000000 (λj=>if j=89 then qm b 146 c p.2 else if j=86 then .loose (js p.1.aNF) e else o j)) (kM [some 700000400] (by simp only [go_sem]<;>trivial) (λj hj=>by by_cases e89:j=89<;>by_cases e86:j=86<;>simp only [go_sem,e89,e86,hj,jV hj 700000400 (by omega),kall]) (by decide)) ?_
  refine qI 700000400 6 86 (d:=js p.1.aNF) (η:=e) rfl rfl rfl ?_;refine WkK.of ?_;simp only [go_sem];exact ⟨e,b4,rfl,rfl,λg g1 g2 g3=>by simp only [g1,g2,g3,jV g1 700000400 (by omega),if_true,if_false]⟩
 by_cases c3:q1.1<15
 ·simp only [go_sem,c1,c2,c3]
  refine kr (by simp only [go_sem]) (jtF c hc y hy q1.2 b _ f2 f3 s1 (by simp only [go_sem]) (by simp only [go_sem,tJ]) (by simp only [go_sem,mW])) λav o' ⟨gV,o2,hk⟩=>?_
  subst gV;have k4:=hk 700000400 (by decide) (by decide)
  have kall:∀g,g<700000000->o' g=if g=89 then qm b 146 c (qD c y q1.2).2 else o g:=λg hg=>by
   by_cases h1:g=89
   ·subst h1;rw [o2];rfl
   ·rw [hk g (by omega) h1,if_neg h1]
    simp only [go_sem,h1,jV hg 700000300 (by omega),jV hg 700000400 (by omega)]
  simp only [go_sem] at k4;simp only [go_sem];refine jm (vJ (qD c y q1.2).1.2.1 0 99) λη=>?_
  simp only [go_sem];refine jm (vJ (qD c y q1.2).1.2.2 0 99) λη=>?_
  simp only [go_sem];have hd:qK c y s=(⟨3,(qD c y q1.2).1.1,plZ,brI (qD c y q1.2).1.2.1 0 99,brI (qD c y q1.2).1.2.2 0 99,0,0⟩,(qD c y q1.2).2):=by simp only [qK,gC,if_neg c1,if_neg c2,if_pos c3]
  rw [hd];simp only [go_sem,k4];refine kv ?_;refine WkK.wk (s':=St.ofB [(4,Bx 700000400 b4)] [(700000400,DdR b4 60 ⟨3,(qD c y q1.2).1.1,plZ,brI (qD c y q1.2).1.2.1 0 99,brI (qD c y q1.2).1.2.2 0 99,0,0⟩ jbL)] 700000000 (λj=>if j=89 then qm b 146 c (qD c y q1.2).2 else o j)) (kM [some 700000400] (by simp only [go_sem]<;>trivial) (λj hj=>by by_cases e89:j=89<;>simp only [go_sem,e89,hj,jV hj 700000400 (by omega),kall]) (by decide)) ?_
  refine WkK.of ?_;simp only [go_sem];exact ⟨jbL,b4,rfl,rfl,λg g1 g2 g3=>by simp only [g1,g3,jV g1 700000400 (by omega),if_true,if_false]⟩
 by_cases c4:q1.1=15
 ·have b4':(q1.1==15)=true:=by simp [c4]
  simp only [go_sem,c1,c2,c3,b4'];refine kr (by simp only [go_sem]) (jtF c hc y hy q1.2 b _ f2 f3 s1 (by simp only [go_sem]) (by simp only [go_sem,tJ]) (by simp only [go_sem,mW])) λav o' ⟨gV,o2,hk⟩=>?_
  subst gV;have k4:=hk 700000400 (by decide) (by decide)
  have kall:∀g,g<700000000->o' g=if g=89 then qm b 146 c (qD c y q1.2).2 else o g:=λg hg=>by
   by_cases h1:g=89
   ·subst h1;rw [o2];rfl
   ·rw [hk g (by omega) h1,if_neg h1]
    simp only [go_sem,h1,jV hg 700000300 (by omega),jV hg 700000400 (by omega)]
  simp only [go_sem] at k4;simp only [go_sem];refine jm (vJ (qD c y q1.2).1.2.1 0 99) λη=>?_
  simp only [go_sem];refine jm (vJ (qD c y q1.2).1.2.2 0 99) λη=>?_
  simp only [go_sem];have hd:qK c y s=(⟨4,(qD c y q1.2).1.1,plZ,brI (qD c y q1.2).1.2.1 0 99,brI (qD c y q1.2).1.2.2 0 99,0,0⟩,(qD c y q1.2).2):=by simp only [qK,gC,if_neg c1,if_neg c2,if_neg c3,if_pos c4]
  rw [hd];simp only [go_sem,k4];refine kv ?_;refine WkK.wk (s':=St.ofB [(4,Bx 700000400 b4)] [(700000400,DdR b4 60 ⟨4,(qD c y q1.2).1.1,plZ,brI (qD c y q1.2).1.2.1 0 99,brI (qD c y q1.2).1.2.2 0 99,0,0⟩ jbL)] 700000000 (λj=>if j=89 then qm b 146 c (qD c y q1.2).2 else o j)) (kM [some 700000400] (by simp only [go_sem]<;>trivial) (λj hj=>by by_cases e89:j=89<;>simp only [go_sem,e89,hj,jV hj 700000400 (by omega),kall]) (by decide)) ?_
  refine WkK.of ?_;simp only [go_sem];exact ⟨jbL,b4,rfl,rfl,λg g1 g2 g3=>by simp only [g1,g3,jV g1 700000400 (by omega),if_true,if_false]⟩
 have b4':(q1.1==15)=false:=by simp [c4]
 by_cases c5:q1.1=16
 ·have b5':(q1.1==16)=true:=by simp [c5]
  have hd:qK c y s=(⟨5,0,plZ,0,0,0,0⟩,q1.2):=by simp only [qK,gC,if_neg c1,if_neg c2,if_neg c3,if_neg c4,if_pos c5]
  rw [hd];simp only [go_sem,c1,c2,c3,b4',b5'];refine kv ?_;refine WkK.wk (s':=St.ofB [(4,Bx 700000400 b4)] [(700000400,DdR b4 60 ⟨5,0,plZ,0,0,0,0⟩ jbL)] 700000000 (λj=>if j=89 then qm b 146 c q1.2 else o j)) (kM [some 700000400] (by simp only [go_sem]<;>trivial) (λj hj=>by by_cases e89:j=89<;>simp only [go_sem,e89,jV hj 700000400 (by omega),jV hj 700000300 (by omega)]) (by decide)) ?_
  refine WkK.of ?_;simp only [go_sem];exact ⟨jbL,b4,rfl,rfl,λg g1 g2 g3=>by simp only [g1,g3,jV g1 700000400 (by omega),if_true,if_false]⟩
 have b5':(q1.1==16)=false:=by simp [c5]
 by_cases c6:q1.1=17
 ·have b6':(q1.1==17)=true:=by simp [c6]
  simp only [go_sem,c1,c2,c3,b4',b5',b6'];refine jv (kp c hc 9 q1.2 b _ s1 (by simp only [go_sem])) (by simp only [go_sem]) ?_
  have s2:=jj (n:=9) s1;have x2:=jO c (n:=9) q1.2 (by omega)
  generalize gO:jh c 9 q1.2=q2 at*;have w2:IntKind.i64.wrap (1+q2.1)=1+q2.1:=vF;have hd:qK c y s=(⟨6,1+q2.1,plZ,0,0,0,0⟩,q2.2):=by simp only [qK,gC,if_neg c1,if_neg c2,if_neg c3,if_neg c4,if_neg c5,if_pos c6,gO]
  rw [hd];simp only [go_sem,w2];refine kv ?_;refine WkK.wk (s':=St.ofB [(4,Bx 700000400 b4)] [(700000400,DdR b4 60 ⟨6,1+q2.1,plZ,0,0,0,0⟩ jbL)] 700000000 (λj=>if j=89 then qm b 146 c q2.2 else o j)) (kM [some 700000400] (by simp only [go_sem]<;>trivial) (λj hj=>by by_cases e89:j=89<;>simp only [go_sem,e89,jV hj 700000400 (by omega),jV hj 700000300 (by omega)]) (by decide)) ?_
  refine WkK.of ?_;simp only [go_sem];exact ⟨jbL,b4,rfl,rfl,λg g1 g2 g3=>by simp only [g1,g3,jV g1 700000400 (by omega),if_true,if_false]⟩
 have b6':(q1.1==17)=false:=by simp [c6]
 by_cases c7:q1.1=18
 ·have b7':(q1.1==18)=true:=by simp [c7]
  simp only [go_sem,c1,c2,c3,b4',b5',b6',b7'];refine jv (kp c hc 9 q1.2 b _ s1 (by simp only [go_sem])) (by simp only [go_sem]) ?_
  have s2:=jj (n:=9) s1;have x2:=jO c (n:=9) q1.2 (by omega)
  generalize gO:jh c 9 q1.2=q2 at*;have w2:IntKind.i64.wrap (1+q2.1)=1+q2.1:=vF;have hd:qK c y s=(⟨7,1+q2.1,plZ,0,0,0,0⟩,q2.2):=by simp only [qK,gC,if_neg c1,if_neg c2,if_neg c3,if_neg c4,if_neg c5,if_neg c6,if_pos c7,gO]
  rw [hd];simp only [go_sem,w2];refine kv ?_;refine WkK.wk (s':=St.ofB [(4,Bx 700000400 b4)] [(700000400,DdR b4 60 ⟨7,1+q2.1,plZ,0,0,0,0⟩ jbL)] 700000000 (λj=>if j=89 then qm b 146 c q2.2 else o j)) (kM [some 700000400] (by simp only [go_sem]<;>trivial) (λj hj=>by by_cases e89:j=89<;>simp only [go_sem,e89,jV hj 700000400 (by omega),jV hj 700000300 (by omega)]) (by decide)) ?_
  refine WkK.of ?_;simp only [go_sem];exact ⟨jbL,b4,rfl,rfl,λg g1 g2 g3=>by simp only [g1,g3,jV g1 700000400 (by omega),if_true,if_false]⟩
 have b7':(q1.1==18)=false:=by simp [c7]
 simp only [go_sem,c1,c2,c3,b4',b5',b6',b7'];refine jv (jkp c hc 3 q1.2 b _ s1 (by simp only [go_sem])) (by simp only [go_sem]) ?_
 have s2:=jj (n:=3) s1;generalize gO:jh c 3 q1.2=q2 at*;by_cases c8:q2.1=0
 ·have b8':(q2.1==0)=true:=by simp [c8]
  have hd:qK c y s=(⟨8,0,plZ,0,0,0,0⟩,q2.2):=by simp only [qK,gC,if_neg c1,if_neg c2,if_neg c3,if_neg c4,if_neg c5,if_neg c6,if_neg c7,gO,if_pos c8]
  rw [hd];simp only [go_sem,b8'];refine kv ?_;refine WkK.wk (s':=St.ofB [(4,Bx 700000400 b4)] [(700000400,DdR b4 60 ⟨8,0,plZ,0,0,0,0⟩ jbL)] 700000000 (λj=>if j=89 then qm b 146 c q2.2 else o j)) (kM [some 700000400] (by simp only [go_sem]<;>trivial) (λj hj=>by by_cases e89:j=89<;>simp only [go_sem,e89,jV hj 700000400 (by omega),jV hj 700000300 (by omega)]) (by decide)) ?_
  refine WkK.of ?_;simp only [go_sem];exact ⟨jbL,b4,rfl,rfl,λg g1 g2 g3=>by simp only [g1,g3,jV g1 700000400 (by omega),if_true,if_false]⟩
 ·have b8':(q2.1==0)=false:=by simp [c8]
  have hd:qK c y s=(⟨5,0,plZ,0,0,0,0⟩,q2.2):=by simp only [qK,gC,if_neg c1,if_neg c2,if_neg c3,if_neg c4,if_neg c5,if_neg c6,if_neg c7,gO,if_neg c8]
  rw [hd];simp only [go_sem,b8'];refine kv ?_;refine WkK.wk (s':=St.ofB [(4,Bx 700000400 b4)] [(700000400,DdR b4 60 ⟨5,0,plZ,0,0,0,0⟩ jbL)] 700000000 (λj=>if j=89 then qm b 146 c q2.2 else o j)) (kM [some 700000400] (by simp only [go_sem]<;>trivial) (λj hj=>by by_cases e89:j=89<;>simp only [go_sem,e89,jV hj 700000400 (by omega),jV hj 700000300 (by omega)]) (by decide)) ?_
  refine WkK.of ?_;simp only [go_sem];exact ⟨jbL,b4,rfl,rfl,λg g1 g2 g3=>by simp only [g1,g3,jV g1 700000400 (by omega),if_true,if_false]⟩
