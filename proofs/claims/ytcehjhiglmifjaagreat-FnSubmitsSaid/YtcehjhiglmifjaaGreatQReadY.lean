/- Parts. -/
import Derived.Test.YtcehjhiglmifjaaGreatQKeepB
set_option linter.all false
set_option maxHeartbeats 16000000
set_option maxRecDepth 100000
namespace Go.Proofs.YtcehjhiglmifjaaGreat
open Go.RowKit Go.Sort
theorem qE {L:List Int} {s:Nat×Bool} (h:s.1<=L.length):(jai L s).2.1<=L.length:=by
 unfold jai;split
 ·rename_i v hv;have:=(aOS.1 hv).1;dsimp only;omega
 ·exact h
theorem jrC {L:List Int} {s:Nat×Bool} (h:∀n∈L,jds n):jds (jai L s).1:=by
 unfold jai;split
 ·rename_i v hv;exact h v (aOT hv)
 ·exact ⟨Int.le_refl _,by show (0:Int)<=_;omega⟩
structure RowsAt {σ α:Type} (bd:σ->Bool) (rd:σ->α×σ) (m:Nat) (s0:σ) (i:Nat) (E:List α) (s:σ):Prop where
 le:i<=m
 len:E.length=i
 eq:vt bd rd m ([],s0)=vt bd rd (m-i) (E,s)
theorem RowsAt.start {σ α:Type} {bd:σ->Bool} {rd:σ->α×σ} (m:Nat) (s0:σ):RowsAt bd rd m s0 0 [] s0:=⟨aPP _,rfl,rfl⟩
theorem RowsAt.next {σ α:Type} {bd:σ->Bool} {rd:σ->α×σ} {m i:Nat} {s0 s:σ} {E:List α} (h:RowsAt bd rd m s0 i E s) (hi:i<m) (hb:bd s=false):RowsAt bd rd m s0 (i+1) (E++[(rd s).1]) (rd s).2:=by
 refine ⟨hi,by simp [h.len],?_⟩
 rw [h.eq,show m-i=m-(i+1)+1 by omega,vt,if_neg (by rw [hb];decide)]
theorem RowsAt.stop {σ α:Type} {bd:σ->Bool} {rd:σ->α×σ} {m i:Nat} {s0 s:σ} {E:List α} (h:RowsAt bd rd m s0 i E s) (hs:i=m\/bd s=true):vt bd rd m ([],s0)=(E,s):=by
 rw [h.eq];rcases hs with rfl|hb
 ·rw [aSK];rfl
 ·exact jgk hb _
abbrev jyt (b ty:Nat) (p m w t:Int) (E:List Ed) (η:jg):Ob:=.box b ty [.a (.v (.int .i64 p)),.a (.v (.int .i64 m)),.a (.v (.int .i64 w)),.a (.v (.int .i64 t)),.own (jn E) η]
abbrev ZPl (b ty:Nat):Ob:=.box b ty [.a (.v (.int .i64 0)),.a (.v (.int .i64 0)),.a (.v (.int .i64 0)),.a (.v (.int .i64 0)),.a (.v (.slice none 0 0))]
theorem jBi (l:List Ed) (a b:Int):D.sl 2 tEd (l.flatMap kb++[.val (.int .i64 a),.val (.int .i64 b)])=jn (l++[⟨a,b⟩]):=jnu l ⟨a,b⟩
def jaC:C:=iS [iA 2 wAR] (iS [aM 6 0,iA 7 (iK 103 [6]),aM 8 0,iA 9 (iK 103 [8]),aM 10 0,iA 11 (iK 103 [10]),aM 12 0,iA 13 (iK 103 [12]),iA 14 (wAX [(0,1,.t 7),(1,1,.t 9),(2,1,.t 11),(3,1,.t 13)]),iA 3 wAR,wAF 3 14] (iS [aM 15 0,iA 16 (iK 103 [15]),aM 4 16] (.seq (iS [aN 5 0] (.blk 0 (.loop (.seq (iS [aM 17 5,aM 18 4,aP 19 .lss 3 17 18,aM 20 19,iB 21 20 true (iM 0),iB 22 20 true (iF 0 21),iB 23 20 true (iF 1 22),iB 24 20 true (iL 23),iB 25 20 true (iU 24),iA 26 (iY 20 (.t 25) (oF))] (iD 26 .skip (.exit 0))) (.seq (.blk 1 (.dreg (tA 0 29 (iF 4 3) (tA 1 30 (iL 29) (tA 2 31 (iM 0) (tA 4 33 (iM 0) (tC 32 (iK 103 [31]) [4,1,0] (tC 34 (iK 103 [33]) [1,0] (tA 6 35 (.bld [.int .i64 0,.int .i64 0] [(0,1,.t 32),(1,1,.t 34)]) (tC 36 (.bsl 161 2 1 [none,none] [(0,2,.t 35)]) [1,0] (tC 37 (.app 161 2 16 (.t 30) (.t 36)) [] (tA 9 38 (iF 4 3) (.alt (wAK 38 37) [] .done .stop)) .stop) .stop)) .stop) .stop))))))) (.reg [aM 27 5,aQ 28 .add 3 27 1,aM 5 28])))))) (iS [aT 39 5 3,wAF 2 39] .ret))))
theorem jcq:fnC Tryz.prog Tryz.f104=some (jaC,[.cell 2 true 5],40):=by kernel_rfl
theorem jzQ (L:List Int) (cJ:∀n∈L,jds n) (pQ:L.length<=1000000000) (s:Nat×Bool) (b:Nat) (η:jg) (o:Nat->Ob) (hs:s.1<=L.length) (ho:o 88=vm b 128 η L s) (hL:o 87=.loose (jc L) η) (pX:o 86=.none):
 Inl Tryz.prog 104 [Bx 88 b] o λav o2=>∃(p:Pl) (s':Nat×Bool) (e:jg),rdPl none (jai L) (·.2) (λs=>(s.1,true)) s=(p,s')/\s'.1<=L.length/\
  av=.agg [.v (.int .i64 p.aOL),.v (.int .i64 p.aOQ),.v (.int .i64 p.aOP),.v (.int .i64 p.aOD),.v (e [])]/\(e []).oneCell'=true/\o2 86=.loose (jn p.aOI) e/\o2 88=vm b 128 η L s'/\∀g,g<900000000->g≠86->g≠88->o2 g=o g:=by
 refine jle (β:=9000000) [[1,1,1,1,0]] Tryz.func104 jcq (by simp) ?_
 unfold jaC;simp only [C.ghs,C.ghAt,List.foldr];simp only [go_sem];intro b2;refine jv (kM L s b η _ hs (by simp only [go_sem,ho]) (by simp only [go_sem,hL])) (by simp only [go_sem]) ?_
 have s1:=qE hs;generalize gK:jai L s=q1 at*;simp only [go_sem];refine jv (kM L q1.2 b η _ s1 (by simp only [go_sem]) (by simp only [go_sem,hL])) (by simp only [go_sem]) ?_
 have s2:=qE s1;generalize gS:jai L q1.2=q2 at*;simp only [go_sem];refine jv (kM L q2.2 b η _ s2 (by simp only [go_sem]) (by simp only [go_sem,hL])) (by simp only [go_sem]) ?_
 have s3:=qE s2;generalize s7:jai L q2.2=q3 at*;simp only [go_sem];refine jv (kM L q3.2 b η _ s3 (by simp only [go_sem]) (by simp only [go_sem,hL])) (by simp only [go_sem]) ?_
 have s4:=qE s3;generalize wM:jai L q3.2=q4 at*;simp only [go_sem];intro b3;refine jv (kM L q4.2 b η _ s4 (by simp only [go_sem]) (by simp only [go_sem,hL])) (by simp only [go_sem]) ?_
 have s5:=qE s4;have hm:=jrC (s:=q4.2) cJ;generalize xP:jai L q4.2=q5 at*;simp only [go_sem];obtain ⟨m,o0⟩:=Int.eq_ofNat_of_zero_le hm.1;have dU:=hm.2;rw [o0] at dU;have fY:q5.1=(m:Int):=o0;rw [fY];refine kh (λi:(Nat×List Ed×(Nat×Bool))×jg=>St.ofB [(0,Bx 88 b),(2,Bx 900000200 b2),(3,Bx 900000300 b3),(4,Ni m),(5,Ni i.1.1)] [(900000200,ZPl b2 49),(900000300,jyt b3 49 q1.1 q2.1 q3.1 q4.1 i.1.2.1 i.2)] 900000000 (λj=>if j=88 then vm b 128 η L i.1.2.2 else o j)) (λi=>RowsAt (·.2) (jsN (jai L)) m q5.2 i.1.1 i.1.2.1 i.1.2.2/\i.1.2.2.1<=L.length) (λi=>m-i.1.1) ((0,[],q5.2),jcb) (⟨RowsAt.start _ _,s5⟩) (kO [some 900000200,some 900000300] (by simp only [go_sem]<;>trivial) (λj hj=>by by_cases e88:j=88<;>simp only [go_sem,e88,jV hj 900000200 (by omega),jV hj 900000300 (by omega)]) (by decide)) ?_
 rintro ⟨⟨i,E,q⟩,e0⟩ ⟨hR,hq⟩;dsimp only at hR hq;have cR:=hR.le;have aC:=hR.len;by_cases aB:i<m;rotate_left
 ·have aA:¬(i:Int)<(m:Int):=by omega
  have aJ:=hR.stop (.inl (by omega))
  have hrd:rdPl none (jai L) (·.2) (λs=>(s.1,true)) s=(⟨q1.1,q2.1,q3.1,q4.1,E⟩,q):=by
   simp only [rdPl,gK,gS,s7,wM,xP,jhW,fY,aPB,aJ]
  simp only [go_sem,aA];refine ky ?_;refine qD 900000300 4 86 (d:=jn E) (η:=e0) (by simp only [go_sem]) (by simp only [go_sem,pX]) (by decide) λhx=>?_
  refine WkK.of ?_;simp only [go_sem,hx];exact ⟨_,_,e0,hrd,hq,rfl,hx,rfl,rfl,λg g1 g2 g3=>by simp only [g2,g3,g1,jV g1 900000200 (by omega),jV g1 900000300 (by omega),if_true,if_false]⟩
 have aA:(i:Int)<(m:Int):=by omega
 obtain ⟨k,bad⟩:=q;cases bad;rotate_left
 ·have aJ:=hR.stop (.inr rfl)
  have hrd:rdPl none (jai L) (·.2) (λs=>(s.1,true)) s=(⟨q1.1,q2.1,q3.1,q4.1,E⟩,(k,true)):=by
   simp only [rdPl,gK,gS,s7,wM,xP,jhW,fY,aPB,aJ]
  simp only [go_sem,aA,vm,Bool.not_true];refine ky ?_;refine qD 900000300 4 86 (d:=jn E) (η:=e0) (by simp only [go_sem]) (by simp only [go_sem,pX]) (by decide) λhx=>?_
  refine WkK.of ?_;simp only [go_sem,hx];exact ⟨_,_,e0,hrd,hq,rfl,hx,rfl,rfl,λg g1 g2 g3=>by simp only [g2,g3,g1,jV g1 900000200 (by omega),jV g1 900000300 (by omega),if_true,if_false]⟩
 ·have cE:=hR.next aB rfl
  simp only [go_sem,aA,vm,Bool.not_false];refine jv (kM L (k,false) b η _ hq (by simp only [go_sem,vm]) (by simp only [go_sem,hL])) (by simp only [go_sem]) ?_
  have t1:=qE hq;simp only [jsN] at cE;generalize cK:jai L (k,false)=r1 at*;simp only [go_sem];refine jv (kM L r1.2 b η _ t1 (by simp only [go_sem]) (by simp only [go_sem,hL])) (by simp only [go_sem]) ?_
  have t2:=qE t1;generalize bZ:jai L r1.2=r2 at*;have hw:=kw i;simp only [go_sem];intro e1;refine ⟨by unfold maxLen;omega,by omega,λe2=>?_⟩
  exact ⟨((i+1,E++[⟨r1.1,r2.1⟩],r2.2),e2),⟨cE,t2⟩,(kO [some 900000200,some 900000300] (by simp only [go_sem,jBi,hw,vm]<;>trivial) (λj hj=>by by_cases e88:j=88<;>simp only [go_sem,e88,hj,jV hj 900000300 (by omega),jV hj 900003600 (by omega),jV hj 900003700 (by omega),jBi,hw,vm]) (by decide)),by (try dsimp only);omega⟩
theorem jnf {l:List UInt8} {k:Nat} {u:UInt8} (h:l[k]?=some u):(zE l).elem k=[D.val (.int .u8 (u.toNat:Int))]:=by
 have h1:=(aOS.1 h).1;simp only [D.elem,D.cells,D.size,aPK,<-List.map_drop];rw [aQT h1,(aOS.1 h).2];rfl
def qo (b ty:Nat) (c:List UInt8) (s:Cu):Ob:=.box b ty [.a (.ro (zE c)),.a (.v (.int .i64 (s.1:Int))),.a (.v (.int .i64 s.2))]
def jho:C:=iS [iA 2 (.mov (.c (.pointer none)))] (iS [aM 5 0,aG 6 5,iA 7 (.bin .add 3 (oI 94701) (.t 6)),aM 3 7] (.seq (iS [aN 4 0] (.blk 0 (.loop (.seq (iS [aM 8 4,aM 9 0,aG 10 9,aP 11 .lss 3 8 10,aM 12 11,iB 13 12 true (iM 4),iB 14 12 true (iQ .lss 3 13 4000),iA 15 (iY 12 (.t 14) (oF))] (iD 15 .skip (.exit 0))) (.seq (.blk 1 (.reg [aM 18 3,aQ 19 .mul 3 18 131,aM 20 0,aM 21 4,aI 22 1 20 21,aL 23 22,iA 24 (.cv (.num .i64) 0 (.t 23)),aP 25 .add 3 19 24,aQ 26 .add 3 25 7,aQ 27 .and 3 26 1073741823,aM 3 27])) (.reg [aM 16 4,aQ 17 .add 3 16 1,aM 4 17])))))) (iS [aM 28 0,aM 29 3,iA 30 (.bld [.slice none 0 0,.int .i64 0,.int .i64 0] [(0,1,.t 28),(2,1,.t 29)]),iA 31 (.box 146 3 (.t 30)),aM 2 31] .ret)))
theorem jjD:fnC Tryz.prog Tryz.f58=some (jho,[.t 2],32):=by kernel_rfl
def jfc:C:=iS [aN 2 0] (iS [aM 4 0,aM 5 0,aF 6 0 5,aF 7 2 6,aL 8 7,aQ 9 .mul 3 8 6364136223846793005,aQ 10 .add 3 9 1442695040888963407,aF 11 0 4,aF 12 2 11,wAD 12 10] (.seq (.dreg (tA 0 13 (iM 0) (tA 1 14 (iF 0 13) (tA 2 15 (iF 2 14) (tA 3 16 (iL 15) (tA 4 17 (.bin .shr 3 (.t 16) (.c (.int .u64 33))) (tA 5 18 (iM 0) (tA 6 19 (iF 0 18) (tA 7 20 (iF 2 19) (tA 8 21 (iL 20) (tA 9 22 (.bin .shr 3 (.t 21) (.c (.int .u64 45))) (tA 10 23 (iP .xor 3 17 22) (tA 11 24 (iQ .and 3 23 255) (tA 12 3 (iM 24) .done)))))))))))))) (.seq (.seq (.dreg (tA 0 25 (iM 0) (tA 1 26 (iF 0 25) (tA 2 27 (iF 1 26) (tA 3 28 (iL 27) (tA 4 29 (iM 0) (tA 5 30 (iF 0 29) (tA 6 31 (iF 0 30) (tA 7 32 (iL 31) (tA 8 33 (iG 32) (tA 9 34 (iP .lss 3 28 33) .done))))))))))) (iD 34 (.seq (.dreg (tA 0 35 (iM 3) (tA 1 36 (iM 0) (tA 2 37 (iF 0 36) (tA 3 38 (iF 0 37) (tA 4 39 (iL 38) (tA 5 40 (iM 0) (tA 6 41 (iF 0 40) (tA 7 42 (iF 1 41) (tA 8 43 (iL 42) (tA 9 44 (iI 1 39 43) (tA 10 45 (iL 44) (tA 11 46 (.cv (.num .i64) 0 (.t 45)) (tA 12 47 (iP .add 3 35 46) (tA 13 48 (iQ .and 3 47 255) (tA 14 3 (iM 48) .done)))))))))))))))) (.reg [aM 49 0,aM 50 0,aF 51 0 50,aF 52 1 51,aL 53 52,aQ 54 .add 3 53 1,aF 55 0 49,aF 56 1 55,wAD 56 54])) .skip)) (iS [aM 57 3,aM 2 57] .ret))))
theorem jiB:fnC Tryz.prog Tryz.f59=some (jfc,[.t 2],58):=by kernel_rfl
def jdH:C:=iS [aN 4 0] (.seq (iS [aM 9 1,aQ 10 .leq 3 9 0] (iD 10 (iS [aN 4 0] .ret) .skip)) (.seq (iS [aM 11 1,aQ 12 .leq 3 11 256] (iD 12 (iS [aM 13 0,iA 14 (iK 59 [13]),aM 15 1,aP 16 .rem 3 14 15,aM 4 16] .ret) .skip)) (iS [aM 17 0,iA 18 (iK 59 [17]),aM 5 18] (iS [aM 19 0,iA 20 (iK 59 [19]),aM 6 20] (iS [aM 21 0,iA 22 (iK 59 [21]),aM 7 22] (iS [aM 23 0,iA 24 (iK 59 [23]),aM 8 24] (iS [aM 25 5,aQ 26 .mul 3 25 16777216,aM 27 6,aQ 28 .mul 3 27 65536,aP 29 .add 3 26 28,aM 30 7,aQ 31 .mul 3 30 256,aP 32 .add 3 29 31,aM 33 8,aP 34 .add 3 32 33,aM 35 1,aP 36 .rem 3 34 35,aM 4 36] .ret)))))))
theorem jgY:fnC Tryz.prog Tryz.f60=some (jdH,[.t 4],37):=by kernel_rfl
def jfb:C:=iS [aO 4 false] (iS [aM 5 0,aM 6 1,iA 7 (iK 60 [5,6]),aQ 8 .eql 3 7 0,aM 4 8] .ret)
theorem jiA:fnC Tryz.prog Tryz.f160=some (jfb,[.t 4],9):=by kernel_rfl
def je6:C:=iS [iA 2 wAR] (iS [aM 9 0,iA 10 (.call 60 [.t 9,oI 4]),aM 11 0,iA 12 (.call 60 [.t 11,oI 3]),iA 13 (.bin .add 3 (oI 1) (.t 12)),aM 14 0,iA 15 (.call 60 [.t 14,oI 4]),iA 16 (.bin .add 3 (oI 1) (.t 15)),aM 17 0,iA 18 (.call 60 [.t 17,oI 6]),iA 19 (.bin .add 3 (oI 1) (.t 18)),iA 20 (wAX [(0,1,.t 10),(1,1,.t 13),(2,1,.t 16),(3,1,.t 19)]),iA 3 wAR,wAF 3 20] (.seq (iS [aM 21 0,iA 22 (.call 160 [.t 21,oI 10])] (iD 22 (.reg [aF 23 3 3,iC (.st 1 [none] (.t 23) (oI 12))]) .skip)) (.seq (iS [aN 4 0] (.blk 0 (.loop (.seq (iS [aM 24 4,aM 25 0,iA 26 (.call 60 [.t 25,oI 9]),aP 27 .lss 3 24 26,aM 28 27,iB 29 28 true (iF 3 3),iB 30 28 true (iL 29),iB 31 28 true (iQ .gtr 3 30 1),iA 32 (iY 28 (.t 31) (oF))] (iD 32 .skip (.exit 0))) (.seq (.blk 1 (iS [aM 35 0,aF 36 3 3,aL 37 36,aQ 38 .sub 3 37 1,iA 39 (iK 60 [35,38]),iA 40 (.bin .add 3 (oI 1) (.t 39)),aM 5 40] (iS [aM 41 0,aM 42 5,iA 43 (iK 60 [41,42]),aM 44 5,iA 45 (.bld [.int .i64 0,.int .i64 0] [(0,1,.t 43),(1,1,.t 44)]),iA 6 wAQ,wAH 6 45] (iS [aO 7 false] (.seq (iS [aN 8 0] (.blk 2 (.loop (.seq (iS [aM 46 8,aF 47 4 3,aL 48 47,aG 49 48,aP 50 .lss 3 46 49] (iD 50 .skip (.exit 2))) (.seq (.blk 3 (.dreg (tA 0 53 (iM 7) (tA 1 54 (iM 53) (tB 2 55 54 false (iF 4 3) (tB 3 56 54 false (iL 55) (tB 4 57 54 false (iM 8) (tB 5 58 54 false (iI 2 56 57) (tB 6 59 54 false (iT 2 58) (tB 7 60 54 false (iT 2 6) (tB 8 61 54 false (iP .eql 161 59 60) (tA 9 62 (iY 54 (oT) (.t 61)) (tA 10 7 (iM 62) .done))))))))))))) (.reg [aM 51 8,aQ 52 .add 3 51 1,aM 8 52])))))) (iS [aM 63 7,aU 64 63] (iD 64 (.reg [aF 65 4 3,aL 66 65,aT 67 2 6,iA 68 (.bsl 161 2 1 [none,none] [(0,2,.t 67)]),iA 69 (.app 161 2 16 (.t 66) (.t 68)),aF 70 4 3,wAK 70 69]) .skip))))))) (.reg [aM 33 4,aQ 34 .add 3 33 1,aM 4 34])))))) (iS [aT 71 5 3,wAF 2 71] .ret))))
theorem jiv:fnC Tryz.prog Tryz.f108=some (je6,[.cell 2 true 5],72):=by kernel_rfl
theorem jep (c:List UInt8) (hc:c.length<=1048576) (s:Cu) (b:Nat) (o:Nat->Ob) (hs:s.1<=c.length) (ho:o 89=qo b 146 c s):
 jDF Tryz.prog 59 [Bx 89 b] o (Ni (kH c s).1) (jDA o 89 (qo b 146 c (kH c s).2)):=by
 obtain ⟨k,h⟩:=s;dsimp only at hs;refine joq ?_;refine qm (β:=8000000) Tryz.func59 jiB (by simp) ?_
 unfold jfc;unfold qo at ho;have hH:IntKind.i64.wrap (IntKind.i64.wrap (h*6364136223846793005)+1442695040888963407)=jqu h:=rfl;by_cases aB:k<c.length
 ·have aA:(k:Int)<(c.length:Int):=by omega
  obtain ⟨u,hu⟩:=ja aB;have hw:=kw k;have hr:kH c (k,h)=(jtO (jBm (jqu h)+(u.toNat:Int)) 255,(k+1,jqu h)):=by simp only [kH,hu]
  have hx:=joT (jvo ((jqu h).fdiv (2^33)) ((jqu h).fdiv (2^45)));rw [<-show jBm (jqu h)=jtO (jvo ((jqu h).fdiv (2^33)) ((jqu h).fdiv (2^45))) 255 from rfl] at hx
  have oO:=UInt8.toNat_lt u;have hwx:IntKind.i64.wrap (jBm (jqu h)+(u.toNat:Int))=jBm (jqu h)+(u.toNat:Int):=zm;simp only [go_sem,ho,hH,aA,aB,hw,jnf hu,jxQ,ja1];rw [hr];refine ⟨?_,jak (by simp only [go_sem,qo]) λg g2=>?_⟩
  ·have e:∀x y:Int,AV.c (A0.v (Value.int .i64 (jtO (IntKind.i64.wrap (jtO (jvo x y) 255+(u.toNat:Int))) 255)))=AV.c (A0.v (Value.int .i64 (IntKind.i64.wrap ((BitVec.ofInt 64 (IntKind.i64.wrap (IntKind.i64.wrap ((BitVec.ofInt 64 (IntKind.i64.wrap ((BitVec.ofInt 64 x^^^BitVec.ofInt 64 y).toNat))&&&BitVec.ofInt 64 255).toNat)+(u.toNat:Int)))&&&BitVec.ofInt 64 255).toNat)))):=λ_ _=>rfl
   refine (e _ _).symm.trans ?_;show AV.c (A0.v (Value.int .i64 (jtO (IntKind.i64.wrap (jBm (jqu h)+(u.toNat:Int))) 255)))=_;rw [hwx]
  ·simp only [go_sem,eq_false g2]
 ·have aA:¬(k:Int)<(c.length:Int):=by omega
  have hr:kH c (k,h)=(jBm (jqu h),(k,jqu h)):=by simp only [kH,aQQ (by omega:c.length<=k)]
  simp only [go_sem,ho,hH,aA,ja1];rw [hr];refine ⟨rfl,jak (by simp only [go_sem,qo]) λg g2=>?_⟩
  simp only [go_sem,eq_false g2]
theorem kq (c:List UInt8) (hc:c.length<=1048576) (n:Int) (s:Cu) (b:Nat) (o:Nat->Ob) (hs:s.1<=c.length) (ho:o 89=qo b 146 c s):
 jDF Tryz.prog 60 [Bx 89 b,Ni n] o (Ni (jh c n s).1) (jDA o 89 (qo b 146 c (jh c n s).2)):=by
 refine joq ?_;refine qm (β:=9000000) Tryz.func60 jgY (by simp) ?_
 unfold jdH;by_cases h0:n<=0
 ·have hr:jh c n s=(0,s):=by rw [jh,if_pos h0]
  rw [hr];simp only [go_sem,h0];exact jak (by simp only [go_sem,ho]) λg g2=>by simp only [go_sem]
 have nC:n≠0:=by omega
 by_cases h1:n<=256
 ·have hr:jh c n s=((kH c s).1.tmod n,(kH c s).2):=by rw [jh,if_neg h0,if_pos h1]
  rw [hr];simp only [go_sem,h0,h1];refine jv (jep c hc s b _ hs (by simp only [go_sem,ho])) (by simp only [go_sem]) ?_
  simp only [go_sem,nC];exact jak (by simp only [go_sem]) λg g2=>by simp only [go_sem,eq_false g2]
 ·have hr:jh c n s=(((kH c s).1*16777216+(kH c (kH c s).2).1*65536+(kH c (kH c (kH c s).2).2).1*256+(kH c (kH c (kH c (kH c s).2).2).2).1).tmod n,(kH c (kH c (kH c (kH c s).2).2).2).2):=by rw [jh,if_neg h0,if_neg h1]
  rw [hr];simp only [go_sem,h0,h1];refine jv (jep c hc s b _ hs (by simp only [go_sem,ho])) (by simp only [go_sem]) ?_
  have a1:=jaM c s;have t1:=jaN hs;generalize kH c s=r1 at*;simp only [go_sem];refine jv (jep c hc r1.2 b _ t1 (by simp only [go_sem])) (by simp only [go_sem]) ?_
  have a2:=jaM c r1.2;have t2:=jaN t1;generalize kH c r1.2=r2 at*;simp only [go_sem];refine jv (jep c hc r2.2 b _ t2 (by simp only [go_sem])) (by simp only [go_sem]) ?_
  have a3:=jaM c r2.2;have t3:=jaN t2;generalize kH c r2.2=r3 at*;simp only [go_sem];refine jv (jep c hc r3.2 b _ t3 (by simp only [go_sem])) (by simp only [go_sem]) ?_
  have a4:=jaM c r3.2;generalize kH c r3.2=r4 at*;have w1:IntKind.i64.wrap (r1.1*16777216)=r1.1*16777216:=zm;have w2:IntKind.i64.wrap (r2.1*65536)=r2.1*65536:=zm;have w3:IntKind.i64.wrap (r1.1*16777216+r2.1*65536)=r1.1*16777216+r2.1*65536:=zm;have w4:IntKind.i64.wrap (r3.1*256)=r3.1*256:=zm;have w5:IntKind.i64.wrap (r1.1*16777216+r2.1*65536+r3.1*256)=r1.1*16777216+r2.1*65536+r3.1*256:=zm;have w6:IntKind.i64.wrap (r1.1*16777216+r2.1*65536+r3.1*256+r4.1)=r1.1*16777216+r2.1*65536+r3.1*256+r4.1:=zm;simp only [go_sem,w1,w2,w3,w4,w5,w6,nC];exact jak (by simp only [go_sem]) λg g2=>by simp only [go_sem,eq_false g2]
theorem jkg (c:List UInt8) (hc:c.length<=1048576) (n:Int) (s:Cu) (b:Nat) (o:Nat->Ob) (hs:s.1<=c.length) (ho:o 89=qo b 146 c s):
 jDF Tryz.prog 160 [Bx 89 b,Ni n] o (.c (.v (.bool ((jh c n s).1==0)))) (jDA o 89 (qo b 146 c (jh c n s).2)):=by
 refine joq ?_;refine qm (β:=9100000) Tryz.func160 jiA (by simp) ?_
 unfold jfb;simp only [go_sem];refine jv (kq c hc n s b _ hs (by simp only [go_sem,ho])) (by simp only [go_sem]) ?_
 simp only [go_sem];exact jak (by simp only [go_sem]) λg g2=>by simp only [go_sem,eq_false g2]
theorem jxD (l:List Ed) (e:Ed):D.sl 2 tEd (l.flatMap kb++[.val (.int .i64 e.src),.val (.int .i64 e.dst)])=jn (l++[e]):=jnu l e
theorem jnj {c:List UInt8} {n:Int} {f i:Nat} {E:List Ed} {s:Cu} (h:¬((i:Int)<(jh c 9 s).1/\1<n)):jap c n (f+1) i E s=(E,(jh c 9 s).2):=by rw [jap];dsimp only;rw [if_neg h]
theorem jxO {c:List UInt8} {n:Int} {f i:Nat} {E:List Ed} {s:Cu} (h:(i:Int)<(jh c 9 s).1/\1<n):jap c n (f+1) i E s=jap c n f (i+1) (if (⟨(jh c (1+(jh c (n-1) (jh c 9 s).2).1) (jh c (n-1) (jh c 9 s).2).2).1,1+(jh c (n-1) (jh c 9 s).2).1⟩:Ed)∈E then E else E++[⟨(jh c (1+(jh c (n-1) (jh c 9 s).2).1) (jh c (n-1) (jh c 9 s).2).2).1,1+(jh c (n-1) (jh c 9 s).2).1⟩]) (jh c (1+(jh c (n-1) (jh c 9 s).2).1) (jh c (n-1) (jh c 9 s).2).2).2:=by rw [jap];dsimp only;rw [if_pos h]
theorem jqb (c:List UInt8) (hc:c.length<=1048576) (s:Cu) (b:Nat) (o:Nat->Ob) (hs:s.1<=c.length) (ho:o 89=qo b 146 c s) (pX:o 86=.none):
 Inl Tryz.prog 108 [Bx 89 b] o λav o2=>∃e:jg,av=.agg [.v (.int .i64 (jbZ c s).1.aOL),.v (.int .i64 (jbZ c s).1.aOQ),.v (.int .i64 (jbZ c s).1.aOP),.v (.int .i64 (jbZ c s).1.aOD),.v (e [])]/\(e []).oneCell'=true/\o2 86=.loose (jn (jbZ c s).1.aOI) e/\o2 89=qo b 146 c (jbZ c s).2/\∀g,g<900000000->g≠86->g≠89->o2 g=o g:=by
 refine jle (β:=9000000) [[1,1],[1,1,1],[1,1,1,1],[1,1,1,1,0]] Tryz.func108 jiv (by simp) ?_
 unfold je6;simp only [C.ghs,C.ghAt,List.foldr];simp only [go_sem];intro b2;refine jv (kq c hc 4 s b _ hs (by simp only [go_sem,ho])) (by simp only [go_sem]) ?_
 have s1:=jo (n:=4) hs;have r1:=jP c (n:=4) s (by omega)
 generalize gK:jh c 4 s=q1 at*;simp only [go_sem];refine jv (kq c hc 3 q1.2 b _ s1 (by simp only [go_sem])) (by simp only [go_sem]) ?_
 have s2:=jo (n:=3) s1;have r2:=jP c (n:=3) q1.2 (by omega)
 generalize gS:jh c 3 q1.2=q2 at*;simp only [go_sem];refine jv (kq c hc 4 q2.2 b _ s2 (by simp only [go_sem])) (by simp only [go_sem]) ?_
 have s3:=jo (n:=4) s2;have r3:=jP c (n:=4) q2.2 (by omega)
 generalize s7:jh c 4 q2.2=q3 at*;simp only [go_sem];refine jv (kq c hc 6 q3.2 b _ s3 (by simp only [go_sem])) (by simp only [go_sem]) ?_
 have s4:=jo (n:=6) s3;have r4:=jP c (n:=6) q3.2 (by omega)
 generalize wM:jh c 6 q3.2=q4 at*;have w2:IntKind.i64.wrap (1+q2.1)=1+q2.1:=zm;have w3:IntKind.i64.wrap (1+q3.1)=1+q3.1:=zm;have w4:IntKind.i64.wrap (1+q4.1)=1+q4.1:=zm;simp only [go_sem,w2,w3,w4];intro b3;have s5:=jo (n:=10) s4;generalize xP:jh c 10 q4.2=q5 at*;obtain ⟨n,hn⟩:∃n:Int,(if q5.1=0 then (12:Int) else 1+q4.1)=n:=⟨_,rfl⟩
 have nQ:1<=n/\n<=12:=by rw [<-hn];split<;>omega
 have gL:jbZ c s=(⟨q1.1,1+q2.1,1+q3.1,n,(jap c n 9 0 [] q5.2).1⟩,(jap c n 9 0 [] q5.2).2):=by
  simp only [jbZ,gK,gS,s7,wM,xP,hn]
 generalize hD0:jap c n 9 0 [] q5.2=D0 at gL;rw [gL];refine ky (WkK.of ?_);refine jaU (λ_:Unit=>St.ofB [(0,Bx 89 b),(2,Bx 900000200 b2),(3,Bx 900000300 b3)] [(900000200,ZPl b2 49),(900000300,jyt b3 49 q1.1 (1+q2.1) (1+q3.1) n [] jcb)] 900000000 (λj=>if j=89 then qo b 146 c q5.2 else o j)) ?_ ?_
 ·simp only [go_sem]
  refine jv (jkg c hc 10 q4.2 b _ s4 (by simp only [go_sem])) (by simp only [go_sem]) ?_
  rw [xP];cases h5:q5.1==0
  ·have e:¬q5.1=0:=by simpa using h5
   rw [if_neg e] at hn;simp only [go_sem];exact ⟨(),(kO [some 900000200,some 900000300] (by simp only [go_sem,hn]<;>trivial) (λj hj=>by by_cases e89:j=89<;>simp only [go_sem,e89,jV hj 900000200 (by omega),jV hj 900000300 (by omega),hn]) (by decide))⟩
  ·have e:q5.1=0:=by simpa using h5
   rw [if_pos e] at hn;simp only [go_sem];exact ⟨(),(kO [some 900000200,some 900000300] (by simp only [go_sem,hn]<;>trivial) (λj hj=>by by_cases e89:j=89<;>simp only [go_sem,e89,jV hj 900000200 (by omega),jV hj 900000300 (by omega),hn]) (by decide))⟩
 rintro ⟨⟩;refine jaU (λi:{i:(List Ed×Cu)×jg//D0=i.1}=>St.ofB [(0,Bx 89 b),(2,Bx 900000200 b2),(3,Bx 900000300 b3)] [(900000200,ZPl b2 49),(900000300,jyt b3 49 q1.1 (1+q2.1) (1+q3.1) n i.1.1.1 i.1.2)] 900000000 (λj=>if j=89 then qo b 146 c i.1.1.2 else o j)) ?_ ?_
 ·simp only [go_sem]
  refine kh (λi:(Nat×List Ed×Cu)×jg=>St.ofB [(0,Bx 89 b),(2,Bx 900000200 b2),(3,Bx 900000300 b3),(4,Ni i.1.1)] [(900000200,ZPl b2 49),(900000300,jyt b3 49 q1.1 (1+q2.1) (1+q3.1) n i.1.2.1 i.2)] 900000000 (λj=>if j=89 then qo b 146 c i.1.2.2 else o j)) (λi=>i.1.1<=8/\i.1.2.1.length<=i.1.1/\i.1.2.2.1<=c.length/\D0=jap c n (9-i.1.1) i.1.1 i.1.2.1 i.1.2.2) (λi=>9-i.1.1) ((0,[],q5.2),jcb) (⟨aPP 8,aPD 0,s5,hD0.symm⟩) (kO [some 900000200,some 900000300] (by simp only [go_sem]<;>trivial) (λj hj=>by by_cases e89:j=89<;>simp only [go_sem,e89,hj]) (by decide)) ?_
  rintro ⟨⟨ii,E,u⟩,e0⟩ ⟨wP,hEl,hu,mP⟩;dsimp only at wP hEl hu mP;obtain ⟨f,hf⟩:∃f,9-ii=f+1:=⟨8-ii,by omega⟩
  rw [hf] at mP;simp only [go_sem];refine jv (kq c hc 9 u b _ hu (by simp only [go_sem])) (by simp only [go_sem]) ?_
  have u1:=jo (n:=9) hu;have x1:=jP c (n:=9) u (by omega)
  generalize rA:jh c 9 u=p1 at*;by_cases aB:(ii:Int)<p1.1;rotate_left
  ·rw [jnj (by rw [rA];omega),rA] at mP
   simp only [go_sem,aB];exact ⟨⟨((E,p1.2),e0),mP⟩,(kO [some 900000200,some 900000300] (by simp only [go_sem]<;>trivial) (λj hj=>by by_cases e89:j=89<;>simp only [go_sem,e89,hj]) (by decide))⟩
  by_cases lD:n>1;rotate_left
  ·rw [jnj (by omega),rA] at mP
   simp only [go_sem,aB,lD];exact ⟨⟨((E,p1.2),e0),mP⟩,(kO [some 900000200,some 900000300] (by simp only [go_sem]<;>trivial) (λj hj=>by by_cases e89:j=89<;>simp only [go_sem,e89,hj]) (by decide))⟩
  rw [jxO (by rw [rA];omega),rA] at mP
  have pZ:IntKind.i64.wrap (n-1)=n-1:=zm;simp only [go_sem,aB,lD,pZ];refine jv (kq c hc (n-1) p1.2 b _ u1 (by simp only [go_sem])) (by simp only [go_sem]) ?_
  have u2:=jo (n:=n-1) u1;have x2:=jP c (n:=n-1) p1.2 (by omega)
  generalize tF:jh c (n-1) p1.2=p2 at*;have bX:IntKind.i64.wrap (1+p2.1)=1+p2.1:=zm;simp only [go_sem,bX];refine jv (kq c hc (1+p2.1) p2.2 b _ u2 (by simp only [go_sem])) (by simp only [go_sem]) ?_
  have u3:=jo (n:=1+p2.1) u2;have x3:=jP c (n:=1+p2.1) p2.2 (by omega)
  generalize hp3:jh c (1+p2.1) p2.2=p3 at*;simp only [go_sem];intro b6;obtain ⟨e,he⟩:∃e:Ed,e=⟨p3.1,1+p2.1⟩:=⟨_,rfl⟩;have nF:p3.1=e.src:=by rw [he]
  have cA:1+p2.1=e.dst:=by rw [he]
  rw [<-he] at mP;have gI:=kw ii;refine qP (λi:Nat=>St.ofB [(0,Bx 89 b),(2,Bx 900000200 b2),(3,Bx 900000300 b3),(4,Ni ii),(6,Bx 900000600 b6),(7,.c (.v (.bool (decide (e∈E.take i))))),(8,Ni i)] [(900000200,ZPl b2 49),(900000300,jyt b3 49 q1.1 (1+q2.1) (1+q3.1) n E e0),(900000600,.box b6 161 [.a (.v (.int .i64 e.src)),.a (.v (.int .i64 e.dst))])] 900000000 (λj=>if j=89 then qo b 146 c p3.2 else o j)) (λi=>i<=E.length) (λi=>E.length-i) 0 (kO [some 900000200,some 900000300,some 900000600] (by simp only [go_sem,aQH,List.not_mem_nil,decide_false,nF,cA]<;>trivial) (λj hj=>by by_cases e89:j=89<;>simp only [go_sem,e89,hj,jV hj 900000600 (by omega),nF,cA]) (by decide)) ?_
  rintro k hk;by_cases dM:k<E.length
  ·have nR:(k:Int)<(E.length:Int):=by omega
   have bL:=qN k;obtain ⟨x,hx⟩:=ja dM;have gP:=kw k;have dV:E.take (k+1)=E.take k++[x]:=by rw [aPE,hx];rfl
   by_cases hm:e∈E.take k
   ·have h1:decide (e∈E.take k)=true:=decide_eq_true hm
    have h2:decide (e∈E.take (k+1))=true:=decide_eq_true (by rw [dV];simp [hm])
    simp only [go_sem,nR,h1];exact qc (k+1) (kO [some 900000200,some 900000300,some 900000600] (by simp only [go_sem,h2,gP]<;>trivial) (λj hj=>by by_cases e89:j=89<;>simp only [go_sem,e89,hj,gP]) (by decide))
   ·have h1:decide (e∈E.take k)=false:=decide_eq_false hm
    by_cases n6:x=e
    ·have h2:decide (e∈E.take (k+1))=true:=decide_eq_true (by rw [dV];simp [n6])
     have h3:decide (x=e)=true:=decide_eq_true n6;simp only [go_sem,nR,dM,bL,h1,jqN hx,jqc dM,kb,h3];exact qc (k+1) (kO [some 900000200,some 900000300,some 900000600] (by simp only [go_sem,h2,gP]<;>trivial) (λj hj=>by by_cases e89:j=89<;>simp only [go_sem,e89,hj,gP]) (by decide))
    ·have h2:decide (e∈E.take (k+1))=false:=decide_eq_false (by rw [dV];simp [hm];exact λh=>n6 h.symm)
     have h3:decide (x=e)=false:=decide_eq_false n6;simp only [go_sem,nR,dM,bL,h1,jqN hx,jqc dM,kb,h3];exact qc (k+1) (kO [some 900000200,some 900000300,some 900000600] (by simp only [go_sem,h2,gP]<;>trivial) (λj hj=>by by_cases e89:j=89<;>simp only [go_sem,e89,hj,gP]) (by decide))
  ·obtain rfl:k=E.length:=by omega
   have nR:¬((E.length:Nat):Int)<(E.length:Int):=by omega
   rw [aRC];by_cases hm:e∈E
   ·have h1:decide (e∈E)=true:=decide_eq_true hm
    rw [if_pos hm] at mP;simp only [go_sem,nR,h1];exact ⟨((ii+1,E,p3.2),e0),⟨by dsimp only;omega,by dsimp only;omega,u3,by rw [show 9-(ii+1)=f by omega];exact mP⟩,(kO [some 900000200,some 900000300] (by simp only [go_sem,gI]<;>trivial) (λj hj=>by by_cases e89:j=89<;>simp only [go_sem,e89,hj,gI]) (by decide)),by (try dsimp only);omega⟩
   ·have h1:decide (e∈E)=false:=decide_eq_false hm
    rw [if_neg hm] at mP;simp only [go_sem,nR,h1];intro e1;refine ⟨by unfold maxLen;omega,by omega,λe2=>?_⟩
    exact ⟨((ii+1,E++[e],p3.2),e2),⟨by dsimp only;omega,by dsimp only;simp;omega,u3,by rw [show 9-(ii+1)=f by omega];exact mP⟩,(kO [some 900000200,some 900000300] (by simp only [go_sem,gI,jxD]<;>trivial) (λj hj=>by by_cases e89:j=89<;>simp only [go_sem,e89,hj,jV hj 900000300 (by omega),jV hj 900006800 (by omega),jV hj 900006900 (by omega),gI,jxD]) (by decide)),by (try dsimp only);omega⟩
 rintro ⟨⟨⟨E,u⟩,e0⟩,mP⟩;dsimp only at mP;subst mP;simp only [go_sem];refine ky ?_;refine qD 900000300 4 86 (d:=jn E) (η:=e0) (by simp only [go_sem]) (by simp only [go_sem,pX]) (by decide) λhx=>?_
 refine WkK.of ?_;simp only [go_sem,hx];exact ⟨e0,rfl,hx,rfl,λg g1 g2 g3=>by simp only [g2,g3,g1,jV g1 900000200 (by omega),jV g1 900000300 (by omega),if_true,if_false]⟩
abbrev YdHs (y:Yd) (x2 x3:Value):AV:=.agg [.v (.int .i64 y.now),.v (.int .i64 y.seq),.hs 94 0 [] x2 1 0 y.aOE.length,.hs 95 0 [] x3 8 0 y.aOH.length]
abbrev tup3 (a b c:Int):AV:=.tup [(false,[.v (.int .i64 a)]),(false,[.v (.int .i64 b)]),(false,[.v (.int .i64 c)])]
theorem jBu {l:List Rn} {k:Nat} {r:Rn} (h:l[k]?=some r):((l.flatMap jd).drop (k*8)).take 1=[.val (.int .i64 r.id)]:=qK (enc:=jd) (size:=8) (λ_=>rfl) h (j:=0) (n:=1) (by decide)
theorem jBb {l:List Rn} {k:Nat} {r:Rn} (h:l[k]?=some r):k*8+1<=(l.flatMap jd).length:=ve (enc:=jd) (size:=8) (λ_=>rfl) h (j:=0) (n:=1) (by decide)
theorem jwm {s:St} {a b c:Nat} {x y z:A0} {K:AV->(Nat->Ob)->Prop} (ha:s.t a=.c x) (hb:s.t b=.c y) (hc:s.t c=.c z) (h:K (.tup [(false,[x]),(false,[y]),(false,[z])]) s.o):jvt [.t a,.t b,.t c] K s:=by
 simp only [jvt,jjs,ha,hb,hc];exact h
def jfe:C:=iS [iA 2 (.box 52 8 (.t 0)),iA 4 (.mov (.c (.slice none 0 0)))] (iS [iA 7 (wA1 []),aM 5 7] (.seq (iS [aN 6 0] (.blk 0 (.loop (.seq (iS [aM 8 6,aF 9 7 2,aL 10 9,aG 11 10,aP 12 .lss 3 8 11] (iD 12 .skip (.exit 0))) (.seq (.blk 1 (iS [aF 15 7 2,aL 16 15,aM 17 6,aI 18 4 16 17,aF 19 0 18,aL 20 19,aM 21 1,aP 22 .eql 3 20 21] (iD 22 (.reg [aM 23 5,aM 24 6,iA 25 (wAY [(0,1,.t 24)]),iA 26 (wA7 23 25),aM 5 26]) .skip))) (.reg [aM 13 6,aQ 14 .add 3 13 1,aM 6 14])))))) (iS [aM 27 5,aM 4 27] .ret)))
theorem jiD:fnC Tryz.prog Tryz.f199=some (jfe,[.t 4],28):=by kernel_rfl
def je1:C:=iS [iA 3 (.box 27 4 (.t 1)),aN 4 0,aN 5 0,aN 6 0] (.seq (iS [aN 7 0] (.blk 0 (.loop (.seq (iS [aM 11 7,aF 12 3 3,aL 13 12,aG 14 13,aP 15 .lss 3 11 14] (iD 15 .skip (.exit 0))) (.seq (.blk 1 (iS [aF 18 3 3,aL 19 18,aM 20 7,aI 21 8 19 20,aT 22 8 21,iA 23 (.call 199 [.t 22,oI 3]),aM 8 23] (iS [aM 24 8,aG 25 24,aQ 26 .gtr 3 25 0,aM 27 26,iB 28 27 true (iM 0),iB 29 27 true (.call 160 [.t 28,oI 5]),iB 30 27 true (iU 29),iA 31 (iY 27 (.t 30) (oF))] (iD 31 (iS [aM 32 8,aM 33 0,aM 34 8,aG 35 34,iA 36 (iK 60 [33,35]),aI 37 1 32 36,aL 38 37,aM 9 38] (iS [aF 39 3 3,aL 40 39,aM 41 7,aI 42 8 40 41,aF 43 7 42,aL 44 43,aM 45 9,aI 46 4 44 45,aF 47 2 46,aL 48 47,aM 10 48] (.seq (iS [aM 49 0,iA 50 (.call 160 [.t 49,oI 8])] (iD 50 (.reg [aM 51 10,aQ 52 .sub 3 51 1,aM 53 0,iA 54 (.call 60 [.t 53,oI 2]),iA 55 (.bin .mul 3 (oI 2) (.t 54)),aP 56 .add 3 52 55,aM 10 56]) .skip)) (iS [aF 57 3 3,aL 58 57,aM 59 7,aI 60 8 58 59,aF 61 0 60,aL 62 61,aM 63 9,aM 64 10,aM 4 62,aM 5 63,aM 6 64] .ret)))) .skip)))) (.reg [aM 16 7,aQ 17 .add 3 16 1,aM 7 17])))))) (iS [aM 65 0,iA 66 (.call 60 [.t 65,oI 5]),iA 67 (.bin .add 3 (oI 1) (.t 66)),aM 68 0,iA 69 (.call 60 [.t 68,oI 6]),aQ 70 .sub 3 69 1,aM 71 0,iA 72 (.call 60 [.t 71,oI 4]),aM 4 67,aM 5 70,aM 6 72] .ret))
theorem jiq:fnC Tryz.prog Tryz.f184=some (je1,[.t 4,.t 5,.t 6],73):=by kernel_rfl
theorem jl9 (r:Rn) (s:Int) (hl:r.aOD.length<=2000000):jZ Tryz.prog 199 [.agg (jd r),.c (.val (.int .i64 s))] (.c (jc (qG s r.aOD))):=by
 refine pf_ jiD ?_;unfold jfe;simp only [go_sem,jd,je];intro b eP;refine qP (λi:Nat×jg=>St.of [(1,Ni s),(2,Bx 200 b),(5,Hd 5 i.2),(6,Ni i.1)] [(200,Bi b _ (jd r)),(5,.loose (jc (zk s r.aOD i.1)) i.2)]) (λi=>i.1<=r.aOD.length) (λi=>r.aOD.length-i.1) (0,eP) (js [200,700] (by simp only [go_sem,jd,je,jAD,jrE]<;>trivial)) ?_
 rintro ⟨k,η⟩ hk;dsimp only at hk;by_cases aB:k<r.aOD.length
 ·have aA:(k:Int)<r.aOD.length:=by omega
  have bL:=qN k;obtain ⟨x,hx⟩:=ja aB;have hw:=kw k;have hc:=jc6 hx s;have cR:=va s r.aOD k;generalize zk s r.aOD k=R at*;have dU:R.length+1<=maxLen:=vT;have eG:(R.length+1)*8<=140737488355328:=by omega
  by_cases h2:x.aOG=s
  ·have bP:(x.aOG==s)=true:=by simpa using h2
   rw [if_pos h2] at hc;simp only [go_sem,jd,je,aB,aA,bL,jL hx,jz,bP,dU,eG,ko];intro bY eO;simp only [go_sem,hw];exact qc (k+1,eO) (js [200,2600] (by simp only [go_sem,hc]<;>trivial))
  ·have bP:(x.aOG==s)=false:=by simpa using h2
   rw [if_neg h2,aPR] at hc;simp only [go_sem,jd,je,aB,aA,bL,jL hx,jz,bP,hw];exact qc (k+1,η) (js [200,5] (by simp only [go_sem,hc]<;>trivial))
 have aA:¬(k:Int)<r.aOD.length:=by omega
 obtain rfl:k=r.aOD.length:=by omega
 simp only [go_sem,jd,je,aA,qG]
theorem jtc (c:List UInt8) (hc:c.length<=1048576) (y:Yd) (hy:YdI y) (s:Cu) (b:Nat) (o:Nat->Ob) (f2 f3:jg) (hs:s.1<=c.length) (ho:o 89=qo b 146 c s) (tV:o 94=.loose (ke y.aOE) f2) (nJ:o 95=.loose (jG y.aOH) f3):
 Inl Tryz.prog 184 [Bx 89 b,YdHs y (f2 []) (f3 [])] o λav o2=>av=tup3 (qF c y s).1.1 (qF c y s).1.2.1 (qF c y s).1.2.2/\o2 89=qo b 146 c (qF c y s).2/\∀g,g<800000000->g≠89->o2 g=o g:=by
 refine qm (β:=8000000) Tryz.func184 jiq (by simp) ?_
 unfold je1;have h8:=hy.rns.eight;simp only [go_sem];intro b3;have wD:=jFt (g:=95) (sz:=8) (d:=jG y.aOH) (η:=f3) rfl rfl (vF _) (by decide)
 have fT:∀r s',jb0 c y.aOH s=(r,s')->qF c y s=match (r,s') with
  |(some x,s)=>(x,s)
  |(none,s)=>let a:=jh c 5 s;let b:=jh c 6 a.2;let d:=jh c 4 b.2;((1+a.1,b.1-1,d.1),d.2):=λr s' h=>by rw [qF,h]<;>rfl
 refine kh (λi:Nat×Cu=>St.ofB [(0,Bx 89 b),(3,Bx 800000300 b3),(7,Ni i.1)] [(800000300,.box b3 tYd [.a (.v (.int .i64 y.now)),.a (.v (.int .i64 y.seq)),.a (.hs 94 0 [] (f2 []) 1 0 y.aOE.length),.a (.hs 95 0 [] (f3 []) 8 0 y.aOH.length)])] 800000000 (λj=>if j=89 then qo b 146 c i.2 else o j)) (λi=>i.1<=y.aOH.length/\i.2.1<=c.length/\jb0 c y.aOH s=jb0 c (y.aOH.drop i.1) i.2) (λi=>y.aOH.length-i.1) (0,s) (⟨aPP _,hs,rfl⟩) (kO [some 800000300] (by simp only [go_sem]<;>trivial) (λj hj=>by by_cases e89:j=89<;>simp only [go_sem,e89,jV hj 800000300 (by omega),ho]) (by decide)) ?_
 rintro ⟨k,u⟩ ⟨hk,hu,hH⟩;dsimp only at hk hu hH;by_cases aB:k<y.aOH.length;rotate_left
 ·have aA:¬(k:Int)<y.aOH.length:=by omega
  rw [List.drop_eq_nil_of_le (by omega),jb0] at hH
  rw [fT _ _ hH];dsimp only;simp only [go_sem,aA,wD,nJ];refine jv (kq c hc 5 u b _ hu (by simp only [go_sem])) (by simp only [go_sem]) ?_
  have u1:=jo (n:=5) hu;have x1:=jP c (n:=5) u (by omega)
  generalize jh c 5 u=p1 at*;have w1:IntKind.i64.wrap (1+p1.1)=1+p1.1:=zm;simp only [go_sem,w1];refine jv (kq c hc 6 p1.2 b _ u1 (by simp only [go_sem])) (by simp only [go_sem]) ?_
  have u2:=jo (n:=6) u1;have x2:=jP c (n:=6) p1.2 (by omega)
  generalize jh c 6 p1.2=p2 at*;have w2:IntKind.i64.wrap (p2.1-1)=p2.1-1:=zm;simp only [go_sem,w2];refine jv (kq c hc 4 p2.2 b _ u2 (by simp only [go_sem])) (by simp only [go_sem]) ?_
  have x3:=jP c (n:=4) p2.2 (by omega)
  generalize jh c 4 p2.2=p3 at*;simp only [go_sem];exact jwm (by simp only [go_sem]) (by simp only [go_sem]) (by simp only [go_sem]) ⟨rfl,by simp only [go_sem],λg g1 g2=>by simp only [go_sem,g1,g2]⟩
 have aA:(k:Int)<y.aOH.length:=by omega
 have bL:=qN k;obtain ⟨r,hr⟩:=ja aB;have cC:=(hy.rns.right r (aOT hr)).le12;simp only [go_sem,aA,wD,nJ,aB,bL,jlV hr,jgE hr,jd,je];refine jw (jl9 r 3 (by omega)) (by simp only [go_sem,jd,je,nJ,jgJ hr,jY hr]) λwV=>?_
 simp only [go_sem];have gP:=kw k
 have hd:y.aOH.drop k=r::y.aOH.drop (k+1):=by
  obtain ⟨hk,rfl⟩:=aOS.1 hr;exact aQT hk
 rw [hd,jb0] at hH;dsimp only at hH;have dX:=λv:Int=>@tinL_mem 3 r.aOD v
 have dD:=va 3 r.aOD r.aOD.length;rw [show zk 3 r.aOD r.aOD.length=qG 3 r.aOD from rfl] at dD
 generalize qG 3 r.aOD=L at*;by_cases hL:L=[]
 ·subst hL
  rw [if_pos rfl] at hH;have hz:¬((([]:List Int).length:Int)>0):=by simp
  simp only [go_sem,gP];exact ⟨(k+1,u),⟨aB,hu,hH⟩,(kO [some 800000300] (by simp only [go_sem]<;>trivial) (λj hj=>by by_cases e89:j=89<;>simp only [go_sem,e89,hj,jV hj 800002300 (by omega)]) (by decide)),by (try dsimp only);omega⟩
 rw [if_neg hL] at hH;have hLp:0<L.length:=aRP.2 hL;have hz:((L.length:Int)>0):=by omega
 simp only [go_sem,hz];refine jv (jkg c hc 5 u b _ hu (by simp only [go_sem])) (by simp only [go_sem]) ?_
 have u1:=jo (n:=5) hu;generalize jh c 5 u=p1 at*;by_cases h5:p1.1=0
 ·have mV:(p1.1==0)=true:=by simp [h5]
  rw [if_pos h5] at hH;simp only [go_sem,mV,gP];exact ⟨(k+1,p1.2),⟨aB,u1,hH⟩,(kO [some 800000300] (by simp only [go_sem]<;>trivial) (λj hj=>by by_cases e89:j=89<;>simp only [go_sem,e89,hj,jV hj 800002300 (by omega)]) (by decide)),by (try dsimp only);omega⟩
 have mV:(p1.1==0)=false:=by simp [h5]
 rw [if_neg h5] at hH;simp only [go_sem,mV];refine jv (kq c hc L.length p1.2 b _ u1 (by simp only [go_sem])) (by simp only [go_sem]) ?_
 have u2:=jo (n:=(L.length:Int)) u1;have x2:=jP c (n:=(L.length:Int)) p1.2 (by omega)
 generalize jh c L.length p1.2=p2 at*;obtain ⟨j,hj⟩:=Int.eq_ofNat_of_zero_le x2.1;rw [hj] at x2;have bJ:j<L.length:=by omega
 have dK:=qN j;obtain ⟨v,hv⟩:=ja bJ;obtain ⟨t,x,hvt,hx,lN⟩:=(dX v).1 (aOT hv);have oP:=(aOS.1 hx).1;have eT:=qN t;rw [hj,aPB,hv,aPA,hvt,aPB,hx] at hH;rw [hvt] at hv;have lH:j+1<=(L.flatMap λn=>[iv n]).length:=by have:=jp bJ;rwa [aPK] at this
 have n7:((L.flatMap λn=>[iv n]).drop j).take 1=[iv (t:Int)]:=by have:=jq hv;rwa [aPK] at this
 simp only [go_sem,hj,dK,bJ,lH,n7,aPK,wD,nJ,aB,bL,zh hr,zz hr,jY hr,oP,eT,jnq hx,jm8 hx];simp only [Option.map_some,aPA] at hH;refine jv (jkg c hc 8 p2.2 b _ u2 (by simp only [go_sem])) (by simp only [go_sem]) ?_
 have u3:=jo (n:=8) u2;generalize jh c 8 p2.2=p3 at*;by_cases lF:p3.1=0
 ·have h8b:(p3.1==0)=true:=by simp [lF]
  rw [if_pos lF] at hH;simp only [go_sem,h8b];refine jv (kq c hc 2 p3.2 b _ u3 (by simp only [go_sem])) (by simp only [go_sem]) ?_
  have x4:=jP c (n:=2) p3.2 (by omega)
  generalize jh c 2 p3.2=p4 at*;have w4:IntKind.i64.wrap (2*p4.1)=2*p4.1:=zm;rw [fT _ _ hH];dsimp only;simp only [go_sem,w4,wD,nJ,aB,bL,aPO,jBu hr,jBb hr];exact jwm (by simp only [go_sem]) (by simp only [go_sem]) (by simp only [go_sem]) ⟨rfl,by simp only [go_sem],λg g1 g2=>by simp only [go_sem,g1,g2,jV g1 800002300 (by omega)]⟩
 ·have h8b:(p3.1==0)=false:=by simp [lF]
  rw [if_neg lF] at hH;rw [fT _ _ hH];dsimp only;simp only [go_sem,h8b,wD,nJ,aB,bL,aPO,jBu hr,jBb hr];exact jwm (by simp only [go_sem]) (by simp only [go_sem]) (by simp only [go_sem]) ⟨rfl,by simp only [go_sem],λg g1 g2=>by simp only [go_sem,g1,g2,jV g1 800002300 (by omega)]⟩
section
variable {σ:Type} {nx:σ->Int×σ} {bd:σ->Bool} {sb:σ->σ}
def rdSh (cap:Option Int) (nx:σ->Int×σ) (bd:σ->Bool) (sb:σ->σ) (s:σ):List En×σ:=
 vt bd (jvp nx) (nx s).1.toNat ([],jhW cap sb (nx s).1 (nx s).2)
def rdRn (ce ct:Option Int) (nx:σ->Int×σ) (bd:σ->Bool) (sb:σ->σ) (s:σ):Rn×σ:=
 let a:=nx s;let p:=rdPl ce nx bd sb a.2;let c:=nx p.2
 let t:=vt bd (jrh nx) p.1.aOD.toNat ([],jhW ct sb p.1.aOD c.2)
 (⟨a.1,p.1,c.1,t.1⟩,t.2)
theorem jC9 (x:En) (s s':σ) (h:RdSeq nx bd s (enI x) s'):jvp nx s=(x,s'):=by
 obtain ⟨_,h1,_,h2,_,h3,_,h4,h5⟩:=h;rw [show s'=_ from h5,jvp]
 simp only [h1,h2,h3,h4]
theorem jBJ (x:Tk) (s s':σ) (h:RdSeq nx bd s (tkI x) s'):jrh nx s=(x,s'):=by
 obtain ⟨_,h1,_,h2,_,h3,_,h4,h5⟩:=h;rw [show s'=_ from h5,jrh]
 simp only [h1,h2,h3,h4]
theorem jBU {cap:Option Int} {l:List En} {s s':σ} (hc:∀c,cap=some c->(l.length:Int)<=c) (h:RdSeq nx bd s (shI l) s'):rdSh cap nx bd sb s=(l,s'):=by
 obtain ⟨_,e1,h2⟩:=h;have hr:=jdf (rd:=jvp nx) (pr:=enI) (by intro x;simp [enI]) (λ_=>True) (λx s s' _ h=>jC9 x s s' h) l [] _ s' (by simp) h2
 simp only [rdSh,e1,aPB,jr8 hc,hr,aQG]
theorem jCn {ce ct:Option Int} {r:Rn} {s s':σ} (hn:r.aOF.aOD=(r.aOD.length:Int)) (hc:∀c,ce=some c->(r.aOF.aOI.length:Int)<=c) (hd:∀c,ct=some c->(r.aOD.length:Int)<=c) (h:RdSeq nx bd s (rnI r) s'):rdRn ce ct nx bd sb s=(r,s'):=by
 obtain ⟨id,p,st,ts⟩:=r;obtain ⟨s1,h1,h2⟩:=RdSeq.split (l:=id::plI p) (m:=st::ts.flatMap tkI) h;obtain ⟨_,e1,h1⟩:=h1;obtain ⟨_,e2,h2⟩:=h2;dsimp only at hn hc hd;have hr:=jdf (rd:=jrh nx) (pr:=tkI) (by intro x;simp [tkI]) (λ_=>True) (λx s s' _ h=>jBJ x s s' h) ts [] _ s' (by simp) h2
 have oH:∀c,ct=some c->p.aOD<=c:=by rw [hn];exact hd
 simp only [rdRn,e1,jCu hc h1,e2,hn,aPB];rw [hn] at oH;simp only [jr8 oH,hr,aQG]
def jas {α:Type} (rd:σ->α×σ):Nat->List α×σ->List α×σ
 |0,s=>s
 |n+1,s=>jas rd n (s.1++[(rd s.2).1],(rd s.2).2)
theorem jmR {α:Type} {rd:σ->α×σ} {pr:α->List Int} (ok:α->Prop) (h:∀x s s',ok x->RdSeq nx bd s (pr x) s'->rd s=(x,s')):
 ∀(l:List α) (acc:List α) (s s':σ),(∀x∈l,ok x)->RdSeq nx bd s (l.flatMap pr) s'->jas rd l.length (acc,s)=(acc++l,s')
 |[],acc,s,s',_,h'=>by simp only [aPU,jas,aPR];rw [show s'=s from h']
 |x::l,acc,s,s',ho,h'=>by
  rw [aPQ] at h';obtain ⟨s1,h1,h2⟩:=h'.split;have e:=h x s s1 (ho x (by simp)) h1
  rw [aPI,jas,e,jmR ok h l _ s1 s' (λz hz=>ho z (by simp [hz])) h2]
  simp
def rdYI (nx:σ->Int×σ) (bd:σ->Bool) (sb:σ->σ) (s:σ):Yd×σ:=
 let a:=nx s;let b:=nx a.2;let h:=jas (rdSh none nx bd sb) 4 ([],b.2);let m:=nx h.2
 let r:=vt bd (rdRn none none nx bd sb) m.1.toNat ([],m.2)
 (⟨a.1,b.1,h.1,r.1⟩,r.2)
theorem rn_ok {r:Rn} (h:RunOkP r):r.aOF.aOD=(r.aOD.length:Int)/\(r.aOF.aOI.length:Int)<=31/\(r.aOD.length:Int)<=12:=by
 obtain ⟨n,h1,h2,h3,h4,-⟩:=ja8 h.aOF;have:=h.len;refine ⟨by omega,by omega,by omega⟩
theorem jqX {y:Yd} {s s':σ} (hk:YardOkP y) (h:RdSeq nx bd s (zM y) s'):rdYI nx bd sb s=(y,s'):=by
 obtain ⟨s1,h1,h2⟩:=RdSeq.split (l:=[y.now,y.seq]++y.aOE.flatMap shI) h;obtain ⟨s0,h0,h1⟩:=RdSeq.split (l:=[y.now,y.seq]) h1;obtain ⟨_,e1,_,e2,h0⟩:=h0;obtain ⟨_,e3,h2⟩:=h2;have a1:=jmR (rd:=rdSh none nx bd sb) (pr:=shI) (λ_=>True) (λx s s' _ h=>jBU (by simp) h) y.aOE [] s0 s1 (by simp) h1
 have a2:=jdf (rd:=rdRn none none nx bd sb) (pr:=rnI) (by intro x;simp [rnI]) RunOkP (λx s s' ho h=>jCn (rn_ok ho).1 (by simp) (by simp) h) y.aOH [] _ s' hk.right h2
 rw [hk.four] at a1;rw [show s0=_ from h0] at a1
 simp only [rdYI,e1,e2,a1,aQG,e3,aPB,a2]
theorem zf (hb:∀s,bd s=true->bd (nx s).2=true) {s:σ} (h:bd (nx s).2=false):bd s=false:=by
 cases hq:bd s with
 |false=>rfl
 |true=>rw [hb s hq] at h;cases h
theorem jBh (hb:∀s,bd s=true->bd (nx s).2=true) (s:σ) (h:bd s=true):bd (jvp nx s).2=true:=hb _ (hb _ (hb _ (hb _ h)))
theorem jvG (hb:∀s,bd s=true->bd (nx s).2=true) (s:σ) (h:bd s=true):bd (jrh nx s).2=true:=hb _ (hb _ (hb _ (hb _ h)))
theorem jxE (hb:∀s,bd s=true->bd (nx s).2=true) (s:σ) (h:bd s=true):bd (jsN nx s).2=true:=hb _ (hb _ h)
theorem jz7 (hb:∀s,bd s=true->bd (nx s).2=true) (s:σ) (h:bd (jvp nx s).2=false):RdSeq nx bd s (enI (jvp nx s).1) (jvp nx s).2:=by
 have h4:=zf hb h;have h3:=zf hb h4;have h2:=zf hb h3;have h1:=zf hb h2;exact ⟨h1,rfl,h2,rfl,h3,rfl,h4,rfl,rfl⟩
theorem jyM (hb:∀s,bd s=true->bd (nx s).2=true) (s:σ) (h:bd (jrh nx s).2=false):RdSeq nx bd s (tkI (jrh nx s).1) (jrh nx s).2:=by
 have h4:=zf hb h;have h3:=zf hb h4;have h2:=zf hb h3;have h1:=zf hb h2;exact ⟨h1,rfl,h2,rfl,h3,rfl,h4,rfl,rfl⟩
theorem jAa (hb:∀s,bd s=true->bd (nx s).2=true) (s:σ) (h:bd (jsN nx s).2=false):RdSeq nx bd s (edI (jsN nx s).1) (jsN nx s).2:=by
 have h2:=zf hb h;have h1:=zf hb h2;exact ⟨h1,rfl,h2,rfl,rfl⟩
theorem jhk {α:Type} {rd:σ->α×σ} {pr:α->List Int} (mR:∀s,bd s=true->bd (rd s).2=true) (h:∀s,bd (rd s).2=false->RdSeq nx bd s (pr (rd s).1) (rd s).2) (hs:∀s,bd (sb s)=true)
 {cap:Option Int} {m:Int} {n:Nat} {s:σ} (hf:bd (vt bd rd n ([],jhW cap sb m s)).2=false):∃l s',l.length=n/\vt bd rd n ([],jhW cap sb m s)=(l,s')/\RdSeq nx bd s (l.flatMap pr) s':=by
 have hc:jhW cap sb m s=s:=by
  unfold jhW at hf⊢;split
  ·split
   ·rename_i c hq
    simp only [hq,if_true] at hf;rw [jgk (by exact hs s)] at hf
    simp only at hf;rw [hs s] at hf;cases hf
   ·rfl
  ·rfl
 rw [hc] at hf⊢;obtain ⟨l,h1,h2,h3⟩:=jmQ mR h n [] s hf;exact ⟨l,_,h1,Prod.ext (by rw [h2];simp) rfl,h3⟩
theorem jbO {α:Type} {rd:σ->α×σ} (mR:∀s,bd s=true->bd (rd s).2=true) {cap:Option Int} {m:Int} {n:Nat} {s:σ} (hs:∀s,bd (sb s)=true) (h:bd s=true) (acc:List α):bd (vt bd rd n (acc,jhW cap sb m s)).2=true:=by
 have:bd (jhW cap sb m s)=true:=by
  unfold jhW;split
  ·split
   ·exact hs s
   ·exact h
  ·exact h
 rw [jgk (by exact this)];exact this
theorem jAK (hb:∀s,bd s=true->bd (nx s).2=true) (hs:∀s,bd (sb s)=true) (cap:Option Int) (s:σ) (h:bd s=true):bd (rdSh cap nx bd sb s).2=true:=jbO (jBh hb) hs (hb _ h) []
theorem jAZ (hb:∀s,bd s=true->bd (nx s).2=true) (hs:∀s,bd (sb s)=true) (cap:Option Int) (s:σ) (h:bd s=true):bd (rdPl cap nx bd sb s).2=true:=jbO (jxE hb) hs (hb _ (hb _ (hb _ (hb _ (hb _ h))))) []
theorem jAS (hb:∀s,bd s=true->bd (nx s).2=true) (hs:∀s,bd (sb s)=true) (ce ct:Option Int) (s:σ) (h:bd s=true):bd (rdRn ce ct nx bd sb s).2=true:=jbO (jvG hb) hs (hb _ (jAZ hb hs ce _ (hb _ h))) []
theorem jy2 (hb:∀s,bd s=true->bd (nx s).2=true) (hs:∀s,bd (sb s)=true) (hn:∀s,0<=(nx s).1) (cap:Option Int) (s:σ) (h:bd (rdSh cap nx bd sb s).2=false):RdSeq nx bd s (shI (rdSh cap nx bd sb s).1) (rdSh cap nx bd sb s).2:=by
 obtain ⟨l,s',h1,h2,h3⟩:=jhk (jBh hb) (jz7 hb) hs h
 have h0:bd s=false:=by
  cases hq:bd s with
  |false=>rfl
  |true=>rw [jAK hb hs cap s hq] at h;cases h
 rw [show rdSh cap nx bd sb s=(l,s') from h2]
 refine ⟨h0,?_,h3⟩;have:=hn s;dsimp only;omega
theorem jzr (hb:∀s,bd s=true->bd (nx s).2=true) (hs:∀s,bd (sb s)=true) (hn:∀s,0<=(nx s).1) (cap:Option Int) (s:σ) (h:bd (rdPl cap nx bd sb s).2=false):RdSeq nx bd s (plI (rdPl cap nx bd sb s).1) (rdPl cap nx bd sb s).2:=by
 obtain ⟨l,s',h1,h2,h3⟩:=jhk (jxE hb) (jAa hb) hs (h:bd (vt bd (jsN nx) _ ([],jhW cap sb _ _)).2=false)
 have h5:bd (nx (nx (nx (nx (nx s).2).2).2).2).2=false:=by
  cases hq:bd (nx (nx (nx (nx (nx s).2).2).2).2).2 with
  |false=>rfl
  |true=>exact absurd (jbO (jxE hb) hs hq []) (by rw [show bd (vt bd (jsN nx) _ ([],jhW cap sb _ _)).2=false from h];decide)
 have h4:=zf hb h5;have g3:=zf hb h4;have g2:=zf hb g3;have g1:=zf hb g2;have g0:=zf hb g1
 have e:rdPl cap nx bd sb s=(⟨(nx s).1,(nx (nx s).2).1,(nx (nx (nx s).2).2).1,(nx (nx (nx (nx s).2).2).2).1,l⟩,s'):=by
  simp only [rdPl,h2]
 rw [e];refine ⟨g0,rfl,g1,rfl,g2,rfl,g3,rfl,h4,?_,h3⟩;have:=hn (nx (nx (nx (nx s).2).2).2).2;dsimp only;omega
theorem jES (hb:∀s,bd s=true->bd (nx s).2=true) (hs:∀s,bd (sb s)=true) {cap:Option Int} {s:σ} (h:bd (rdPl cap nx bd sb s).2=false):bd s=false:=by
 cases hq:bd s with
 |false=>rfl
 |true=>rw [jAZ hb hs cap s hq] at h;cases h
theorem jzd (hb:∀s,bd s=true->bd (nx s).2=true) (hs:∀s,bd (sb s)=true) (hn:∀s,0<=(nx s).1) (ce ct:Option Int) (s:σ) (h:bd (rdRn ce ct nx bd sb s).2=false):RdSeq nx bd s (rnI (rdRn ce ct nx bd sb s).1) (rdRn ce ct nx bd sb s).2:=by
 obtain ⟨l,s',h1,h2,h3⟩:=jhk (jvG hb) (jyM hb) hs (h:bd (vt bd (jrh nx) _ ([],jhW ct sb _ _)).2=false)
 have h5:bd (nx (rdPl ce nx bd sb (nx s).2).2).2=false:=by
  cases hq:bd (nx (rdPl ce nx bd sb (nx s).2).2).2 with
  |false=>rfl
  |true=>exact absurd (jbO (jvG hb) hs hq []) (by rw [show bd (vt bd (jrh nx) _ ([],jhW ct sb _ _)).2=false from h];decide)
 have h4:=zf hb h5;have g3:=jES hb hs h4;have g2:=zf hb g3;have hp:=jzr hb hs hn ce (nx s).2 h4
 have e:rdRn ce ct nx bd sb s=(⟨(nx s).1,(rdPl ce nx bd sb (nx s).2).1,(nx (rdPl ce nx bd sb (nx s).2).2).1,l⟩,s'):=by
  simp only [rdRn,h2]
 rw [e];exact RdSeq.app (l:=(nx s).1::plI (rdPl ce nx bd sb (nx s).2).1) ⟨g2,rfl,hp⟩ ⟨h4,rfl,h3⟩
theorem jAO (hN:∀s,jds (nx s).1):∀(l:List Int) (s s':σ),RdSeq nx bd s l s'->∀n∈l,jds n
 |[],_,_,_=>by simp
 |x::l,s,s',⟨_,h2,h3⟩=>λn hn=>by
  rcases aPL.1 hn with rfl|hn
  ·rw [<-h2];exact hN s
  ·exact jAO hN l _ _ h3 n hn
theorem jkP {α:Type} {rd:σ->α×σ} {pr:α->List Int} (mR:∀s,bd s=true->bd (rd s).2=true) (h:∀s,bd (rd s).2=false->RdSeq nx bd s (pr (rd s).1) (rd s).2):
 ∀(n:Nat) (acc:List α) (s:σ),bd (jas rd n (acc,s)).2=false->bd s=false/\∃l,l.length=n/\(jas rd n (acc,s)).1=acc++l/\RdSeq nx bd s (l.flatMap pr) (jas rd n (acc,s)).2
 |0,acc,s,hb=>⟨hb,[],rfl,by simp [jas],rfl⟩
 |n+1,acc,s,hb=>by
  rw [jas] at hb⊢;obtain ⟨h1,l,e1,e2,e3⟩:=jkP mR h n (acc++[(rd s).1]) (rd s).2 hb;refine ⟨?_,(rd s).1::l,by simp [e1],by rw [e2];simp,by rw [aPQ];exact (h s h1).app e3⟩
  cases hq:bd s with
  |false=>rfl
  |true=>rw [mR s hq] at h1;cases h1
theorem jyB (hb:∀s,bd s=true->bd (nx s).2=true) (hs:∀s,bd (sb s)=true) (hn:∀s,0<=(nx s).1) (s:σ) (h:bd (rdYI nx bd sb s).2=false):RdSeq nx bd s (zM (rdYI nx bd sb s).1) (rdYI nx bd sb s).2:=by
 obtain ⟨l,s',h1,h2,h3⟩:=jhk (cap:=none) (m:=0) (sb:=sb) (jAS hb hs _ _) (jzd hb hs hn _ _) hs (h:bd (vt bd (rdRn none none nx bd sb) _ ([],jhW none sb 0 _)).2=false)
 have h5:bd (nx (jas (rdSh none nx bd sb) 4 ([],(nx (nx s).2).2)).2).2=false:=by
  cases hq:bd (nx (jas (rdSh none nx bd sb) 4 ([],(nx (nx s).2).2)).2).2 with
  |false=>rfl
  |true=>exact absurd (jbO (cap:=none) (m:=0) (sb:=sb) (jAS hb hs none none) hs hq []) (by rw [show bd (vt bd (rdRn none none nx bd sb) _ ([],jhW none sb 0 _)).2=false from h];decide)
 have h4:=zf hb h5;obtain ⟨g3,S,k1,k2,k3⟩:=jkP (jAK hb hs _) (jy2 hb hs hn _) 4 [] _ h4;have g2:=zf hb g3;have g1:=zf hb g2;have bP:vt bd (rdRn none none nx bd sb) (nx (jas (rdSh none nx bd sb) 4 ([],(nx (nx s).2).2)).2).1.toNat ([],(nx (jas (rdSh none nx bd sb) 4 ([],(nx (nx s).2).2)).2).2)=(l,s'):=h2
 have e:rdYI nx bd sb s=(⟨(nx s).1,(nx (nx s).2).1,S,l⟩,s'):=by
  simp only [rdYI,bP,k2,aQG]
 rw [e];refine RdSeq.app (RdSeq.app (l:=[(nx s).1,(nx (nx s).2).1]) ⟨g1,rfl,g2,rfl,rfl⟩ k3) ⟨h4,?_,h3⟩;have:=hn (jas (rdSh none nx bd sb) 4 ([],(nx (nx s).2).2)).2;dsimp only;omega
end
abbrev ydZ:Yd:=⟨0,0,[],[]⟩
structure jjq (t:ByteArray) (y:Yd):Prop where
 ok:YardOkP y
 nums:∀n∈zM y,jds n
 txt:t=jkr (zM y)
open Classical in
noncomputable def jko (t:ByteArray):Yd×Bool:=if h:∃y,jjq t y then (h.choose,true) else (ydZ,false)
abbrev nI (L:List Int):=rdYI (jai L) (·.2) (λs=>(s.1,true)) (0,false)
noncomputable def jaA (t:ByteArray):Yd×Bool:=match rvF t.size t.data.toList with
 |none=>(ydZ,false)
 |some L=>if (nI L).2.2=true\/jt (nI L).1=false\/qh (nI L).1≠t then (ydZ,false) else ((nI L).1,true)
theorem yd_I {t:ByteArray} {y:Yd} (h:jjq t y):jaA t=(y,true):=by
 obtain ⟨h1,h2,h3⟩:=h;have hr:rvF t.size t.data.toList=some (zM y):=by subst h3;exact jsD _ _ h2 (aPD _)
 have hb:=jqX (sb:=λs:Nat×Bool=>(s.1,true)) h1 (jke (L:=zM y) (zM y) (rest:=[]) (lo:=0) (by simp))
 have hy:qh y=t:=by rw [qh,if_pos (qX h1)];exact h3.symm
 simp only [jaA,hr,nI,hb,qX h1];rw [if_neg];rintro (g|g|g)
 ·cases g
 ·cases g
 ·exact g hy
theorem jzx (L:List Int) (s:Nat×Bool) (h:s.2=true):(jai L s).2.2=true:=by
 unfold jai;split
 ·exact h
 ·rfl
theorem joh {L:List Int} (h:∀n∈L,jds n) (s:Nat×Bool):jds (jai L s).1:=by
 unfold jai;split
 ·rename_i v hv;exact h v (aOT hv)
 ·exact ⟨Int.le_refl _,by show (0:Int)<=_;omega⟩
theorem jpx (t:ByteArray):jaA t=jko t:=by
 unfold jko;split
 ·rename_i h;exact yd_I h.choose_spec
 ·rename_i h
  unfold jaA;split
  ·rfl
  ·rename_i L hL
   obtain ⟨-,cJ⟩:=jnL _ _ _ hL;split
   ·rfl
   ·rename_i hc
    refine absurd ⟨(nI L).1,?_⟩ h
    have hb:(nI L).2.2=false:=by
     cases hq:(nI L).2.2 with
     |false=>rfl
     |true=>exact absurd (.inl hq) hc
    have hk:jt (nI L).1=true:=by
     cases hq:jt (nI L).1 with
     |true=>rfl
     |false=>exact absurd (.inr (.inl hq)) hc
    have hy:qh (nI L).1=t:=aQM λg=>hc (.inr (.inr g))
    have i9:=jyB (nx:=jai L) (bd:=λs:Nat×Bool=>s.2) (sb:=λs=>(s.1,true)) (jzx L) (λ_=>rfl) (λs=>(joh cJ s).1) (0,false) hb
    refine ⟨yard_iff.1 hk,jAO (joh cJ) _ _ _ i9,?_⟩;rw [<-hy,qh,if_pos hk]
section
variable {σ:Type} {nx:σ->Int×σ} {bd:σ->Bool} {sb:σ->σ} {φ:σ->Nat}
structure Pot (nx:σ->Int×σ) (bd:σ->Bool) (sb:σ->σ) (φ:σ->Nat):Prop where
 le:∀s,φ (nx s).2<=φ s
 lt:∀s,bd s=false->φ (nx s).2+1<=φ s
 sb:∀s,φ (sb s)<=φ s
theorem Pot.cap (h:Pot nx bd sb φ) (c:Option Int) (m:Int) (s:σ):φ (jhW c sb m s)<=φ s:=by
 unfold jhW;split
 ·split
  ·exact h.sb s
  ·exact aPD _
 ·exact aPD _
theorem jo4 {α:Type} (w:α->Nat) (l:List α) (x:α):vh w (l++[x])=vh w l+w x:=by simp [vh]
theorem jdg {α:Type} {rd:σ->α×σ} (w:α->Nat) (h:∀s,bd s=false->φ (rd s).2+w (rd s).1<=φ s):∀(n:Nat) (acc:List α) (s:σ),vh w (vt bd rd n (acc,s)).1+φ (vt bd rd n (acc,s)).2<=vh w acc+φ s
 |0,acc,s=>aPD _
 |n+1,acc,s=>by
  rw [vt];split
  ·exact aPD _
  ·rename_i hb
   have h1:=jdg w h n (acc++[(rd s).1]) (rd s).2;have h2:=h s (by cases hq:bd s with|false=>rfl|true=>exact absurd hq hb)
   rw [jo4] at h1;dsimp only at h1⊢;omega
theorem jpq {α:Type} {rd:σ->α×σ} (w:α->Nat) (h:∀s,φ (rd s).2+w (rd s).1<=φ s):∀(n:Nat) (acc:List α) (s:σ),vh w (jas rd n (acc,s)).1+φ (jas rd n (acc,s)).2<=vh w acc+φ s
 |0,acc,s=>aPD _
 |n+1,acc,s=>by
  rw [jas];have h1:=jpq w h n (acc++[(rd s).1]) (rd s).2;have h2:=h s;rw [jo4] at h1;dsimp only at h1⊢;omega
theorem jj6 {α:Type}:∀l:List α,vh (λ_=>1) l=l.length
 |[]=>rfl
 |a::l=>by have:=jj6 l;simp [vh] at this⊢;omega
theorem jo5 {α:Type} (w:α->Nat):∀l:List α,vh (λx=>w x+1) l=l.length+vh w l
 |[]=>rfl
 |a::l=>by have:=jo5 w l;simp [vh] at this⊢;omega
theorem jpr {α:Type} {rd:σ->α×σ}:∀(n:Nat) (acc:List α) (s:σ),(jas rd n (acc,s)).1.length=acc.length+n
 |0,acc,s=>rfl
 |n+1,acc,s=>by rw [jas,jpr n];simp;omega
theorem Pot.nx2 (h:Pot nx bd sb φ) (s:σ):φ (nx (nx s).2).2<=φ s:=aQJ (h.le _) (h.le s)
theorem Pot.rdSh (h:Pot nx bd sb φ) (c:Option Int) (s:σ):φ (rdSh c nx bd sb s).2+zb (rdSh c nx bd sb s).1<=φ s:=by
 have h1:=jdg (rd:=jvp nx) (bd:=bd) (φ:=φ) (λ_=>1) (λs hs=>by
  have a1:=h.lt s hs;have a2:=h.nx2 (nx s).2;have a3:=h.le (nx (nx (nx s).2).2).2;simp only [jvp];omega) (nx s).1.toNat [] (jhW c sb (nx s).1 (nx s).2)
 have h2:=h.cap c (nx s).1 (nx s).2;have h3:=h.le s;rw [jj6] at h1;simp only [Go.Proofs.YtcehjhiglmifjaaGreat.rdSh,zb];have:vh (λ_:En=>1) []=0:=rfl
 omega
theorem Pot.rdPl (h:Pot nx bd sb φ) (c:Option Int) (s:σ):φ (rdPl c nx bd sb s).2+jf9 (rdPl c nx bd sb s).1<=φ s:=by
 have h1:=λn s=>jdg (rd:=jsN nx) (bd:=bd) (φ:=φ) (λ_=>1) (λs hs=>by
  have a1:=h.lt s hs;have a2:=h.le (nx s).2;simp only [jsN];omega) n [] s
 simp only [Go.Proofs.YtcehjhiglmifjaaGreat.rdPl,jf9];have h3:=h.nx2 s;have h4:=h.nx2 (nx (nx s).2).2;have h5:=h.le (nx (nx (nx (nx s).2).2).2).2;have h2:=h.cap c (nx (nx (nx (nx (nx s).2).2).2).2).1 (nx (nx (nx (nx (nx s).2).2).2).2).2;have dG:=h1 (nx (nx (nx (nx (nx s).2).2).2).2).1.toNat (jhW c sb (nx (nx (nx (nx (nx s).2).2).2).2).1 (nx (nx (nx (nx (nx s).2).2).2).2).2);rw [jj6] at dG;have:vh (λ_:Ed=>1) []=0:=rfl
 omega
theorem Pot.rdRn (h:Pot nx bd sb φ) (c c':Option Int) (s:σ) (hs:bd s=false):φ (rdRn c c' nx bd sb s).2+(qH (rdRn c c' nx bd sb s).1+1)<=φ s:=by
 have h1:=λn s=>jdg (rd:=jrh nx) (bd:=bd) (φ:=φ) (λ_=>1) (λs hs=>by
  have a1:=h.lt s hs;have a2:=h.nx2 (nx s).2;have a3:=h.le (nx (nx (nx s).2).2).2;simp only [jrh];omega) n [] s
 simp only [Go.Proofs.YtcehjhiglmifjaaGreat.rdRn,qH];have h3:=h.lt s hs;have h4:=h.rdPl c (nx s).2;generalize Go.Proofs.YtcehjhiglmifjaaGreat.rdPl c nx bd sb (nx s).2=p at*;have h5:=h.le p.2;have h2:=h.cap c' p.1.aOD (nx p.2).2;have dG:=h1 p.1.aOD.toNat (jhW c' sb p.1.aOD (nx p.2).2);rw [jj6] at dG;have:vh (λ_:Tk=>1) []=0:=rfl
 omega
theorem Pot.aOH (h:Pot nx bd sb φ) (c c':Option Int) (n:Nat) (s:σ):jaQ (vt bd (Go.Proofs.YtcehjhiglmifjaaGreat.rdRn c c' nx bd sb) n ([],s)).1+φ (vt bd (Go.Proofs.YtcehjhiglmifjaaGreat.rdRn c c' nx bd sb) n ([],s)).2<=φ s:=by
 have:=jdg (bd:=bd) (φ:=φ) (rd:=Go.Proofs.YtcehjhiglmifjaaGreat.rdRn c c' nx bd sb) (λr=>qH r+1) (λs hs=>h.rdRn c c' s hs) n [] s
 rw [jo5] at this;have e:vh (λr:Rn=>qH r+1) []=0:=rfl
 simp only [jaQ];omega
theorem Pot.rdYI (h:Pot nx bd sb φ) (s:σ):jB (rdYI nx bd sb s).1+φ (rdYI nx bd sb s).2<=φ s+4:=by
 have h1:=h.nx2 s;have h2:=jpq (φ:=φ) (rd:=Go.Proofs.YtcehjhiglmifjaaGreat.rdSh none nx bd sb) zb (λs=>h.rdSh none s) 4 [] (nx (nx s).2).2
 have h3:=jpr (rd:=Go.Proofs.YtcehjhiglmifjaaGreat.rdSh none nx bd sb) 4 [] (nx (nx s).2).2;simp only [Go.Proofs.YtcehjhiglmifjaaGreat.rdYI,jB,jbG];generalize jas (Go.Proofs.YtcehjhiglmifjaaGreat.rdSh none nx bd sb) 4 ([],(nx (nx s).2).2)=S at*;have h4:=h.le S.2;have h5:=h.aOH none none (nx S.2).1.toNat (nx S.2).2;have e:vh zb []=0:=rfl;simp at h3;omega
end
def jw2 (L:List Int) (s:Nat×Bool):Nat:=L.length-s.1+if s.2 then 0 else 1
theorem pot_L (L:List Int):Pot (jai L) (·.2) (λs=>(s.1,true)) (jw2 L):=by
 refine ⟨λs=>?_,λs hs=>?_,λs=>?_⟩
 ·unfold jai jw2
  split
  ·dsimp only;omega
  ·dsimp only;simp
 ·obtain ⟨k,b⟩:=s
  dsimp only at hs;subst hs;unfold jai jw2;split
  ·rename_i v hv
   have:=(aOS.1 hv).1;simp at this⊢;omega
  ·simp
 ·unfold jw2;simp
theorem jv8:∀(f:Nat) (l:List UInt8) (L:List Int),rvF f l=some L->L.length<=l.length
 |0,[],L,h=>by simp [rvF] at h;subst h;simp
 |_+1,[],L,h=>by simp [rvF] at h;subst h;simp
 |0,_::_,L,h=>by simp [rvF] at h
 |f+1,b::l,L,h=>by
  simp only [rvF] at h;cases hv:jf8 (b::l) with
  |none=>rw [hv] at h;simp at h
  |some p=>
   obtain ⟨v,k⟩:=p;rw [hv] at h;simp only [Option.map_eq_some_iff] at h;obtain ⟨r,h1,rfl⟩:=h;have h2:=jv8 f _ _ h1;have h3:=jvE hv;rw [aPN] at h2;simp only [aPI] at*;omega
theorem jBr (a b:ByteArray):(a.toList==b.toList)=decide (a=b):=by
 rw [ByteArray.toList_eq,ByteArray.toList_eq,Bool.eq_iff_iff,aQW,decide_eq_true_iff];constructor
 ·intro h;cases a;cases b;congr 1;exact Array.toList_inj.1 h
 ·rintro rfl;rfl
theorem jDR (L:List Int):jB (nI L).1<=L.length+5:=by
 have:=(pot_L L).rdYI (0,false);simp only [jw2] at this;unfold nI;simp at this;omega
abbrev DdR (b ty:Nat) (d:Dd) (η:jg):Ob:=.box b ty [.a (.v (.int .i64 d.aON)),.a (.v (.int .i64 d.run)),.a (.v (.int .i64 d.aOF.aOL)),.a (.v (.int .i64 d.aOF.aOQ)),.a (.v (.int .i64 d.aOF.aOP)),.a (.v (.int .i64 d.aOF.aOD)),.own (jn d.aOF.aOI) η,.a (.v (.int .i64 d.aOK)),.a (.v (.int .i64 d.tri)),.a (.v (.int .i64 d.aOJ)),.a (.v (.int .i64 d.aOM))]
abbrev DdAV (d:Dd) (g:Nat) (e:jg):AV:=.agg [.v (.int .i64 d.aON),.v (.int .i64 d.run),.v (.int .i64 d.aOF.aOL),.v (.int .i64 d.aOF.aOQ),.v (.int .i64 d.aOF.aOP),.v (.int .i64 d.aOF.aOD),.h g 6 [] (e []),.v (.int .i64 d.aOK),.v (.int .i64 d.tri),.v (.int .i64 d.aOJ),.v (.int .i64 d.aOM)]
def jeZ:C:=iS [iA 3 (.box 27 4 (.t 1)),iA 4 wAS] (iS [aM 12 0,iA 13 (.call 60 [.t 12,oI 20]),aM 5 13] (.seq (.blk 0 (iS [aM 15 5,aQ 16 .lss 3 15 6,aM 14 16] (iD 14 (iS [aM 17 0,iA 18 (.call 60 [.t 17,oI 8]),aM 19 0,iA 20 (.call 60 [.t 19,oI 7]),iA 21 (wAV [(0,1,oI 2),(9,1,.t 18),(10,1,.t 20)]),wAG 4 21] .ret) (iS [aM 23 5,aQ 24 .lss 3 23 10,aM 22 24] (iD 22 (iS [aM 25 0,iA 26 (.call 60 [.t 25,oI 9]),iA 27 (.bin .add 3 (oI 1) (.t 26)),aM 28 0,iA 29 (iK 108 [28]),iA 30 (wAV [(0,1,oI 1),(1,1,.t 27),(2,5,.t 29)]),wAG 4 30] .ret) (iS [aM 32 5,aQ 33 .lss 3 32 15,aM 31 33] (iD 31 (iS [aM 35 0,aT 36 4 3,iA 37 (iK 184 [35,36]),aM 34 37,aE 38 34 0,aE 39 34 1,aE 40 34 2,aM 6 38,aM 7 39,aM 8 40] (iS [aM 41 6,aM 42 7,iA 43 (.call 134 [.t 42,oI 0,oI 99]),aM 44 8,iA 45 (.call 134 [.t 44,oI 0,oI 99]),iA 46 (wAV [(0,1,oI 3),(1,1,.t 41),(7,1,.t 43),(8,1,.t 45)]),wAG 4 46] .ret)) (iS [aM 48 5,aQ 49 .eql 3 48 15,aM 47 49] (iD 47 (iS [aM 51 0,aT 52 4 3,iA 53 (iK 184 [51,52]),aM 50 53,aE 54 50 0,aE 55 50 1,aE 56 50 2,aM 9 54,aM 10 55,aM 11 56] (iS [aM 57 9,aM 58 10,iA 59 (.call 134 [.t 58,oI 0,oI 99]),aM 60 11,iA 61 (.call 134 [.t 60,oI 0,oI 99]),iA 62 (wAV [(0,1,oI 4),(1,1,.t 57),(7,1,.t 59),(8,1,.t 61)]),wAG 4 62] .ret)) (iS [aM 64 5,aQ 65 .eql 3 64 16,aM 63 65] (iD 63 (iS [iA 66 (wAV [(0,1,oI 5)]),wAG 4 66] .ret) (iS [aM 68 5,aQ 69 .eql 3 68 17,aM 67 69] (iD 67 (iS [aM 70 0,iA 71 (.call 60 [.t 70,oI 9]),iA 72 (.bin .add 3 (oI 1) (.t 71)),iA 73 (wAV [(0,1,oI 6),(1,1,.t 72)]),wAG 4 73] .ret) (iS [aM 75 5,aQ 76 .eql 3 75 18,aM 74 76] (iD 74 (iS [aM 77 0,iA 78 (.call 60 [.t 77,oI 9]),iA 79 (.bin .add 3 (oI 1) (.t 78)),iA 80 (wAV [(0,1,oI 7),(1,1,.t 79)]),wAG 4 80] .ret) .skip))))))))))))))) (.seq (iS [aM 81 0,iA 82 (.call 160 [.t 81,oI 3])] (iD 82 (iS [iA 83 (wAV [(0,1,oI 8)]),wAG 4 83] .ret) .skip)) (iS [iA 84 (wAV [(0,1,oI 5)]),wAG 4 84] .ret))))
theorem jio:fnC Tryz.prog Tryz.f142=some (jeZ,[.cell 4 true 11],85):=by kernel_rfl
theorem jzR (c:List UInt8) (hc:c.length<=1048576) (y:Yd) (hy:YdI y) (s:Cu) (b:Nat) (o:Nat->Ob) (f2 f3:jg) (hs:s.1<=c.length) (ho:o 89=qo b 146 c s) (pX:o 86=.none) (tV:o 94=.loose (ke y.aOE) f2) (nJ:o 95=.loose (jG y.aOH) f3):
 Inl Tryz.prog 142 [Bx 89 b,YdHs y (f2 []) (f3 [])] o λav o2=>∃(e:jg) (b4:Nat),av=DdAV (qB c y s).1 700000400 e/\o2 700000400=DdR b4 60 (qB c y s).1 e/\o2 89=qo b 146 c (qB c y s).2/\∀g,g<700000000->g≠86->g≠89->o2 g=o g:=by
 refine jle (β:=7000000) [[1,1,0,0,1,0,1],[1,1,0,0,1,1,1,0,1],[1,1,0,0,1,1,1,1,1,0,1,1],[1,1,0,0,1,1,1,1,1,1,1,0,1,1],[1,1,0,0,1,1,1,1,1,1,1,1,1,0,1],[1,1,0,0,1,1,1,1,1,1,1,1,1,1,1,0,1],[1,1,0,0,1,1,1,1,1,1,1,1,1,1,1,1,1,0,1],[1,1,1,0,1,0,1],[1,1,1,1,1]] Tryz.func142 jio (by simp) ?_
 unfold jeZ;simp only [C.ghs,C.ghAt,List.foldr];simp only [go_sem];intro b3 b4;refine jv (kq c hc 20 s b _ hs (by simp only [go_sem,ho])) (by simp only [go_sem]) ?_
 have s1:=jo (n:=20) hs;have x1:=jP c (n:=20) s (by omega)
 generalize gK:jh c 20 s=q1 at*;by_cases c1:q1.1<6
 ·simp only [go_sem,c1]
  refine jv (kq c hc 8 q1.2 b _ s1 (by simp only [go_sem])) (by simp only [go_sem]) ?_
  have s2:=jo (n:=8) s1;have x2:=jP c (n:=8) q1.2 (by omega)
  generalize gS:jh c 8 q1.2=q2 at*;simp only [go_sem];refine jv (kq c hc 7 q2.2 b _ s2 (by simp only [go_sem])) (by simp only [go_sem]) ?_
  have s3:=jo (n:=7) s2;have x3:=jP c (n:=7) q2.2 (by omega)
  generalize s7:jh c 7 q2.2=q3 at*;have hd:qB c y s=(⟨2,0,plZ,0,0,q2.1,q3.1⟩,q3.2):=by simp only [qB,gK,if_pos c1,gS,s7]
  rw [hd];simp only [go_sem];refine ky ?_;refine WkK.wk (s':=St.ofB [(4,Bx 700000400 b4)] [(700000400,DdR b4 60 ⟨2,0,plZ,0,0,q2.1,q3.1⟩ jcb)] 700000000 (λj=>if j=89 then qo b 146 c q3.2 else o j)) (kO [some 700000400] (by simp only [go_sem]<;>trivial) (λj hj=>by by_cases e89:j=89<;>simp only [go_sem,e89,jV hj 700000400 (by omega),jV hj 700000300 (by omega)]) (by decide)) ?_
  refine WkK.of ?_;simp only [go_sem];exact ⟨jcb,b4,rfl,rfl,λg g1 g2 g3=>by simp only [g1,g3,jV g1 700000400 (by omega),if_true,if_false]⟩
 by_cases c2:q1.1<10
 ·simp only [go_sem,c1,c2]
  refine jv (kq c hc 9 q1.2 b _ s1 (by simp only [go_sem])) (by simp only [go_sem]) ?_
  have s2:=jo (n:=9) s1;have x2:=jP c (n:=9) q1.2 (by omega)
  generalize gS:jh c 9 q1.2=q2 at*;have w2:IntKind.i64.wrap (1+q2.1)=1+q2.1:=zm;simp only [go_sem,w2];refine ku (by simp only [go_sem]) (jqb c hc q2.2 b _ s2 (by simp only [go_sem]) (by simp only [go_sem,pX])) λav o' ⟨e,g8,bA,o1,o2,hk⟩=>?_
  subst g8;have k4:=hk 700000400 (by decide) (by decide) (by decide)
  have kall:∀g,g<700000000->o' g=if g=89 then qo b 146 c (jbZ c q2.2).2 else if g=86 then .loose (jn (jbZ c q2.2).1.aOI) e else o g:=λg hg=>by
   by_cases h1:g=89
   ·subst h1;rw [o2];rfl
   ·by_cases h2:g=86
    ·subst h2;rw [o1];rfl
    ·rw [hk g (by omega) h2 h1,if_neg h1,if_neg h2]
     simp only [go_sem,h1,jV hg 700000300 (by omega),jV hg 700000400 (by omega)]
  simp only [go_sem] at k4;have hd:qB c y s=(⟨1,1+q2.1,(jbZ c q2.2).1,0,0,0,0⟩,(jbZ c q2.2).2):=by simp only [qB,gK,if_neg c1,if_pos c2,gS]
  rw [hd];generalize jbZ c q2.2=p at*;simp only [go_sem,k4,bA];refine ky ?_;refine WkK.wk (s':=St.ofB [(4,Bx 700000400 b4)] [(700000400,.box b4 60 [.a (.v (.int .i64 1)),.a (.v (.int .i64 (1+q2.1))),.a (.v (.int .i64 p.1.aOL)),.a (.v (.int .i64 p.1.aOQ)),.a (.v (.int .i64 p.1.aOP)),.a (.v (.int .i64 p.1.aOD)),.a (.v (e [])),.a (.v (.int .i64 0)),.a (.v (.int .i64 0)),.a (.v (.int .i64 0)),.a (.v (.int .i64 0))])] 700000000 (λj=>if j=89 then qo b 146 c p.2 else if j=86 then .loose (jn p.1.aOI) e else o j)) (kO [some 700000400] (by simp only [go_sem]<;>trivial) (λj hj=>by by_cases e89:j=89<;>by_cases e86:j=86<;>simp only [go_sem,e89,e86,hj,jV hj 700000400 (by omega),kall]) (by decide)) ?_
  refine qx 700000400 6 86 (d:=jn p.1.aOI) (η:=e) rfl rfl rfl ?_;refine WkK.of ?_;simp only [go_sem];exact ⟨e,b4,rfl,rfl,λg g1 g2 g3=>by simp only [g1,g2,g3,jV g1 700000400 (by omega),if_true,if_false]⟩
 by_cases c3:q1.1<15
 ·simp only [go_sem,c1,c2,c3]
  refine ku (by simp only [go_sem]) (jtc c hc y hy q1.2 b _ f2 f3 s1 (by simp only [go_sem]) (by simp only [go_sem,tV]) (by simp only [go_sem,nJ])) λav o' ⟨g8,o2,hk⟩=>?_
  subst g8;have k4:=hk 700000400 (by decide) (by decide)
  have kall:∀g,g<700000000->o' g=if g=89 then qo b 146 c (qF c y q1.2).2 else o g:=λg hg=>by
   by_cases h1:g=89
   ·subst h1;rw [o2];rfl
   ·rw [hk g (by omega) h1,if_neg h1]
    simp only [go_sem,h1,jV hg 700000300 (by omega),jV hg 700000400 (by omega)]
  simp only [go_sem] at k4;simp only [go_sem];refine jk (vM (qF c y q1.2).1.2.1 0 99) λη=>?_
  simp only [go_sem];refine jk (vM (qF c y q1.2).1.2.2 0 99) λη=>?_
  simp only [go_sem];have hd:qB c y s=(⟨3,(qF c y q1.2).1.1,plZ,brI (qF c y q1.2).1.2.1 0 99,brI (qF c y q1.2).1.2.2 0 99,0,0⟩,(qF c y q1.2).2):=by simp only [qB,gK,if_neg c1,if_neg c2,if_pos c3]
  rw [hd];simp only [go_sem,k4];refine ky ?_;refine WkK.wk (s':=St.ofB [(4,Bx 700000400 b4)] [(700000400,DdR b4 60 ⟨3,(qF c y q1.2).1.1,plZ,brI (qF c y q1.2).1.2.1 0 99,brI (qF c y q1.2).1.2.2 0 99,0,0⟩ jcb)] 700000000 (λj=>if j=89 then qo b 146 c (qF c y q1.2).2 else o j)) (kO [some 700000400] (by simp only [go_sem]<;>trivial) (λj hj=>by by_cases e89:j=89<;>simp only [go_sem,e89,hj,jV hj 700000400 (by omega),kall]) (by decide)) ?_
  refine WkK.of ?_;simp only [go_sem];exact ⟨jcb,b4,rfl,rfl,λg g1 g2 g3=>by simp only [g1,g3,jV g1 700000400 (by omega),if_true,if_false]⟩
 by_cases c4:q1.1=15
 ·have b4':(q1.1==15)=true:=by simp [c4]
  simp only [go_sem,c1,c2,c3,b4'];refine ku (by simp only [go_sem]) (jtc c hc y hy q1.2 b _ f2 f3 s1 (by simp only [go_sem]) (by simp only [go_sem,tV]) (by simp only [go_sem,nJ])) λav o' ⟨g8,o2,hk⟩=>?_
  subst g8;have k4:=hk 700000400 (by decide) (by decide)
  have kall:∀g,g<700000000->o' g=if g=89 then qo b 146 c (qF c y q1.2).2 else o g:=λg hg=>by
   by_cases h1:g=89
   ·subst h1;rw [o2];rfl
   ·rw [hk g (by omega) h1,if_neg h1]
    simp only [go_sem,h1,jV hg 700000300 (by omega),jV hg 700000400 (by omega)]
  simp only [go_sem] at k4;simp only [go_sem];refine jk (vM (qF c y q1.2).1.2.1 0 99) λη=>?_
  simp only [go_sem];refine jk (vM (qF c y q1.2).1.2.2 0 99) λη=>?_
  simp only [go_sem];have hd:qB c y s=(⟨4,(qF c y q1.2).1.1,plZ,brI (qF c y q1.2).1.2.1 0 99,brI (qF c y q1.2).1.2.2 0 99,0,0⟩,(qF c y q1.2).2):=by simp only [qB,gK,if_neg c1,if_neg c2,if_neg c3,if_pos c4]
  rw [hd];simp only [go_sem,k4];refine ky ?_;refine WkK.wk (s':=St.ofB [(4,Bx 700000400 b4)] [(700000400,DdR b4 60 ⟨4,(qF c y q1.2).1.1,plZ,brI (qF c y q1.2).1.2.1 0 99,brI (qF c y q1.2).1.2.2 0 99,0,0⟩ jcb)] 700000000 (λj=>if j=89 then qo b 146 c (qF c y q1.2).2 else o j)) (kO [some 700000400] (by simp only [go_sem]<;>trivial) (λj hj=>by by_cases e89:j=89<;>simp only [go_sem,e89,hj,jV hj 700000400 (by omega),kall]) (by decide)) ?_
  refine WkK.of ?_;simp only [go_sem];exact ⟨jcb,b4,rfl,rfl,λg g1 g2 g3=>by simp only [g1,g3,jV g1 700000400 (by omega),if_true,if_false]⟩
 have b4':(q1.1==15)=false:=by simp [c4]
 by_cases c5:q1.1=16
 ·have b5':(q1.1==16)=true:=by simp [c5]
  have hd:qB c y s=(⟨5,0,plZ,0,0,0,0⟩,q1.2):=by simp only [qB,gK,if_neg c1,if_neg c2,if_neg c3,if_neg c4,if_pos c5]
  rw [hd];simp only [go_sem,c1,c2,c3,b4',b5'];refine ky ?_;refine WkK.wk (s':=St.ofB [(4,Bx 700000400 b4)] [(700000400,DdR b4 60 ⟨5,0,plZ,0,0,0,0⟩ jcb)] 700000000 (λj=>if j=89 then qo b 146 c q1.2 else o j)) (kO [some 700000400] (by simp only [go_sem]<;>trivial) (λj hj=>by by_cases e89:j=89<;>simp only [go_sem,e89,jV hj 700000400 (by omega),jV hj 700000300 (by omega)]) (by decide)) ?_
  refine WkK.of ?_;simp only [go_sem];exact ⟨jcb,b4,rfl,rfl,λg g1 g2 g3=>by simp only [g1,g3,jV g1 700000400 (by omega),if_true,if_false]⟩
 have b5':(q1.1==16)=false:=by simp [c5]
 by_cases c6:q1.1=17
 ·have b6':(q1.1==17)=true:=by simp [c6]
  simp only [go_sem,c1,c2,c3,b4',b5',b6'];refine jv (kq c hc 9 q1.2 b _ s1 (by simp only [go_sem])) (by simp only [go_sem]) ?_
  have s2:=jo (n:=9) s1;have x2:=jP c (n:=9) q1.2 (by omega)
  generalize gS:jh c 9 q1.2=q2 at*;have w2:IntKind.i64.wrap (1+q2.1)=1+q2.1:=zm;have hd:qB c y s=(⟨6,1+q2.1,plZ,0,0,0,0⟩,q2.2):=by simp only [qB,gK,if_neg c1,if_neg c2,if_neg c3,if_neg c4,if_neg c5,if_pos c6,gS]
  rw [hd];simp only [go_sem,w2];refine ky ?_;refine WkK.wk (s':=St.ofB [(4,Bx 700000400 b4)] [(700000400,DdR b4 60 ⟨6,1+q2.1,plZ,0,0,0,0⟩ jcb)] 700000000 (λj=>if j=89 then qo b 146 c q2.2 else o j)) (kO [some 700000400] (by simp only [go_sem]<;>trivial) (λj hj=>by by_cases e89:j=89<;>simp only [go_sem,e89,jV hj 700000400 (by omega),jV hj 700000300 (by omega)]) (by decide)) ?_
  refine WkK.of ?_;simp only [go_sem];exact ⟨jcb,b4,rfl,rfl,λg g1 g2 g3=>by simp only [g1,g3,jV g1 700000400 (by omega),if_true,if_false]⟩
 have b6':(q1.1==17)=false:=by simp [c6]
 by_cases c7:q1.1=18
 ·have b7':(q1.1==18)=true:=by simp [c7]
  simp only [go_sem,c1,c2,c3,b4',b5',b6',b7'];refine jv (kq c hc 9 q1.2 b _ s1 (by simp only [go_sem])) (by simp only [go_sem]) ?_
  have s2:=jo (n:=9) s1;have x2:=jP c (n:=9) q1.2 (by omega)
  generalize gS:jh c 9 q1.2=q2 at*;have w2:IntKind.i64.wrap (1+q2.1)=1+q2.1:=zm;have hd:qB c y s=(⟨7,1+q2.1,plZ,0,0,0,0⟩,q2.2):=by simp only [qB,gK,if_neg c1,if_neg c2,if_neg c3,if_neg c4,if_neg c5,if_neg c6,if_pos c7,gS]
  rw [hd];simp only [go_sem,w2];refine ky ?_;refine WkK.wk (s':=St.ofB [(4,Bx 700000400 b4)] [(700000400,DdR b4 60 ⟨7,1+q2.1,plZ,0,0,0,0⟩ jcb)] 700000000 (λj=>if j=89 then qo b 146 c q2.2 else o j)) (kO [some 700000400] (by simp only [go_sem]<;>trivial) (λj hj=>by by_cases e89:j=89<;>simp only [go_sem,e89,jV hj 700000400 (by omega),jV hj 700000300 (by omega)]) (by decide)) ?_
  refine WkK.of ?_;simp only [go_sem];exact ⟨jcb,b4,rfl,rfl,λg g1 g2 g3=>by simp only [g1,g3,jV g1 700000400 (by omega),if_true,if_false]⟩
 have b7':(q1.1==18)=false:=by simp [c7]
 simp only [go_sem,c1,c2,c3,b4',b5',b6',b7'];refine jv (jkg c hc 3 q1.2 b _ s1 (by simp only [go_sem])) (by simp only [go_sem]) ?_
 have s2:=jo (n:=3) s1;generalize gS:jh c 3 q1.2=q2 at*;by_cases c8:q2.1=0
 ·have b8':(q2.1==0)=true:=by simp [c8]
  have hd:qB c y s=(⟨8,0,plZ,0,0,0,0⟩,q2.2):=by simp only [qB,gK,if_neg c1,if_neg c2,if_neg c3,if_neg c4,if_neg c5,if_neg c6,if_neg c7,gS,if_pos c8]
  rw [hd];simp only [go_sem,b8'];refine ky ?_;refine WkK.wk (s':=St.ofB [(4,Bx 700000400 b4)] [(700000400,DdR b4 60 ⟨8,0,plZ,0,0,0,0⟩ jcb)] 700000000 (λj=>if j=89 then qo b 146 c q2.2 else o j)) (kO [some 700000400] (by simp only [go_sem]<;>trivial) (λj hj=>by by_cases e89:j=89<;>simp only [go_sem,e89,jV hj 700000400 (by omega),jV hj 700000300 (by omega)]) (by decide)) ?_
  refine WkK.of ?_;simp only [go_sem];exact ⟨jcb,b4,rfl,rfl,λg g1 g2 g3=>by simp only [g1,g3,jV g1 700000400 (by omega),if_true,if_false]⟩
 ·have b8':(q2.1==0)=false:=by simp [c8]
  have hd:qB c y s=(⟨5,0,plZ,0,0,0,0⟩,q2.2):=by simp only [qB,gK,if_neg c1,if_neg c2,if_neg c3,if_neg c4,if_neg c5,if_neg c6,if_neg c7,gS,if_neg c8]
  rw [hd];simp only [go_sem,b8'];refine ky ?_;refine WkK.wk (s':=St.ofB [(4,Bx 700000400 b4)] [(700000400,DdR b4 60 ⟨5,0,plZ,0,0,0,0⟩ jcb)] 700000000 (λj=>if j=89 then qo b 146 c q2.2 else o j)) (kO [some 700000400] (by simp only [go_sem]<;>trivial) (λj hj=>by by_cases e89:j=89<;>simp only [go_sem,e89,jV hj 700000400 (by omega),jV hj 700000300 (by omega)]) (by decide)) ?_
  refine WkK.of ?_;simp only [go_sem];exact ⟨jcb,b4,rfl,rfl,λg g1 g2 g3=>by simp only [g1,g3,jV g1 700000400 (by omega),if_true,if_false]⟩
theorem jkT:jZ Tryz.prog 33 [] (.agg (jb newYd)):=jwy ⟨_,Tryz.func33,by kernel_rfl,by kernel_rfl⟩ λw=>juc w
section
variable {s:St} {K:St->Prop}
theorem jBC {o':Nat->Ob} (h:jAy o' s.o) (hk:WkK ⟨s.t,o'⟩ K):WkK s K:=λB N w0 w a F hr=>by
 obtain ⟨F',h1,_⟩:=hr.less h;exact hk B N w0 w a F' h1
theorem jyE (g:Nat) (hk:WkK ⟨s.t,λj=>if j=g then .none else s.o j⟩ K):WkK s K:=jBC (λj=>by
 by_cases e:j=g
 ·rw [if_pos e];exact .inr rfl
 ·rw [if_neg e];exact .inl rfl) hk
theorem jCp {a n k g c b ty:Nat} {x:A0} {cs:List Cell} {K:AV->(Nat->Ob)->Prop} (ha:s.t a=.c x) (hn:s.t n=.c (.bp g c b)) (ho:s.o g=.box b ty cs) (hl:c+k<=cs.length) (h:K (.tup [(false,[x]),(true,jeu g c ((cs.drop c).take k))]) s.o):jvt [.t a,.cell n true k] K s:=by
 simp only [jvt,jjs,ha,hn];exact ⟨_,⟨ty,cs,ho,hl,rfl⟩,.inl trivial,h⟩
end
abbrev ddH (d:Dd) (x:Value):List D:=[.val (.int .i64 d.aON),.val (.int .i64 d.run),.val (.int .i64 d.aOF.aOL),.val (.int .i64 d.aOF.aOQ),.val (.int .i64 d.aOF.aOP),.val (.int .i64 d.aOF.aOD),js2 (some (2,tEd)) x,.val (.int .i64 d.aOK),.val (.int .i64 d.tri),.val (.int .i64 d.aOJ),.val (.int .i64 d.aOM)]
abbrev DdRH (b ty:Nat) (d:Dd) (x:Value):Ob:=.box b ty [.a (.v (.int .i64 d.aON)),.a (.v (.int .i64 d.run)),.a (.v (.int .i64 d.aOF.aOL)),.a (.v (.int .i64 d.aOF.aOQ)),.a (.v (.int .i64 d.aOF.aOP)),.a (.v (.int .i64 d.aOF.aOD)),.a (.v x),.a (.v (.int .i64 d.aOK)),.a (.v (.int .i64 d.tri)),.a (.v (.int .i64 d.aOJ)),.a (.v (.int .i64 d.aOM))]
theorem joE (l:List Dd):(l.flatMap kN).length=l.length*11:=jD (enc:=kN) (size:=11) (λ_=>rfl) l
theorem jFR (l:List Dd) (row:List D) (j:Nat):(l.flatMap kN++row)[l.length*11+j]?=row[j]?:=by
 rw [aQF (by rw [joE];omega),joE,aQE]
theorem jDj (l:List Dd) (row:List D) (j:Nat) (d:D):(l.flatMap kN++row).set (l.length*11+j) d=l.flatMap kN++row.set j d:=by
 rw [aSC _ _ (by rw [joE];omega),joE,aQE]
theorem jxM (l:List Dd) (d:Dd):D.sl 11 tDd (l.flatMap kN++kN d)=jeV (l++[d]):=by simp [jeV]
def jdF:C:=iS [iA 4 (.mov (.c (.slice none 0 0))),iA 5 wAL] (iS [iA 10 (.call 33 []),iA 6 wAL,wAA 6 10] (iS [iA 11 (.bsl 60 11 0 [] []),aM 7 11] (.seq (iS [aN 8 0] (.blk 0 (.loop (.seq (iS [aM 12 8,aM 13 1,aP 14 .lss 3 12 13] (iD 14 .skip (.exit 0))) (.seq (.blk 1 (iS [aM 17 0,aT 18 4 6,iA 19 (iK 142 [17,18]),iA 9 wAS,wAG 9 19] (iS [aM 20 7,aT 21 11 9,iA 22 (.bsl 60 11 1 [none,none,none,none,none,none,some (2,161),none,none,none,none] [(0,11,.t 21)]),iA 23 (.app 60 11 104 (.t 20) (.t 22)),aM 7 23] (.reg [aT 25 4 6,aT 26 11 9,iA 27 (iK 95 [25,26]),aM 24 27,aE 28 24 0,aE 29 24 1,wAA 6 28])))) (.reg [aM 15 8,aQ 16 .add 3 15 1,aM 8 16])))))) (.seq (.dreg (tA 0 30 (iM 7) (tA 1 31 (iT 4 6) (tA 2 4 (iM 30) (.alt (wAA 5 31) [] .done .stop))))) .ret))))
theorem jgW:fnC Tryz.prog Tryz.f89=some (jdF,[.t 4,.cell 5 true 4],32):=by kernel_rfl
theorem jxg (c:List UInt8) (hc:c.length<=1048576) (m:Nat) (hm:m<=1000) (s:Cu) (b:Nat) (o:Nat->Ob) (hs:s.1<=c.length) (ho:o 89=qo b 146 c s) (pX:o 86=.none) (tV:o 94=.none) (nJ:o 95=.none):
 Inl Tryz.prog 89 [Bx 89 b,Ni m] o λav o2=>∃(e e2 e3:jg) (b5:Nat),av=.tup [(false,[.h 600000700 0 [] (e [])]),(true,[.v (.int .i64 (zg c m ([],newYd,s)).2.1.now),.v (.int .i64 (zg c m ([],newYd,s)).2.1.seq),.h 600000500 2 [] (e2 []),.h 600000500 3 [] (e3 [])])]/\o2 600000700=.loose (jeV (zg c m ([],newYd,s)).1) e/\
  o2 600000500=jX b5 tYd (zg c m ([],newYd,s)).2.1.now (zg c m ([],newYd,s)).2.1.seq (zg c m ([],newYd,s)).2.1.aOE e2 (zg c m ([],newYd,s)).2.1.aOH e3/\o2 89=qo b 146 c (zg c m ([],newYd,s)).2.2/\∀g,g<600000000->g≠89->o2 g=o g:=by
 refine jle (β:=6000000) [[1,1,1,0,1,0,0,1,0,0,0],[1,1,1,0,1,0,0,1,0,0,1],[1,1,1,0,1,0,0,1,0,0,1,1],[1,1,1,0,1,0,0,1,1],[1,1,1,1,0]] Tryz.func89 jgW (by simp) ?_
 unfold jdF;simp only [C.ghs,C.ghAt,List.foldr];simp only [go_sem];intro b5;refine jk jkT ληn=>?_
 simp only [go_sem,jb];intro b6 aBP;generalize hX:zg c m ([],newYd,s)=X at*;refine kh (λi:(Nat×(List Dd×Yd×Cu))×jg×jg×jg=>St.ofB [(0,Bx 89 b),(1,Ni m),(5,Bx 600000500 b5),(6,Bx 600000600 b6),(7,Hd 600000700 i.2.1),(8,Ni i.1.1)] [(600000500,ZYd b5 tYd),(600000600,jX b6 tYd i.1.2.2.1.now i.1.2.2.1.seq i.1.2.2.1.aOE i.2.2.1 i.1.2.2.1.aOH i.2.2.2),(600000700,.loose (jeV i.1.2.1) i.2.1)] 600000000 (λj=>if j=89 then qo b 146 c i.1.2.2.2 else if j=94 then .none else if j=95 then .none else if j=86 then .none else o j)) (λi=>i.1.1<=m/\DdsI c i.1.1 i.1.2/\X=zg c (m-i.1.1) i.1.2) (λi=>m-i.1.1) ((0,([],newYd,s)),aBP,ηn 2,ηn 3) (⟨aPP _,.start hs,hX.symm⟩) (kO [some 600000500,some 600000600,some 600001100] (by simp only [go_sem,jm1]<;>trivial) (λj hj=>by by_cases e89:j=89<;>by_cases e94:j=94<;>by_cases e95:j=95<;>by_cases e86:j=86<;>simp only [go_sem,e89,e94,e95,e86,jV hj 600000500 (by omega),jV hj 600000600 (by omega),jV hj 600001100 (by omega),jV hj 600001002 (by omega),jV hj 600001003 (by omega),jm1,ho,pX,tV,nJ]) (by decide)) ?_
 rintro ⟨⟨i,l,y,u⟩,e,e2,e3⟩ ⟨hi,hD,wR⟩;dsimp only at hi hD wR;by_cases aB:i<m;rotate_left
 ·have aA:¬(i:Int)<(m:Int):=by omega
  have h0:m-i=0:=by omega
  rw [h0,zg] at wR;subst wR;simp only [go_sem,aA];refine ky (WkK.of ?_);simp only [go_sem];refine jCp (x:=.h 600000700 0 [] (e [])) (g:=600000500) (c:=0) (b:=b5) (ty:=tYd) (cs:=[.a (.v (.int .i64 y.now)),.a (.v (.int .i64 y.seq)),.own (ke y.aOE) e2,.own (jG y.aOH) e3]) (by simp only [go_sem]) (by simp only [go_sem]) (by simp only [go_sem]) (by simp) ?_
  simp only [go_sem];refine ⟨e,e2,e3,b5,rfl,rfl,rfl,λg g1 g2=>?_⟩
  by_cases e94:g=94
  ·subst e94;simp only [go_sem,tV]
  by_cases e95:g=95
  ·subst e95;simp only [go_sem,nJ]
  by_cases e86:g=86
  ·subst e86;simp only [go_sem,pX]
  simp only [go_sem,g1,g2,e94,e95,e86,jV g1 600000500 (by omega),jV g1 600000600 (by omega)]
 have aA:(i:Int)<(m:Int):=by omega
 obtain ⟨f,hf⟩:∃f,m-i=f+1:=⟨m-i-1,by omega⟩
 rw [hf,zg] at wR;dsimp only at wR;have hDn:=hD.next;have fB:=hD.at_;have hyI:=hD.yd;have eR:=hD.len;have hdt:=jlu c y u;dsimp only at hDn fB hyI eR;have hyt:=(hyI.ok (by have:=hD.seq;dsimp only at this;omega)).small
 simp only [go_sem,aA];refine ky ?_;refine jfA 600000600 2 94 rfl rfl rfl (by decide) (Nat.zero_lt_succ 0) ?_
 refine jfA 600000600 3 95 rfl rfl rfl (by decide) (Nat.zero_lt_succ 7) ?_
 refine WkK.wk (s':=St.ofB [(0,Bx 89 b),(1,Ni m),(5,Bx 600000500 b5),(6,Bx 600000600 b6),(7,Hd 600000700 e),(8,Ni i)] [(600000500,ZYd b5 tYd),(600000600,.box b6 tYd [.a (.v (.int .i64 y.now)),.a (.v (.int .i64 y.seq)),.a (.hs 94 0 [] (e2 []) 1 0 y.aOE.length),.a (.hs 95 0 [] (e3 []) 8 0 y.aOH.length)]),(600000700,.loose (jeV l) e)] 600000000 (λj=>if j=89 then qo b 146 c u else if j=94 then .loose (ke y.aOE) e2 else if j=95 then .loose (jG y.aOH) e3 else if j=86 then .none else o j)) (kO [some 600000500,some 600000600,some 600000700] (by simp only [go_sem]<;>trivial) (λj hj=>by by_cases e89:j=89<;>by_cases e94:j=94<;>by_cases e95:j=95<;>by_cases e86:j=86<;>simp only [go_sem,e89,e94,e95,e86,hj,jV hj 600000600 (by omega)]) (by decide)) ?_
 refine WkK.of ?_;simp only [go_sem];refine ku (by simp only [go_sem]) (jzR c hc y hyI u b _ e2 e3 fB (by simp only [go_sem]) (by simp only [go_sem]) (by simp only [go_sem]) (by simp only [go_sem])) λav o' ⟨ed,b4,g8,ho4,o2,hk⟩=>?_
 subst g8;have k5:=hk 600000500 (by decide) (by decide) (by decide)
 have k6:=hk 600000600 (by decide) (by decide) (by decide)
 have k7:=hk 600000700 (by decide) (by decide) (by decide)
 have kall:∀g,g<600000000->g≠86->o' g=if g=89 then qo b 146 c (qB c y u).2 else if g=94 then .loose (ke y.aOE) e2 else if g=95 then .loose (jG y.aOH) e3 else o g:=λg hg h2=>by
  by_cases h1:g=89
  ·subst h1;rw [o2];rfl
  ·rw [hk g (by omega) h2 h1,if_neg h1]
   simp only [go_sem,hg,h1,h2]
 simp only [go_sem] at k5 k6 k7;simp only [go_sem,ho4];intro b9;refine ky ?_;refine jyE 86 ?_;generalize hdd:(qB c y u).1=d at*;refine WkK.wk (s':=St.ofB [(0,Bx 89 b),(1,Ni m),(5,Bx 600000500 b5),(6,Bx 600000600 b6),(7,Hd 600000700 e),(8,Ni i),(9,Bx 600000900 b9)] [(600000500,ZYd b5 tYd),(600000600,.box b6 tYd [.a (.v (.int .i64 y.now)),.a (.v (.int .i64 y.seq)),.a (.hs 94 0 [] (e2 []) 1 0 y.aOE.length),.a (.hs 95 0 [] (e3 []) 8 0 y.aOH.length)]),(600000700,.loose (jeV l) e),(600000900,DdR b9 60 d ed)] 600000000 (λj=>if j=89 then qo b 146 c (qB c y u).2 else if j=94 then .loose (ke y.aOE) e2 else if j=95 then .loose (jG y.aOH) e3 else if j=86 then .none else o j)) (kO [some 600000500,some 600000600,some 600000700,some 600000900] (by simp only [go_sem,k5,k6,k7,ho4]<;>trivial) (λj hj=>by by_cases e89:j=89<;>by_cases e94:j=94<;>by_cases e95:j=95<;>by_cases e86:j=86<;>simp only [go_sem,e89,e94,e95,e86,hj,jV hj 600000900 (by omega),jV hj 700000400 (by omega),kall]) (by decide)) ?_
 refine qD 600000900 6 600090100 (d:=jn d.aOF.aOI) (η:=ed) (by simp only [go_sem]) (by simp only [go_sem]) (by decide) λhx6=>?_
 refine WkK.of ?_;have m1:l.length+1<=maxLen:=vT;have m2:(l.length+1)*104<=140737488355328:=by omega
 simp only [go_sem,hx6];intro aHX;refine jse (λfG=>St.ofB [(0,Bx 89 b),(1,Ni m),(5,Bx 600000500 b5),(6,Bx 600000600 b6),(7,Hd 600000700 fG),(8,Ni i),(9,Bx 600000900 b9)] [(600000500,ZYd b5 tYd),(600000600,.box b6 tYd [.a (.v (.int .i64 y.now)),.a (.v (.int .i64 y.seq)),.a (.hs 94 0 [] (e2 []) 1 0 y.aOE.length),.a (.hs 95 0 [] (e3 []) 8 0 y.aOH.length)]),(600000700,.loose (.sl 11 tDd (l.flatMap kN++ddH d (ed []))) fG),(600000900,DdRH b9 60 d (ed [])),(600090100,.loose (jn d.aOF.aOI) ed)] 600000000 (λj=>if j=89 then qo b 146 c (qB c y u).2 else if j=94 then .loose (ke y.aOE) e2 else if j=95 then .loose (jG y.aOH) e3 else if j=86 then .none else o j)) m1 m2 ?_ (λfG=>(kO [some 600000500,some 600000600,some 600002300,some 600000900,some 600090100] (by simp only [go_sem]<;>trivial) (λj hj=>by by_cases e89:j=89<;>by_cases e94:j=94<;>by_cases e95:j=95<;>by_cases e86:j=86<;>simp only [go_sem,e89,e94,e95,e86,hj,jV hj 600002300 (by omega),jV hj 600000900 (by omega),jV hj 600090100 (by omega),jV hj 600000700 (by omega),jV hj 600002200 (by omega)]) (by decide))) (λfG=>(kO [some 600000500,some 600000600,some 600002300,some 600000900,some 600090100] (by simp only [go_sem]<;>trivial) (λj hj=>by by_cases e89:j=89<;>by_cases e94:j=94<;>by_cases e95:j=95<;>by_cases e86:j=86<;>simp only [go_sem,e89,e94,e95,e86,hj,jV hj 600002300 (by omega),jV hj 600000900 (by omega),jV hj 600090100 (by omega),jV hj 600000700 (by omega),jV hj 600002200 (by omega)]) (by decide))) ?_
 ·simp only [jk5 _ hx6,jk6];rfl
 intro fG;refine jbD 600000600 2 94 (d:=ke y.aOE) (η:=e2) rfl rfl rfl rfl (ja0 _).symm rfl (Nat.zero_lt_succ 0) ?_;refine jbD 600000600 3 95 (d:=jG y.aOH) (η:=e3) rfl rfl rfl rfl (vF _).symm rfl (Nat.zero_lt_succ 7) ?_;refine qx 600000900 6 600090100 (d:=jn d.aOF.aOI) (η:=ed) rfl rfl rfl ?_;generalize rG:D.sl 11 tDd (l.flatMap kN++ddH d (ed []))=dR;refine WkK.wk (s':=St.ofB [(0,Bx 89 b),(1,Ni m),(5,Bx 600000500 b5),(6,Bx 600000600 b6),(7,Hd 600000700 fG),(8,Ni i),(9,Bx 600000900 b9)] [(600000500,ZYd b5 tYd),(600000600,jX b6 tYd y.now y.seq y.aOE e2 y.aOH e3),(600000700,.loose dR fG),(600000900,DdR b9 60 d ed)] 600000000 (λj=>if j=89 then qo b 146 c (qB c y u).2 else if j=94 then .none else if j=95 then .none else if j=86 then .none else o j)) (kO [some 600000500,some 600000600,some 600000700,some 600000900] (by simp only [go_sem]<;>trivial) (λj hj=>by by_cases e89:j=89<;>by_cases e94:j=94<;>by_cases e95:j=95<;>by_cases e86:j=86<;>simp only [go_sem,e89,e94,e95,e86,hj,jV hj 600000600 (by omega),jV hj 600000900 (by omega),jV hj 600090100 (by omega)]) (by decide)) ?_
 refine WkK.of ?_;simp only [go_sem];refine jk (jwH y d (by omega) (by simp only [jjr,jf9];omega)) λwH=>?_
 simp only [go_sem,jb,jex];generalize hy':doY y d=y' at*;refine ky ?_;subst rG;refine WkK.wk (s':=St.ofB [(0,Bx 89 b),(1,Ni m),(5,Bx 600000500 b5),(6,Bx 600000600 b6),(7,Hd 600000700 fG),(8,Ni i)] [(600000500,ZYd b5 tYd),(600000600,jX b6 tYd y'.now y'.seq y'.aOE (wH 2) y'.aOH (wH 3)),(600000700,.loose (.sl 11 tDd (l.flatMap kN++ddH d (ed []))) fG),(600000900,DdR b9 60 d ed)] 600000000 (λj=>if j=89 then qo b 146 c (qB c y u).2 else if j=94 then .none else if j=95 then .none else if j=86 then .none else o j)) (kO [some 600000500,some 600000600,some 600000700,some 600000900] (by simp only [go_sem]<;>trivial) (λj hj=>by by_cases e89:j=89<;>by_cases e94:j=94<;>by_cases e95:j=95<;>by_cases e86:j=86<;>simp only [go_sem,e89,e94,e95,e86,hj,jV hj 600000600 (by omega),jV hj 600002702 (by omega),jV hj 600002703 (by omega)]) (by decide)) ?_
 refine qD 600000900 6 600090100 (d:=jn d.aOF.aOI) (η:=ed) (by simp only [go_sem]) (by simp only [go_sem]) (by decide) λ_=>?_
 refine qL 600000700 0 (l.length*11+6) 600090100 (η:=fG) (aS:=ed) (cs:=d.aOF.aOI.flatMap kb) rfl (jFR _ _ 6) (.inr rfl) rfl (by decide) λeV hηA=>?_
 rw [jDj];refine WkK.of ?_;have lI:D.sl 11 tDd (l.flatMap kN++(ddH d (ed [])).set 6 (.sl 2 tEd (d.aOF.aOI.flatMap kb)))=jeV (l++[d]):=jxM l d;have hw:=kw i;simp only [go_sem,hw];exact ⟨((i+1,(l++[d],y',(qB c y u).2)),eV,wH 2,wH 3),⟨by dsimp only;omega,hDn,by rw [show m-(i+1)=f by omega];exact wR⟩,(kO [some 600000500,some 600000600,some 600000700] (by simp only [go_sem,hηA]<;>trivial) (λj hj=>by by_cases e89:j=89<;>by_cases e94:j=94<;>by_cases e95:j=95<;>by_cases e86:j=86<;>simp only [go_sem,e89,e94,e95,e86,hj,jV hj 600000700 (by omega),jV hj 600000900 (by omega),jV hj 600090100 (by omega)]) (by decide)),by (try dsimp only);omega⟩
def jDC (h:Int) (u:UInt8):Int:=jtO (IntKind.i64.wrap (IntKind.i64.wrap (IntKind.i64.wrap (h*131)+(u.toNat:Int))+7)) 1073741823
theorem jFc (c:List UInt8):jGf c=(c.take 4000).foldl jDC (94701+(c.length:Int)):=rfl
theorem jxr {α β:Type} {f:β->α->β} {l:List α} {k:Nat} {x:α} (h:l[k]?=some x) (a:β):(l.take (k+1)).foldl f a=f ((l.take k).foldl f a) x:=by
 rw [aPE,h,List.foldl_append];rfl
theorem jrP (c:List UInt8) (hc:c.length<=1048576) (o:Nat->Ob):Inl Tryz.prog 58 [.c (.ro (zE c))] o λav o2=>∃b,av=Bx 800003100 b/\o2 800003100=qo b 146 c (jni c)/\∀g,g<800000000->o2 g=o g:=by
 refine qm (β:=8000000) Tryz.func58 jjD (by simp) ?_
 unfold jho;have hw:IntKind.i64.wrap (94701+(c.length:Int))=94701+(c.length:Int):=zm;simp only [go_sem,ja1,hw];refine kh (λi:Nat=>St.ofB [(0,.c (.ro (zE c))),(3,Ni ((c.take i).foldl jDC (94701+(c.length:Int)))),(4,Ni i)] [] 800000000 (λj=>o j)) (λi=>i<=c.length/\i<=4000) (λi=>c.length-i) 0 (⟨aPP _,aPP _⟩) (kO [] (by simp only [go_sem,aQH,List.foldl_nil]<;>trivial) (λj hj=>by simp only [go_sem]) (by decide)) ?_
 rintro k ⟨hk,hk4⟩;by_cases aB:k<c.length;rotate_left
 ·have aA:¬(k:Int)<(c.length:Int):=by omega
  have hf:(c.take k).foldl jDC (94701+(c.length:Int))=jGf c:=by
   rw [jFc,aOW (by omega),aOW (by omega)]
  rw [hf];simp only [go_sem,ja1,aA]
  exact λb=>⟨b,rfl,rfl,λg hg=>by
   have dE:¬g=800003100:=by omega
   simp only [dE,hg,if_true,if_false]⟩
 have aA:(k:Int)<(c.length:Int):=by omega
 have bL:=qN k;by_cases hl4:k<4000;rotate_left
 ·have uM:¬(k:Int)<4000:=by omega
  have hf:(c.take k).foldl jDC (94701+(c.length:Int))=jGf c:=by
   rw [show k=4000 by omega,jFc]
  rw [hf];simp only [go_sem,ja1,aA,uM]
  exact λb=>⟨b,rfl,rfl,λg hg=>by
   have dE:¬g=800003100:=by omega
   simp only [dE,hg,if_true,if_false]⟩
 have uM:(k:Int)<4000:=by omega
 obtain ⟨u,hu⟩:=ja aB;have aJ:=jxr (f:=jDC) hu (94701+(c.length:Int));have gP:=kw k;simp only [go_sem,ja1,aA,uM,aB,bL,jnf hu,jxQ];exact qc (k+1) (kO [] (by simp only [go_sem,gP,aJ,jDC]<;>trivial) (λj hj=>by simp only [go_sem,hj,gP]) (by decide))
def jeX:C:=iS [iA 2 wAL] (iS [aM 6 0,aM 7 0,iA 8 (.call 60 [.t 7,oI 26]),iA 9 (iK 89 [6,8]),aM 5 9,aE 10 5 0,aE 11 5 1,iA 4 wAL,aM 3 10,wAA 4 11] (iS [aT 12 4 4,wAA 2 12] .ret))
theorem jim:fnC Tryz.prog Tryz.f57=some (jeX,[.cell 2 true 4],13):=by kernel_rfl
theorem jzP (c:List UInt8) (hc:c.length<=1048576) (s:Cu) (b:Nat) (o:Nat->Ob) (hs:s.1<=c.length) (ho:o 89=qo b 146 c s) (pX:o 86=.none) (tV:o 94=.none) (nJ:o 95=.none):
 Inl Tryz.prog 57 [Bx 89 b] o λav o2=>∃(e2 e3:jg) (b2:Nat),av=.agg [.v (.int .i64 (jlp c s).1.now),.v (.int .i64 (jlp c s).1.seq),.h 500000200 2 [] (e2 []),.h 500000200 3 [] (e3 [])]/\
  o2 500000200=jX b2 tYd (jlp c s).1.now (jlp c s).1.seq (jlp c s).1.aOE e2 (jlp c s).1.aOH e3/\∀g,g<500000000->g≠89->o2 g=o g:=by
 refine qm (β:=5000000) Tryz.func57 jim (by simp) ?_
 unfold jeX;simp only [go_sem];intro b2;refine jv (kq c hc 26 s b _ hs (by simp only [go_sem,ho])) (by simp only [go_sem]) ?_
 have s1:=jo (n:=26) hs;have x1:=jP c (n:=26) s (by omega)
 have hY:jlp c s=(zg c (jh c 26 s).1.toNat ([],newYd,(jh c 26 s).2)).2:=rfl;generalize gK:jh c 26 s=q1 at*;obtain ⟨m,hm⟩:∃m:Nat,q1.1=(m:Int):=⟨q1.1.toNat,by omega⟩
 rw [show q1.1.toNat=m by omega] at hY
 simp only [go_sem,hm];refine ku (by simp only [go_sem]) (jxg c hc m (by omega) q1.2 b _ s1 (by simp only [go_sem]) (by simp only [go_sem,pX]) (by simp only [go_sem,tV]) (by simp only [go_sem,nJ])) λav o' ⟨e,e2,e3,b5,g8,hl,hy,o2,hk⟩=>?_
 subst g8;have k2:=hk 500000200 (by decide) (by decide)
 simp only [go_sem] at k2;generalize hX:zg c m ([],newYd,q1.2)=X at*;simp only [go_sem,k2,hy];refine λb1=>⟨e2,e3,b2,by rw [hY],by rw [hY],λg g1 g2=>?_⟩
 simp only [jV g1 500000200 (by omega),jV g1 500000400 (by omega),jV g1 600000500 (by omega),if_false]
 rw [hk g (by omega) g2]
 simp only [go_sem,g2,jV g1 500000200 (by omega)]
def jdM:C:=iS [iA 2 wAL] (iS [aM 3 0,iA 4 (iK 58 [3]),iA 5 (iK 57 [4]),wAA 2 5] .ret)
theorem jg2:fnC Tryz.prog Tryz.f12=some (jdM,[.cell 2 true 4],6):=by kernel_rfl
theorem jaX (c:List UInt8) (hc:c.length<=1048576):jZ Tryz.prog 12 [.c (zE c)] (.agg (jb (jlp c (jni c)).1)):=by
 refine pf_ jg2 ?_;unfold jdM;simp only [go_sem];intro b2;have d9:(zE c).toRo=.ro (zE c):=rfl;rw [d9];refine ku (by simp only [go_sem]) (jrP c hc _) λav o' ⟨b,g8,ho,hk⟩=>?_
 subst g8;have k2:=hk 200 (by decide)
 simp only [go_sem] at k2;refine zP [some 800003100,some 200] [(89,qo b 146 c (jni c)),(200,ZYd b2 tYd)] [Bx 89 b] (by simp only [go_sem]<;>and_intros<;>rfl) (by simp only [go_sem]<;>and_intros<;>first|rfl|(rw [ho];exact of_eq_true (jN _))|(rw [k2];exact of_eq_true (jN _))) (jzP c hc (jni c) b _ (aPP _) rfl rfl rfl rfl) ?_
 rintro av o2 ⟨e2,e3,b3,g8,tH,oD⟩;subst g8;have q2:=oD 200 (by decide) (by decide)
 simp only [go_sem] at q2;generalize (jlp c (jni c)).1=y at*;simp only [go_sem,q2,tH,jb]
def jnn:C:=iS [aO 2 false] (iS [aM 3 0,aG 4 3,aQ 5 .gtr 3 4 1048576,aM 2 5] .ret)
theorem joI:fnC Tryz.prog Tryz.f11=some (jnn,[.t 2],6):=by kernel_rfl
theorem jCy (c:List UInt8):jZ Tryz.prog 11 [.c (zE c)] (.c (.val (.bool (decide ((1048576:Int)<(c.length:Int)))))):=by
 refine pf_ joI ?_;unfold jnn;have d9:(zE c).toRo=.ro (zE c):=rfl;simp only [go_sem,d9,ja1]
def jhy:C:=iS [aO 4 false] (.seq (iS [aN 5 0] (.blk 0 (.loop (.seq (iS [aM 6 5,aM 7 0,aG 8 7,aP 9 .lss 3 6 8] (iD 9 .skip (.exit 0))) (.seq (.blk 1 (iS [aM 12 0,aM 13 5,aI 14 1 12 13,aL 15 14,aM 16 1,aP 17 .eql 3 15 16] (iD 17 (iS [aO 4 true] .ret) .skip))) (.reg [aM 10 5,aQ 11 .add 3 10 1,aM 5 11])))))) (iS [aO 4 false] .ret))
theorem jjN:fnC Tryz.prog Tryz.f20=some (jhy,[.t 4],18):=by kernel_rfl
theorem jsW (xs:List Int) (v:Int) (hl:xs.length<=2000000):jZ Tryz.prog 20 [.c (jc xs),.c (.val (.int .i64 v))] (.c (.val (.bool (decide (v∈xs))))):=by
 refine pf_ jjN ?_;unfold jhy;simp only [go_sem];refine kh (λi:Nat=>St.of [(0,.c (.ro (jc xs))),(1,Ni v),(5,Ni i)] []) (λi=>i<=xs.length/\v∉xs.take i) (λi=>xs.length-i) 0 (⟨aPP _,by simp⟩) (vU [] (by simp only [go_sem]<;>trivial)) ?_
 rintro k ⟨hk,eA⟩;by_cases aB:k<xs.length;rotate_left
 ·have aA:¬(k:Int)<(xs.length:Int):=by omega
  rw [aOW (by omega)] at eA
  simp only [go_sem,aA,eA]
 have aA:(k:Int)<(xs.length:Int):=by omega
 obtain ⟨x,hx⟩:=ja aB;have hw:=kw k;by_cases e:x=v
 ·have cJ:v∈xs:=e▸aOT hx
  simp only [go_sem,aA,aB,qV hx,e,cJ,aQD]
 have aDA:v∉xs.take (k+1):=by
  rw [aPE,hx];simp [eA,Ne.symm e]
 have eb:(x==v)=false:=by simp [e]
 simp only [go_sem,aA,aB,qV hx,eb,hw];exact ⟨k+1,⟨by omega,aDA⟩,(vU [] (by simp only [go_sem]<;>trivial)),by (try dsimp only);omega⟩
def jbo:C:=iS [aO 4 false] (.seq (iS [aM 6 0,aG 7 6,aM 8 1,aG 9 8,aP 10 .neq 3 7 9] (iD 10 (iS [aO 4 false] .ret) .skip)) (.seq (iS [aN 5 0] (.blk 0 (.loop (.seq (iS [aM 11 5,aM 12 0,aG 13 12,aP 14 .lss 3 11 13] (iD 14 .skip (.exit 0))) (.seq (.blk 1 (.seq (.dreg (tA 0 17 (iM 0) (tA 1 18 (iM 5) (tA 2 19 (iI 4 17 18) (tA 3 20 (iT 4 19) (tA 4 21 (iM 1) (tA 5 22 (iM 5) (tA 6 23 (iI 4 21 22) (tA 7 24 (iT 4 23) (tA 8 25 (iP .neq 44 20 24) .done)))))))))) (iD 25 (iS [aO 4 false] .ret) .skip))) (.reg [aM 15 5,aQ 16 .add 3 15 1,aM 5 16])))))) (iS [aO 4 true] .ret)))
theorem jdz:fnC Tryz.prog Tryz.f136=some (jbo,[.t 4],26):=by kernel_rfl
theorem jwI (xs:List En) (hl:xs.length<=2000000):jZ Tryz.prog 136 [.c (jf xs),.c (jf xs)] (.c (.val (.bool true))):=by
 refine pf_ jdz ?_;unfold jbo;simp only [go_sem,jps,zU,aRI];refine kh (λi:Nat=>St.of [(0,.c (.ro (jf xs))),(1,.c (.ro (jf xs))),(5,Ni i)] []) (λi=>i<=xs.length) (λi=>xs.length-i) 0 ((aPP _)) (vU [] (by simp only [go_sem]<;>trivial)) ?_
 rintro k hk;by_cases aB:k<xs.length;rotate_left
 ·have aA:¬(k:Int)<(xs.length:Int):=by omega
  simp only [go_sem,aA,zU]
 have aA:(k:Int)<(xs.length:Int):=by omega
 obtain ⟨x,hx⟩:=ja aB;have hw:=kw k;simp only [go_sem,aA,aB,jU hx,zU,jj,hw];exact qc (k+1) (vU [] (by simp only [go_sem]<;>trivial))
def jcO:C:=iS [aO 4 false] (.seq (iS [aM 6 0,aG 7 6,aM 8 1,aG 9 8,aP 10 .neq 3 7 9] (iD 10 (iS [aO 4 false] .ret) .skip)) (.seq (iS [aN 5 0] (.blk 0 (.loop (.seq (iS [aM 11 5,aM 12 0,aG 13 12,aP 14 .lss 3 11 13] (iD 14 .skip (.exit 0))) (.seq (.blk 1 (.seq (.dreg (tA 0 17 (iM 0) (tA 1 18 (iM 5) (tA 2 19 (iI 2 17 18) (tA 3 20 (iT 2 19) (tA 4 21 (iM 1) (tA 5 22 (iM 5) (tA 6 23 (iI 2 21 22) (tA 7 24 (iT 2 23) (tA 8 25 (iP .neq 161 20 24) .done)))))))))) (iD 25 (iS [aO 4 false] .ret) .skip))) (.reg [aM 15 5,aQ 16 .add 3 15 1,aM 5 16])))))) (iS [aO 4 true] .ret)))
theorem jfV:fnC Tryz.prog Tryz.f198=some (jcO,[.t 4],26):=by kernel_rfl
theorem jpK (xs:List Ed) (hl:xs.length<=2000000):jZ Tryz.prog 198 [.c (jn xs),.c (jn xs)] (.c (.val (.bool true))):=by
 refine pf_ jfV ?_;unfold jcO;have d9:(jn xs).toRo=.ro (jn xs):=rfl;simp only [go_sem,d9,jel,aRI];refine kh (λi:Nat=>St.of [(0,.c (.ro (jn xs))),(1,.c (.ro (jn xs))),(5,Ni i)] []) (λi=>i<=xs.length) (λi=>xs.length-i) 0 ((aPP _)) (vU [] (by simp only [go_sem]<;>trivial)) ?_
 rintro k hk;by_cases aB:k<xs.length;rotate_left
 ·have aA:¬(k:Int)<(xs.length:Int):=by omega
  simp only [go_sem,aA,jel]
 have aA:(k:Int)<(xs.length:Int):=by omega
 obtain ⟨x,hx⟩:=ja aB;have hw:=kw k;simp only [go_sem,aA,aB,jE hx,jel,kb,hw];exact qc (k+1) (vU [] (by simp only [go_sem]<;>trivial))
def jcM:C:=iS [aO 4 false] (.seq (iS [aM 6 0,aG 7 6,aM 8 1,aG 9 8,aP 10 .neq 3 7 9] (iD 10 (iS [aO 4 false] .ret) .skip)) (.seq (iS [aN 5 0] (.blk 0 (.loop (.seq (iS [aM 11 5,aM 12 0,aG 13 12,aP 14 .lss 3 11 13] (iD 14 .skip (.exit 0))) (.seq (.blk 1 (.seq (.dreg (tA 0 17 (iM 0) (tA 1 18 (iM 5) (tA 2 19 (iI 4 17 18) (tA 3 20 (iT 4 19) (tA 4 21 (iM 1) (tA 5 22 (iM 5) (tA 6 23 (iI 4 21 22) (tA 7 24 (iT 4 23) (tA 8 25 (iP .neq 46 20 24) .done)))))))))) (iD 25 (iS [aO 4 false] .ret) .skip))) (.reg [aM 15 5,aQ 16 .add 3 15 1,aM 5 16])))))) (iS [aO 4 true] .ret)))
theorem jfT:fnC Tryz.prog Tryz.f182=some (jcM,[.t 4],26):=by kernel_rfl
theorem jpI (xs:List Tk) (hl:xs.length<=2000000):jZ Tryz.prog 182 [.c (ju xs),.c (ju xs)] (.c (.val (.bool true))):=by
 refine pf_ jfT ?_;unfold jcM;have d9:(ju xs).toRo=.ro (ju xs):=rfl;simp only [go_sem,d9,jek,aRI];refine kh (λi:Nat=>St.of [(0,.c (.ro (ju xs))),(1,.c (.ro (ju xs))),(5,Ni i)] []) (λi=>i<=xs.length) (λi=>xs.length-i) 0 ((aPP _)) (vU [] (by simp only [go_sem]<;>trivial)) ?_
 rintro k hk;by_cases aB:k<xs.length;rotate_left
 ·have aA:¬(k:Int)<(xs.length:Int):=by omega
  simp only [go_sem,aA,jek]
 have aA:(k:Int)<(xs.length:Int):=by omega
 obtain ⟨x,hx⟩:=ja aB;have hw:=kw k;simp only [go_sem,aA,aB,jL hx,jek,jz,hw];exact qc (k+1) (vU [] (by simp only [go_sem]<;>trivial))
def jdS:C:=iS [iA 2 (.box 49 5 (.t 0)),iA 3 (.box 49 5 (.t 1)),aO 4 false] (iS [aF 5 0 2,aL 6 5,aF 7 0 3,aL 8 7,aP 9 .eql 3 6 8,aM 10 9,iB 11 10 true (iF 1 2),iB 12 10 true (iL 11),iB 13 10 true (iF 1 3),iB 14 10 true (iL 13),iB 15 10 true (iP .eql 3 12 14),iA 16 (iY 10 (.t 15) (oF)),aM 17 16,iB 18 17 true (iF 2 2),iB 19 17 true (iL 18),iB 20 17 true (iF 2 3),iB 21 17 true (iL 20),iB 22 17 true (iP .eql 3 19 21),iA 23 (iY 17 (.t 22) (oF)),aM 24 23,iB 25 24 true (iF 3 2),iB 26 24 true (iL 25),iB 27 24 true (iF 3 3),iB 28 24 true (iL 27),iB 29 24 true (iP .eql 3 26 28),iA 30 (iY 24 (.t 29) (oF)),aM 31 30,iB 32 31 true (iF 4 2),iB 33 31 true (iL 32),iB 34 31 true (iF 4 3),iB 35 31 true (iL 34),iB 36 31 true (iK 198 [33,35]),iA 37 (iY 31 (.t 36) (oF)),aM 4 37] .ret)
theorem jg8:fnC Tryz.prog Tryz.f181=some (jdS,[.t 4],38):=by kernel_rfl
theorem jrr (p:Pl) (hl:p.aOI.length<=2000000):jZ Tryz.prog 181 [.agg (je p),.agg (je p)] (.c (.val (.bool true))):=by
 refine pf_ jg8 ?_;unfold jdS;simp only [go_sem,je,aQD];intro b2 b3;refine jk (jpK p.aOI hl) λeP=>?_
 simp only [go_sem]
def jfm:C:=iS [iA 2 (.box 52 8 (.t 0)),iA 3 (.box 52 8 (.t 1)),aO 4 false] (iS [aF 5 0 2,aL 6 5,aF 7 0 3,aL 8 7,aP 9 .eql 3 6 8,aM 10 9,iB 11 10 true (iF 1 2),iB 12 10 true (iT 5 11),iB 13 10 true (iF 1 3),iB 14 10 true (iT 5 13),iB 15 10 true (iK 181 [12,14]),iA 16 (iY 10 (.t 15) (oF)),aM 17 16,iB 18 17 true (iF 6 2),iB 19 17 true (iL 18),iB 20 17 true (iF 6 3),iB 21 17 true (iL 20),iB 22 17 true (iP .eql 3 19 21),iA 23 (iY 17 (.t 22) (oF)),aM 24 23,iB 25 24 true (iF 7 2),iB 26 24 true (iL 25),iB 27 24 true (iF 7 3),iB 28 24 true (iL 27),iB 29 24 true (iK 182 [26,28]),iA 30 (iY 24 (.t 29) (oF)),aM 4 30] .ret)
theorem jiL:fnC Tryz.prog Tryz.f137=some (jfm,[.t 4],31):=by kernel_rfl
theorem jus (r:Rn) (he:r.aOF.aOI.length<=2000000) (ht:r.aOD.length<=2000000):jZ Tryz.prog 137 [.agg (jd r),.agg (jd r)] (.c (.val (.bool true))):=by
 refine pf_ jiL ?_;unfold jfm;simp only [go_sem,jd,je,aQD];intro b2 b3;refine jk (jrr r.aOF he) λeP=>?_
 simp only [go_sem];simp only [go_sem,aQD];refine jk (jpI r.aOD ht) λdF=>?_
 simp only [go_sem]
def jdR:C:=iS [aO 4 false] (.seq (iS [aM 6 0,aG 7 6,aM 8 1,aG 9 8,aP 10 .neq 3 7 9] (iD 10 (iS [aO 4 false] .ret) .skip)) (.seq (iS [aN 5 0] (.blk 0 (.loop (.seq (iS [aM 11 5,aM 12 0,aG 13 12,aP 14 .lss 3 11 13] (iD 14 .skip (.exit 0))) (.seq (.blk 1 (.seq (.dreg (tA 0 17 (iM 0) (tA 1 18 (iM 5) (tA 2 19 (iI 8 17 18) (tA 3 20 (iT 8 19) (tA 4 21 (iM 1) (tA 5 22 (iM 5) (tA 6 23 (iI 8 21 22) (tA 7 24 (iT 8 23) (tC 25 (iK 137 [20,24]) [] (tA 9 26 (iU 25) .done) .stop)))))))))) (iD 26 (iS [aO 4 false] .ret) .skip))) (.reg [aM 15 5,aQ 16 .add 3 15 1,aM 5 16])))))) (iS [aO 4 true] .ret)))
theorem jg7:fnC Tryz.prog Tryz.f77=some (jdR,[.t 4],27):=by kernel_rfl
theorem jrq (xs:List Rn) (ht:jaQ xs<=2000000):jZ Tryz.prog 77 [.c (jG xs),.c (jG xs)] (.c (.val (.bool true))):=by
 refine pf_ jg7 ?_;unfold jdR;have eR:xs.length<=2000000:=aQJ (aSG _ _) ht;have d9:(jG xs).toRo=.ro (jG xs):=rfl;simp only [go_sem,d9,vF,aRI];refine kh (λi:Nat=>St.of [(0,.c (.ro (jG xs))),(1,.c (.ro (jG xs))),(5,Ni i)] []) (λi=>i<=xs.length) (λi=>xs.length-i) 0 ((aPP _)) (vU [] (by simp only [go_sem]<;>trivial)) ?_
 rintro k hk;by_cases aB:k<xs.length;rotate_left
 ·have aA:¬(k:Int)<(xs.length:Int):=by omega
  simp only [go_sem,aA,vF]
 have aA:(k:Int)<(xs.length:Int):=by omega
 obtain ⟨x,hx⟩:=ja aB;have hw:=kw k
 have bG:qH x<=2000000:=by
  have h1:=zp (tot:=qH) hx;have h2:=jaP qH xs (k+1);simp only [jaQ] at ht;omega
 simp only [go_sem,aA,aB,jR hx,vF,jd,je];refine jk (jus x (by simp only [qH,jf9] at bG;omega) (by simp only [qH,jf9] at bG;omega)) λeP=>?_
 simp only [go_sem];simp only [go_sem,hw];exact qc (k+1) (vU [] (by simp only [go_sem]<;>trivial))
def jcN:C:=iS [aO 4 false] (.seq (iS [aM 6 0,aG 7 6,aM 8 1,aG 9 8,aP 10 .neq 3 7 9] (iD 10 (iS [aO 4 false] .ret) .skip)) (.seq (iS [aN 5 0] (.blk 0 (.loop (.seq (iS [aM 11 5,aM 12 0,aG 13 12,aP 14 .lss 3 11 13] (iD 14 .skip (.exit 0))) (.seq (.blk 1 (.seq (.dreg (tA 0 17 (iM 0) (tA 1 18 (iM 5) (tA 2 19 (iI 1 17 18) (tA 3 20 (iL 19) (tA 4 21 (iM 1) (tA 5 22 (iM 5) (tA 6 23 (iI 1 21 22) (tA 7 24 (iL 23) (tC 25 (iK 136 [20,24]) [] (tA 9 26 (iU 25) .done) .stop)))))))))) (iD 26 (iS [aO 4 false] .ret) .skip))) (.reg [aM 15 5,aQ 16 .add 3 15 1,aM 5 16])))))) (iS [aO 4 true] .ret)))
theorem jfU:fnC Tryz.prog Tryz.f76=some (jcN,[.t 4],27):=by kernel_rfl
theorem jpJ (xs:List (List En)) (ht:jbG xs<=2000000):jZ Tryz.prog 76 [.c (ke xs),.c (ke xs)] (.c (.val (.bool true))):=by
 refine pf_ jfU ?_;unfold jcN;have eR:xs.length<=2000000:=aQJ (aSG _ _) ht;have d9:(ke xs).toRo=.ro (ke xs):=rfl;simp only [go_sem,d9,ja0,aRI];refine kh (λi:Nat=>St.of [(0,.c (.ro (ke xs))),(1,.c (.ro (ke xs))),(5,Ni i)] []) (λi=>i<=xs.length) (λi=>xs.length-i) 0 ((aPP _)) (vU [] (by simp only [go_sem]<;>trivial)) ?_
 rintro k hk;by_cases aB:k<xs.length;rotate_left
 ·have aA:¬(k:Int)<(xs.length:Int):=by omega
  simp only [go_sem,aA,ja0]
 have aA:(k:Int)<(xs.length:Int):=by omega
 obtain ⟨x,hx⟩:=ja aB;have hw:=kw k
 have bG:zb x<=2000000:=by
  have h1:=zp (tot:=zb) hx;have h2:=jaP zb xs (k+1);simp only [jbG] at ht;omega
 simp only [go_sem,aA,aB,kC hx,ja0];refine jk (jwI x (by simp only [zb] at bG;omega)) λeP=>?_
 simp only [go_sem];simp only [go_sem,hw];exact qc (k+1) (vU [] (by simp only [go_sem]<;>trivial))
def jdQ:C:=iS [iA 2 (.box 27 4 (.t 0)),iA 3 (.box 27 4 (.t 1)),aO 4 false] (iS [aF 5 0 2,aL 6 5,aF 7 0 3,aL 8 7,aP 9 .eql 3 6 8,aM 10 9,iB 11 10 true (iF 1 2),iB 12 10 true (iL 11),iB 13 10 true (iF 1 3),iB 14 10 true (iL 13),iB 15 10 true (iP .eql 3 12 14),iA 16 (iY 10 (.t 15) (oF)),aM 17 16,iB 18 17 true (iF 2 2),iB 19 17 true (iL 18),iB 20 17 true (iF 2 3),iB 21 17 true (iL 20),iB 22 17 true (iK 76 [19,21]),iA 23 (iY 17 (.t 22) (oF)),aM 24 23,iB 25 24 true (iF 3 2),iB 26 24 true (iL 25),iB 27 24 true (iF 3 3),iB 28 24 true (iL 27),iB 29 24 true (iK 77 [26,28]),iA 30 (iY 24 (.t 29) (oF)),aM 4 30] .ret)
theorem jg6:fnC Tryz.prog Tryz.f17=some (jdQ,[.t 4],31):=by kernel_rfl
theorem vW (y:Yd) (ht:jB y<=2000000):jZ Tryz.prog 17 [.agg (jb y),.agg (jb y)] (.c (.val (.bool true))):=by
 refine pf_ jg6 ?_;unfold jdQ;simp only [go_sem,jb,aQD];intro b2 b3;refine jk (jpJ y.aOE (by simp only [jB] at ht;omega)) λeP=>?_
 simp only [go_sem];refine jk (jrq y.aOH (by simp only [jB] at ht;omega)) λdF=>?_
 simp only [go_sem]
def idsLe (y:Yd):Prop:=∀r∈y.aOH,r.id<=9
theorem jan {y z:Yd} (h:idsLe y) (he:z.aOH.map (·.id)=y.aOH.map (·.id)):idsLe z:=λr hr=>by
 have:r.id∈y.aOH.map (·.id):=he▸List.mem_map_of_mem hr
 obtain ⟨r',h1,h2⟩:=aQS.1 this;rw [<-h2];exact h r' h1
theorem jkb {rs:List Rn} {k:Nat} {f:Rn->Rn} (hf:∀r,(f r).id=r.id):(rs.set k (f ((rs[k]?).getD default))).map (·.id)=rs.map (·.id):=by
 cases hr:rs[k]? with
 |none=>rw [List.set_eq_of_length_le (aRJ.1 hr)]
 |some r=>rw [aPA,jnJ hr (hf r)]
theorem jrc (r:Rn) (t:Int):(kZ r t).id=r.id:=by
 unfold kZ;split<;>rfl
theorem jw1 (r:Rn):(jaw r).id=r.id:=by
 unfold jaw;split<;>rfl
theorem idsLe.restT {z:Yd} (h:idsLe z) (k:Nat):∀t,idsLe (restT z k t)
 |0=>h
 |t+1=>jan (idsLe.restT h k t) (jlo _ _ _)
theorem idsLe.restR {y:Yd} (h:idsLe y):∀k,idsLe (restR y k)
 |0=>h
 |k+1=>(idsLe.restR h k).restT k _
theorem idsLe.stepF:∀(L:List (List Int)) {z:Yd},idsLe z->idsLe (L.foldl jl4 z)
 |[],z,h=>h
 |l::L,z,h=>idsLe.stepF L (jan h (jlo _ _ _))
theorem juq (z:Yd) (h v:Nat):(pollV z h v).aOH=z.aOH:=rfl
theorem jmV (h:Nat):∀(vs:List Int) (z:Yd),(pollF h vs z).aOH=z.aOH
 |[],z=>rfl
 |v::vs,z=>by
  unfold pollF;split
  ·rw [jmV h vs,juq]
  ·rfl
theorem jq6 (y:Yd) (k:Int):(qr y k).aOH=y.aOH:=by unfold qr;split<;>rfl
theorem jmU (y:Yd) (h:Nat) (d:Int):(pollZ y h d).aOH=y.aOH:=by rw [pollZ,jmV,jq6]
theorem idsLe.poll {y:Yd} (h:idsLe y) (w d:Int):idsLe (qu y w d):=by
 unfold qu;split
 ·exact h
 ·split
  ·exact jan h (by rw [jmU])
  ·refine jan (y:=pollZ y (w.tmod 4).toNat d) (jan h (by rw [jmU])) ?_
   exact jkb (f:=λr=>kD r _ _ _) λr=>rfl
theorem idsLe.do {y:Yd} (h:idsLe y) {d:Dd} (hd:d.aON=1->d.run<=9):idsLe (doY y d):=by
 unfold doY;split
 ·exact h
 split
 ·rename_i h1
  unfold jaS;split
  ·intro r hr
   rcases aOX.1 hr with hr|hr
   ·exact h r hr
   ·obtain rfl:=aRK.1 hr
    exact hd h1
  ·exact h
 split
 ·exact h.poll _ _
 split
 ·unfold jc0
  split
  ·exact jan h (jkb (f:=λr=>kZ r _) λr=>jrc r _)
  ·exact h
 split
 ·unfold jcZ
  split
  ·exact jan h (jkb (f:=λr=>jC r _) λr=>(zQ r _).1)
  ·exact h
 split
 ·unfold jbH
  split
  ·exact λr hr=>idsLe.stepF _ h r hr
  ·exact h
 split
 ·unfold kT
  split
  ·exact jan h (jkb (f:=jaw) jw1)
  ·exact h
 split
 ·unfold jaL
  split
  ·exact λr hr=>h r (List.mem_of_mem_eraseIdx hr)
  ·exact h
 ·unfold jcX
  split
  ·exact h.restR _
  ·exact h
theorem jxP (c:List UInt8) (y:Yd) (s:Cu):(qB c y s).1.aON=1->(qB c y s).1.run<=9:=by
 unfold qB;dsimp only;have x2:=(jP c (n:=9) (jh c 20 s).2 (by omega)).2
 repeat' split
 all_goals first
  |(intro h;dsimp only at h⊢;omega)
  |(intro h;exact absurd h (by decide))
theorem jnk (c:List UInt8):∀(n:Nat) {x:List Dd×Yd×Cu},idsLe x.2.1->idsLe (zg c n x).2.1
 |0,x,h=>h
 |n+1,x,h=>jnk c n (h.do (jxP c x.2.1 x.2.2))
theorem jA4 {y:Yd} {id:Int} (h:idsLe y) (h8:y.aOH.length<=8) (hid:9<id):runAt y id=-1:=by
 rw [runAt,if_neg (by omega)]
 exact jed λj _ z hz he=>by have:=h z (aOT hz);omega
theorem jsA {y:Yd} (h:YdI y):kG y+zd y.aOH=(vh kL y.aOH:Int)+y.aOE.flatten.length:=by
 have hf:=zA h.rns.eight h.rns.ids h.ens
 have aJ:qi y (zY y)+(y.aOE.flatten.filter (jJ y)).length=y.aOE.flatten.length:=by
  simp only [qi,zY,aRA];have:=List.length_eq_countP_add_countP (jJ y) (l:=y.aOE.flatten);simp only [aRA] at this;have e:y.aOE.flatten.filter (λe=>!jJ y e)=y.aOE.flatten.filter (λa=>decide ¬jJ y a=true):=List.filter_congr λa _=>by cases jJ y a<;>rfl
  rw [e];omega
 simp only [kG];omega
noncomputable def dY (c:List UInt8):Yd:=(jlp c (jni c)).1
theorem dY_I (c:List UInt8):YdI (dY c)/\(dY c).seq<=100000:=by
 have s1:=jo (c:=c) (n:=26) (s:=jni c) (aPP _);have x1:=jP c (n:=26) (jni c) (by omega)
 have h:=jty (c:=c) (jh c 26 (jni c)).1.toNat 0 (.start s1);refine ⟨h.yd,?_⟩;have:=h.seq;simp only [dY,jlp];omega
theorem jFT (c:List UInt8):idsLe (dY c):=jnk c _ (λr hr=>by simp [newYd] at hr)
