/- Parts. -/
import Derived.Test.YtekegiiikglhbaaGreatQFresh
import Derived.Test.YtekegiiikglhbaaGreatQRunOk
set_option linter.all false
set_option maxHeartbeats 8000000
set_option maxRecDepth 100000
namespace Go.Proofs.YtekegiiikglhbaaGreat
open Go.RowKit Go.Sort
def jax:C:=iS [iA 1 (.box 109 5 (.t 0)),iA 2 wAT] (iS [iA 3 (.bsl 158 2 0 [] []),aF 4 4 1,aL 5 4,iA 6 (.app 158 2 16 (.t 3) (.t 5)),aF 7 4 1,iC (.st 1 [some (2,158)] (.t 7) (.t 6))] (iS [aT 8 5 1,wAI 2 8] .ret))
theorem jcy:fnC Tryz.prog Tryz.f102=some (jax,[.cell 2 true 5],9):=by kernel_rfl
def zO:C:=iS [iA 1 (.box 109 5 (.t 0)),iA 2 wAT] (iS [aF 3 4 1,aL 4 3,iA 5 (.app 158 2 16 (.c (.slice none 0 0)) (.t 4)),aF 6 4 1,iC (.st 1 [some (2,158)] (.t 6) (.t 5))] (iS [aT 7 5 1,wAI 2 7] .ret))
theorem jbH:fnC Tryz.prog Tryz.f111=some (zO,[.cell 2 true 5],8):=by kernel_rfl
theorem jeT (p:Pl) (Z:p.aAC.length<=4000000):jR Tryz.prog 102 [.agg (ja p)] (.agg (ja p)):=by
 refine pf_ jcy ?_;unfold jax;have V:p.aAC.length<=maxLen:=jco;have Y:p.aAC.length*16<=140737488355328:=by omega
 simp only [go_sem,ja,V,Y,jeq]
theorem jd9 (p:Pl) (Z:p.aAC.length<=4000000):jR Tryz.prog 111 [.agg (ja p)] (.agg (ja p)):=by
 refine pf_ jbH ?_;unfold zO;have V:p.aAC.length<=maxLen:=jco;have Y:p.aAC.length*16<=140737488355328:=by omega
 simp only [go_sem,ja,V,Y,jeq]
theorem jk1 {α:Type} {A B C v:List α} {o j:Nat} (ho:o=A.length+j) (hj:j+v.length<=B.length):kg (A++(B++C)) o v=A++(kg B j v++C):=by
 subst ho;rw [ja9 _ _ _ (by simp only [aBE];omega),ja9 _ _ _ hj]
 have V:(A++(B++C)).take (A.length+j)=A++B.take j:=by
  rw [List.take_append,aAW (by omega),aCM,List.take_append_of_le_length (by omega)]
 have Y:(A++(B++C)).drop (A.length+j+v.length)=B.drop (j+v.length)++C:=by
  rw [List.drop_append,List.drop_eq_nil_of_le (by omega),aCA,show A.length+j+v.length-A.length=j+v.length by omega,List.drop_append_of_le_length (by omega)]
 rw [V,Y];simp only [aAZ]
section
variable {α:Type} {enc:α->List D} {size ty:Nat} {l:List α} {k:Nat} {x:α}
theorem jcg (hx:l[k]?=some x):l.flatMap enc=(l.take k).flatMap enc++(enc x++(l.drop (k+1)).flatMap enc):=by
 obtain ⟨hk,he⟩:=aAR.1 hx;have e:l=l.take k++x::l.drop (k+1):=by rw [<-he,<-aCN hk,aCO]
 have Y:=congrArg (List.flatMap enc) e;rw [Y,aCB,aBI]
theorem jiq (hs:∀x,(enc x).length=size) (hx:l[k]?=some x):((l.take k).flatMap enc).length=k*size:=by
 have hk:=(aAR.1 hx).1;rw [jF hs,aBA,aCW (by omega)]
theorem qy (hs:∀x,(enc x).length=size) (hx:l[k]?=some x) {y:α} {j:Nat} {v:List D} (hy:kg (enc x) j v=enc y) (hj:j+v.length<=size):D.put [] (k*size+j) v (.sl size ty (l.flatMap enc))=.sl size ty ((l.set k y).flatMap enc):=by
 have hk:=(aAR.1 hx).1;have Y:(l.set k y)[k]?=some y:=aBJ hk;have e1:(l.set k y).take k=l.take k:=List.take_set_of_le (aAV k);have e2:(l.set k y).drop (k+1)=l.drop (k+1):=List.drop_set_of_lt (Nat.lt_succ_self k);simp only [D.put];rw [jcg hx,jk1 (by rw [jiq hs hx]) (by rw [hs];exact hj),hy,jcg Y,e1,e2]
theorem jf9 (hs:∀x,(enc x).length=size) (hx:l[k]?=some x) {j n:Nat} (hj:j+n<=size):((l.flatMap enc).drop (k*size+j)).take n=((enc x).drop j).take n:=by
 rw [jcg hx,<-List.drop_drop,List.drop_left' (jiq hs hx),List.drop_append_of_le_length (by rw [hs];omega),List.take_append_of_le_length (by rw [List.length_drop,hs];omega)]
theorem qv (hs:∀x,(enc x).length=size) (hx:l[k]?=some x) {j n:Nat} (hj:j+n<=size):k*size+j+n<=(l.flatMap enc).length:=by
 have hk:=(aAR.1 hx).1;rw [jF hs];have:(k+1)*size<=l.length*size:=aBY _ hk;rw [Nat.succ_mul] at this;omega
end
section
variable {l:List En} {k:Nat} {x:En}
theorem at_en (hx:l[k]?=some x):((l.flatMap jk).drop (k*4)).take 4=jk x:=jf9 (enc:=jk) (size:=4) (λ_=>rfl) hx (j:=0) (n:=4) (by decide)
theorem jhq (hx:l[k]?=some x):((l.flatMap jk).drop (k*4+1)).take 1=[.val (.int .i64 x.seq)]:=jf9 (enc:=jk) (size:=4) (λ_=>rfl) hx (j:=1) (n:=1) (by decide)
theorem in_en (hx:l[k]?=some x):k*4+4<=(l.flatMap jk).length:=qv (enc:=jk) (size:=4) (λ_=>rfl) hx (j:=0) (n:=4) (by decide)
theorem jg0 (hx:l[k]?=some x):k*4+1+1<=(l.flatMap jk).length:=qv (enc:=jk) (size:=4) (λ_=>rfl) hx (j:=1) (n:=1) (by decide)
end
theorem jcU (l:List Tk):D.sl 4 tTk (l.flatMap ji)=ke l:=rfl
def jau:C:=iS [iA 1 (.box 112 8 (.t 0)),iA 2 wAP] (iS [aF 3 1 1,aT 4 5 3,iA 5 (iK 102 [4]),aF 6 1 1,wAI 6 5] (iS [iA 7 (.bsl 143 4 0 [] []),aF 8 7 1,aL 9 8,iA 10 (.app 143 4 32 (.t 7) (.t 9)),aF 11 7 1,iC (.st 1 [some (4,143)] (.t 11) (.t 10))] (iS [aT 12 8 1,wAJ 2 12] .ret)))
theorem jcv:fnC Tryz.prog Tryz.f66=some (jau,[.cell 2 true 8],13):=by kernel_rfl
def jaJ:C:=iS [iA 1 (.box 112 8 (.t 0)),iA 2 wAP] (iS [aF 3 1 1,aT 4 5 3,iA 5 (iK 111 [4]),aF 6 1 1,wAI 6 5] (iS [aF 7 7 1,aL 8 7,iA 9 (.app 143 4 32 (.c (.slice none 0 0)) (.t 8)),aF 10 7 1,iC (.st 1 [some (4,143)] (.t 10) (.t 9))] (iS [aT 11 8 1,wAJ 2 11] .ret)))
theorem jcK:fnC Tryz.prog Tryz.f79=some (jaJ,[.cell 2 true 8],12):=by kernel_rfl
theorem jeX (r:Rn) (Z:r.aAF.aAC.length<=4000000) (ht:r.aAB.length<=4000000):jR Tryz.prog 79 [.agg (jc r)] (.agg (jc r)):=by
 refine pf_ jcK ?_;unfold jaJ;have V:r.aAB.length<=maxLen:=jco;have Y:r.aAB.length*32<=140737488355328:=by omega
 simp only [go_sem,jc,ja];intro b b2;refine kt (jd9 r.aAF Z) λη=>?_
 simp only [go_sem,jc,ja];simp only [go_sem,jc,ja,V,Y,jcU]
theorem jeQ (r:Rn) (Z:r.aAF.aAC.length<=4000000) (ht:r.aAB.length<=4000000):jR Tryz.prog 66 [.agg (jc r)] (.agg (jc r)):=by
 refine pf_ jcv ?_;unfold jau;have V:r.aAB.length<=maxLen:=jco;have Y:r.aAB.length*32<=140737488355328:=by omega
 simp only [go_sem,jc,ja];intro b b2;refine kt (jeT r.aAF Z) λη=>?_
 simp only [go_sem,jc,ja];simp only [go_sem,jc,ja,V,Y,jcU]
def zH:C:=iS [iA 2 (.mov (.c (.string ⟨⟨[]⟩⟩)))] (.seq (iS [aM 4 0,aQ 5 .leq 3 4 0] (iD 5 (iS [iA 2 (.mov (.c (.string ⟨⟨[109,48]⟩⟩)))] .ret) .skip)) (iS [iA 3 (.mov (.c (.string ⟨⟨[]⟩⟩)))] (.seq (.blk 0 (.loop (.seq (iS [aM 6 0,aQ 7 .gtr 3 6 0] (iD 7 .skip (.exit 0))) (.blk 1 (iS [aM 8 0,aQ 9 .rem 3 8 10,iA 10 (.bin .add 3 (oI 48) (.t 9)),iA 11 (.cv (.num .u8) 0 (.t 10)),iA 12 (.bsl 5 1 1 [none] [(0,1,.t 11)]),iA 13 (.cv .text 5 (.t 12)),aM 14 3,aP 15 .add 9 13 14,aM 3 15] (.reg [aM 16 0,aQ 17 .quo 3 16 10,aM 0 17])))))) (iS [aM 18 3,iA 19 (.bin .add 9 (.c (.string ⟨⟨[109]⟩⟩)) (.t 18)),aM 2 19] .ret))))
theorem jbB:fnC Tryz.prog Tryz.f96=some (zH,[.t 2],20):=by kernel_rfl
def ze:C:=iS [aN 4 0] (.seq (iS [aN 5 0] (.blk 0 (.loop (.seq (iS [aM 6 5,aM 7 0,aG 8 7,aP 9 .lss 3 6 8] (iD 9 .skip (.exit 0))) (.seq (.blk 1 (.seq (.seq (.dreg (tA 0 12 (iM 0) (tA 1 13 (iM 5) (tA 2 14 (iI 3 12 13) (tA 3 15 (iF 0 14) (tA 4 16 (iL 15) (tA 5 17 (iM 1) (tC 18 (iK 96 [17]) [4,3,2,1,0] (tA 7 19 (iP .neq 9 16 18) .done) .stop)))))))) (iD 19 (iS [aN 4 (-1)] .ret) .skip)) (iS [aM 20 1,aQ 21 .add 3 20 1,aM 1 21] (.seq (.seq (.dreg (tA 0 22 (iM 0) (tA 1 23 (iM 5) (tA 2 24 (iI 3 22 23) (tA 3 25 (iF 1 24) (tA 4 26 (iL 25) (tA 5 27 (iM 1) (tC 28 (iK 96 [27]) [4,3,2,1,0] (tA 7 29 (iP .neq 9 26 28) .done) .stop)))))))) (iD 29 (iS [aN 4 (-1)] .ret) .skip)) (iS [aM 30 1,aQ 31 .add 3 30 1,aM 1 31] (.seq (iS [aM 32 0,aM 33 5,aI 34 3 32 33,aF 35 2 34,aL 36 35,aM 37 1,aP 38 .neq 3 36 37] (iD 38 (iS [aN 4 (-1)] .ret) .skip)) (.reg [aM 39 1,aQ 40 .add 3 39 1,aM 1 40]))))))) (.reg [aM 10 5,aQ 11 .add 3 10 1,aM 5 11])))))) (iS [aM 41 1,aM 4 41] .ret))
theorem jaZ:fnC Tryz.prog Tryz.f62=some (ze,[.t 4],42):=by kernel_rfl
def zJ:C:=iS [iA 2 (.box 39 1 (.t 0)),aN 4 0] (iS [aF 5 0 2,aL 6 5,aM 7 1,iA 8 (iK 62 [6,7]),aM 1 8] (.seq (iS [aM 9 1,aQ 10 .lss 3 9 0] (iD 10 (iS [aN 4 (-1)] .ret) .skip)) (iS [aM 11 1,aM 4 11] .ret)))
theorem jbD:fnC Tryz.prog Tryz.f33=some (zJ,[.t 4],12):=by kernel_rfl
def zd:C:=iS [aN 4 0] (.seq (iS [aN 5 0] (.blk 0 (.loop (.seq (iS [aM 6 5,aM 7 0,aG 8 7,aP 9 .lss 3 6 8] (iD 9 .skip (.exit 0))) (.seq (.blk 1 (.seq (iS [aM 12 0,aM 13 5,aI 14 5 12 13,aF 15 0 14,aL 16 15,aM 17 1,aP 18 .neq 3 16 17] (iD 18 (iS [aN 4 (-1)] .ret) .skip)) (iS [aM 19 1,aQ 20 .add 3 19 1,aM 1 20] (.seq (iS [aM 21 0,aM 22 5,aI 23 5 21 22,aF 24 1 23,aF 25 0 24,aL 26 25,aM 27 1,aP 28 .neq 3 26 27] (iD 28 (iS [aN 4 (-1)] .ret) .skip)) (iS [aM 29 1,aQ 30 .add 3 29 1,aM 1 30] (.seq (iS [aM 31 0,aM 32 5,aI 33 5 31 32,aF 34 1 33,aF 35 1 34,aL 36 35,aM 37 1,aP 38 .neq 3 36 37] (iD 38 (iS [aN 4 (-1)] .ret) .skip)) (iS [aM 39 1,aQ 40 .add 3 39 1,aM 1 40] (.seq (iS [aM 41 0,aM 42 5,aI 43 5 41 42,aF 44 1 43,aF 45 2 44,aL 46 45,aM 47 1,aP 48 .neq 3 46 47] (iD 48 (iS [aN 4 (-1)] .ret) .skip)) (iS [aM 49 1,aQ 50 .add 3 49 1,aM 1 50] (.seq (iS [aM 51 0,aM 52 5,aI 53 5 51 52,aF 54 1 53,aF 55 3 54,aL 56 55,aM 57 1,aP 58 .neq 3 56 57] (iD 58 (iS [aN 4 (-1)] .ret) .skip)) (.reg [aM 59 1,aQ 60 .add 3 59 1,aM 1 60]))))))))))) (.reg [aM 10 5,aQ 11 .add 3 10 1,aM 5 11])))))) (iS [aM 61 1,aM 4 61] .ret))
theorem jaY:fnC Tryz.prog Tryz.f13=some (zd,[.t 4],62):=by kernel_rfl
def vI:C:=iS [iA 2 (.box 42 10 (.t 0)),aN 4 0] (iS [aF 5 0 2,aT 6 4 5,aM 7 1,iA 8 (iK 32 [6,7]),aM 1 8] (.seq (iS [aM 9 1,aQ 10 .lss 3 9 0] (iD 10 (iS [aN 4 (-1)] .ret) .skip)) (iS [aF 11 4 2,aT 12 1 11,aM 13 1,iA 14 (iK 33 [12,13]),aM 1 14] (.seq (iS [aM 15 1,aQ 16 .lss 3 15 0] (iD 16 (iS [aN 4 (-1)] .ret) .skip)) (iS [aF 17 7 2,aL 18 17,aM 19 1,iA 20 (iK 13 [18,19]),aM 1 20] (.seq (iS [aM 21 1,aQ 22 .lss 3 21 0] (iD 22 (iS [aN 4 (-1)] .ret) .skip)) (iS [aM 23 1,aM 4 23] .ret)))))))
theorem jak:fnC Tryz.prog Tryz.f12=some (vI,[.t 4],24):=by kernel_rfl
def jqJ (n:Nat) (out:ByteArray):ByteArray:=if h:n=0 then out else jqJ (n/10) (⟨⟨[UInt8.ofNat (48+n%10)]⟩⟩++out)
termination_by n
decreasing_by omega
def mtS (k:Int):ByteArray:=if k<=0 then ⟨⟨[109,48]⟩⟩ else ⟨⟨[109]⟩⟩++jqJ k.toNat ⟨⟨[]⟩⟩
theorem joz (v:Nat):Int.tdiv (v:Int) 10=((v/10:Nat):Int):=rfl
theorem jqR (v:Nat):Int.tmod (v:Int) 10=((v%10:Nat):Int):=rfl
theorem jqs (a b:ByteArray):(a++b).size=a.size+b.size:=ByteArray.size_append
theorem jaa (k:Int) (hk:k<=1000000000):jR Tryz.prog 96 [.c (.val (.int .i64 k))] (.c (.val (.string (mtS k)))):=by
 refine pf_ jbB ?_;unfold zH mtS;by_cases h0:k<=0
 ·simp only [go_sem,h0]
 obtain ⟨K,rfl⟩:=Int.eq_ofNat_of_zero_le (by omega:0<=k)
 rw [aCI];simp only [go_sem,h0];have hz:(ByteArray.mk ⟨[]⟩).size=0:=rfl;have V:(ByteArray.mk ⟨[109]⟩).size=1:=rfl;refine kp (λi:Nat×ByteArray=>St.of [(0,Ni i.1),(3,.c (.v (.string i.2)))] []) (λi=>jqJ i.1 i.2=jqJ K ⟨⟨[]⟩⟩/\i.1+i.2.size<=K) (λi=>i.1) (K,⟨⟨[]⟩⟩) (⟨rfl,by rw [hz];omega⟩) (qJ [] (by simp only [go_sem]<;>trivial)) ?_
 rintro ⟨n,out⟩ ⟨hd,hn⟩;dsimp only at hd hn;by_cases aC:n=0
 ·have aA:¬(n:Int)>0:=by omega
  rw [jqJ,dif_pos aC] at hd;have hm:1+out.size<=maxLen:=jco;rw [<-hd];simp only [go_sem,aA,V,hm]
 ·have aA:(n:Int)>0:=by omega
  rw [jqJ,dif_neg aC] at hd;have hw:IntKind.i64.wrap (48+((n%10:Nat):Int))=((48+n%10:Nat):Int):=by rw [kh (by omega) (by omega)];omega
  have dX:IntKind.i64.wrap ((n/10:Nat):Int)=((n/10:Nat):Int):=jdD;have Z:=byte_ (v:=48+n%10) (by omega)
  generalize hc:UInt8.ofNat (48+n%10)=c at*;have dA:(ByteArray.mk ⟨[c]⟩).size=1:=rfl;simp only [go_sem,aA,jqR,joz,hw,dX];intro bC;refine jog (bs:=[c]) rfl rfl (by simp only [go_sem,Z,aCE,List.map_nil]) ?_
  have hm:1+out.size<=maxLen:=jco;simp only [go_sem,dA,hm,dX,joz];exact ⟨(n/10,⟨⟨[c]⟩⟩++out),⟨hd,by rw [jqs,dA];omega⟩,(qJ [] (by simp only [go_sem]<;>trivial)),by (try dsimp only);omega⟩
def mkF (k:Int) (j:Nat):Fl:=⟨mtS (k+3*j),mtS (k+3*j+1),k+3*j+2⟩
def jc9 (l:List Fl) (k:Int):List Fl:=(List.range l.length).map (mkF k)
def mkW (k:Int) (j:Nat):Wt:=⟨k+5*j,k+5*j+1,k+5*j+2,k+5*j+3,k+5*j+4⟩
def jef (l:List Wt) (k:Int):List Wt:=(List.range l.length).map (mkW k)
theorem jgN (l:List Fl) (k:Int):(jc9 l k).length=l.length:=by simp [jc9]
theorem jgL (l:List Wt) (k:Int):(jef l k).length=l.length:=by simp [jef]
theorem jgO {l:List Fl} {k:Int} {j:Nat} (h:j<l.length):(jc9 l k)[j]?=some (mkF k j):=by simp [jc9,h]
theorem jgM {l:List Wt} {k:Int} {j:Nat} (h:j<l.length):(jef l k)[j]?=some (mkW k j):=by simp [jef,h]
theorem jhM (l:List Fl) (k:Int) (h0:0<=k) (V:k+3*(l.length:Int)<=1000000000):jR Tryz.prog 62 [.c (jm (jc9 l k)),.c (.val (.int .i64 k))] (.c (.val (.int .i64 (k+3*(l.length:Int))))):=by
 refine pf_ jaZ ?_;unfold ze;have aJ:=jgN l k;simp only [go_sem];refine vn (λi:Nat=>St.of [(0,Ro (jm (jc9 l k))),(1,Ni (k+3*(i:Int))),(5,Ni i)] []) (λi=>i<=l.length) (λi=>l.length-i) 0 (qJ [] (by simp only [go_sem,Int.natCast_zero,Int.mul_zero,Int.add_zero]<;>trivial)) ?_
 intro n hn;by_cases aC:n<l.length
 ·have aA:(n:Int)<l.length:=by omega
  have bJ:n<(jc9 l k).length:=by omega
  have a9:=jaQ n;have ha:=jgO (k:=k) aC;have hw:=qg n;have w1:IntKind.i64.wrap (k+3*(n:Int)+1)=k+3*(n:Int)+1:=jdD;have w2:IntKind.i64.wrap (k+3*(n:Int)+1+1)=k+3*(n:Int)+2:=by rw [kh (by omega) (by omega)];omega
  have w3:IntKind.i64.wrap (k+3*(n:Int)+2+1)=k+3*((n+1:Nat):Int):=by rw [kh (by omega) (by omega)];omega
  simp only [go_sem,aJ,aC,aA,bJ,a9,jj ha,jv,mkF];refine jg (jaa (k+3*(n:Int)) (by omega)) (by simp only [go_sem,aJ,aC,aA,bJ,a9,jj ha,jv,mkF,qV,decide_true,Bool.not_true,w1]) λη=>?_
  simp only [go_sem,aJ,aC,aA,bJ,a9,jj ha,jv,mkF,qV,decide_true,Bool.not_true,w1];refine jg (jaa (k+3*(n:Int)+1) (by omega)) (by simp only [go_sem,aJ,aC,aA,bJ,a9,jj ha,jv,mkF,qV,decide_true,Bool.not_true,w1,w2,w3,aBG,hw]) λη=>?_
  simp only [go_sem,aJ,aC,aA,bJ,a9,jj ha,jv,mkF,qV,decide_true,Bool.not_true,w1,w2,w3,aBG,hw];exact ⟨n+1,aC,(qJ [] (by simp only [go_sem]<;>trivial)),by (try dsimp only);omega⟩
 ·have aA:¬(n:Int)<l.length:=by omega
  obtain rfl:n=l.length:=by omega
  simp only [go_sem,aJ,aA]
theorem jjs (l:List Fl) (k:Int) (h0:0<=k) (V:k+3*(l.length:Int)<=1000000000):jR Tryz.prog 33 [.agg [jm (jc9 l k)],.c (.val (.int .i64 k))] (.c (.val (.int .i64 (k+3*(l.length:Int))))):=by
 refine pf_ jbD ?_;unfold zJ;have hn:¬(k+3*(l.length:Int)<0):=by omega
 simp only [go_sem];intros;refine jg (jhM l k h0 V) (by simp only [go_sem,hn]) λη=>?_
 simp only [go_sem,hn]
theorem jed (l:List Wt) (k:Int) (h0:0<=k) (V:k+5*(l.length:Int)<=1000000000):jR Tryz.prog 13 [.c (jn (jef l k)),.c (.val (.int .i64 k))] (.c (.val (.int .i64 (k+5*(l.length:Int))))):=by
 refine pf_ jaY ?_;unfold zd;have aJ:=jgL l k;simp only [go_sem];refine vn (λi:Nat=>St.of [(0,Ro (jn (jef l k))),(1,Ni (k+5*(i:Int))),(5,Ni i)] []) (λi=>i<=l.length) (λi=>l.length-i) 0 (qJ [] (by simp only [go_sem,Int.natCast_zero,Int.mul_zero,Int.add_zero]<;>trivial)) ?_
 intro n hn;by_cases aC:n<l.length
 ·have aA:(n:Int)<l.length:=by omega
  have bJ:n<(jef l k).length:=by omega
  have a9:=jaQ n;have ha:=jgM (k:=k) aC;have hw:=qg n;have w1:IntKind.i64.wrap (k+5*(n:Int)+1)=k+5*(n:Int)+1:=jdD;have w2:IntKind.i64.wrap (k+5*(n:Int)+1+1)=k+5*(n:Int)+2:=by rw [kh (by omega) (by omega)];omega
  have w3:IntKind.i64.wrap (k+5*(n:Int)+2+1)=k+5*(n:Int)+3:=by rw [kh (by omega) (by omega)];omega
  have w4:IntKind.i64.wrap (k+5*(n:Int)+3+1)=k+5*(n:Int)+4:=by rw [kh (by omega) (by omega)];omega
  have w5:IntKind.i64.wrap (k+5*(n:Int)+4+1)=k+5*((n+1:Nat):Int):=by rw [kh (by omega) (by omega)];omega
  simp only [go_sem,aJ,aC,aA,bJ,a9,jz ha,jQ,mkW,w1,w2,w3,w4,w5,aBG,hw];exact ⟨n+1,aC,(qJ [] (by simp only [go_sem]<;>trivial)),by (try dsimp only);omega⟩
 ·have aA:¬(n:Int)<l.length:=by omega
  obtain rfl:n=l.length:=by omega
  simp only [go_sem,aJ,aA]
def vh:C:=iS [iA 2 (.mov (.c (.slice none 0 0)))] (iS [aM 3 0,iA 4 (.app 127 4 32 (.c (.slice none 0 0)) (.t 3)),aM 2 4] .ret)
theorem zA:fnC Tryz.prog Tryz.f78=some (vh,[.t 2],5):=by kernel_rfl
def zN:C:=iS [iA 1 (.box 36 4 (.t 0)),iA 2 wAQ] (iS [aF 8 0 1,aL 9 8,aF 10 1 1,aL 11 10,iA 12 (wAV [(0,1,.t 9),(1,1,.t 11)]),iA 3 wAQ,wAE 3 12] (.seq (iS [aF 13 2 1,aL 14 13,aG 15 14,aN 16 0] (.blk 0 (.loop (iS [aP 17 .lss 3 16 15] (.seq (iD 17 .skip (.exit 0)) (.seq (.blk 1 (iS [aI 18 1 14 16,aL 19 18,aM 5 19] (.dreg (tA 0 20 (iF 2 3) (tA 1 21 (iL 20) (tA 2 22 (iM 5) (tC 23 (iK 78 [22]) [1,0] (tC 24 (.bsl 106 1 1 [some (4,127)] [(0,1,.t 23)]) [1,0] (tC 25 (.app 106 1 24 (.t 21) (.t 24)) [] (tA 6 26 (iF 2 3) (.alt (iC (.st 1 [some (1,106)] (.t 26) (.t 25))) [] .done .stop)) .stop) .stop) .stop))))))) (.reg [aQ 27 .add 3 16 1,aM 16 27]))))))) (.seq (iS [aF 28 3 1,aL 29 28,aG 30 29,aN 31 0] (.blk 2 (.loop (iS [aP 32 .lss 3 31 30] (.seq (iD 32 .skip (.exit 2)) (.seq (.blk 3 (iS [aI 33 8 29 31,aT 34 8 33,iA 7 wAP,wAJ 7 34] (.dreg (tA 0 35 (iF 3 3) (tA 1 36 (iL 35) (tA 2 37 (iT 8 7) (tC 38 (iK 79 [37]) [1,0] (tC 39 (wAX [(0,8,.t 38)]) [1,0] (tC 40 (.app 112 8 96 (.t 36) (.t 39)) [] (tA 6 41 (iF 3 3) (.alt (iC (.st 1 [some (8,112)] (.t 41) (.t 40))) [] .done .stop)) .stop) .stop) .stop))))))) (.reg [aQ 42 .add 3 31 1,aM 31 42]))))))) (iS [aT 43 4 3,wAE 2 43] .ret))))
theorem jbG:fnC Tryz.prog Tryz.f47=some (zN,[.cell 2 true 4],44):=by kernel_rfl
def jas:C:=iS [iA 1 (.box 36 4 (.t 0)),iA 2 wAQ] (iS [aF 6 0 1,aL 7 6,aF 8 1 1,aL 9 8,iA 10 (wAV [(0,1,.t 7),(1,1,.t 9)]),iA 3 wAQ,wAE 3 10] (.seq (iS [aN 4 0] (.blk 0 (.loop (.seq (iS [aM 11 4,aF 12 2 1,aL 13 12,aG 14 13,aP 15 .lss 3 11 14] (iD 15 .skip (.exit 0))) (.seq (.blk 1 (.dreg (tA 0 18 (iF 2 3) (tA 1 19 (iL 18) (tA 3 21 (iF 2 1) (tA 4 22 (iL 21) (tA 5 23 (iM 4) (tA 6 24 (iI 1 22 23) (tA 7 25 (iL 24) (tC 20 (.bsl 127 4 0 [] []) [7,6,5,4,3,1,0] (tC 26 (.app 127 4 32 (.t 20) (.t 25)) [1,0] (tC 27 (.bsl 106 1 1 [some (4,127)] [(0,1,.t 26)]) [1,0] (tC 28 (.app 106 1 24 (.t 19) (.t 27)) [] (tA 11 29 (iF 2 3) (.alt (iC (.st 1 [some (1,106)] (.t 29) (.t 28))) [] .done .stop)) .stop) .stop) .stop) .stop)))))))))) (.reg [aM 16 4,aQ 17 .add 3 16 1,aM 4 17])))))) (.seq (iS [aN 5 0] (.blk 2 (.loop (.seq (iS [aM 30 5,aF 31 3 1,aL 32 31,aG 33 32,aP 34 .lss 3 30 33] (iD 34 .skip (.exit 2))) (.seq (.blk 3 (.dreg (tA 0 37 (iF 3 3) (tA 1 38 (iL 37) (tA 2 39 (iF 3 1) (tA 3 40 (iL 39) (tA 4 41 (iM 5) (tA 5 42 (iI 8 40 41) (tA 6 43 (iT 8 42) (tC 44 (iK 66 [43]) [1,0] (tC 45 (wAX [(0,8,.t 44)]) [1,0] (tC 46 (.app 112 8 96 (.t 38) (.t 45)) [] (tA 10 47 (iF 3 3) (.alt (iC (.st 1 [some (8,112)] (.t 47) (.t 46))) [] .done .stop)) .stop) .stop) .stop)))))))))) (.reg [aM 35 5,aQ 36 .add 3 35 1,aM 5 36])))))) (iS [aT 48 4 3,wAE 2 48] .ret))))
theorem jct:fnC Tryz.prog Tryz.f37=some (jas,[.cell 2 true 4],49):=by kernel_rfl
abbrev jsM (b ty:Nat) (now seq:Int) (sh:List (List En)) (e1:jl) (rn:List Rn) (e2:jl):Ob:=.box b ty [.a (.v (.int .i64 now)),.a (.v (.int .i64 seq)),.own (jX sh) e1,.own (jC rn) e2]
abbrev ZYd (b ty:Nat):Ob:=.box b ty [.a (.v (.int .i64 0)),.a (.v (.int .i64 0)),.a (.v (.slice none 0 0)),.a (.v (.slice none 0 0))]
theorem zt (l:List En):D.sl 4 tEn (l.flatMap jk)=jo l:=rfl
theorem jkZ (l:List (List En)) (x:List En):D.sl 1 jmW (l.flatMap (λes=>[jo es])++[jo x])=jX (l++[x]):=by simp [jX]
theorem jiw (l:List Rn) (r:Rn):D.sl 8 tRn (l.flatMap jc++[.val (.int .i64 r.id),.val (.int .i64 r.aAF.aAH),.val (.int .i64 r.aAF.aAK),.val (.int .i64 r.aAF.aAJ),.val (.int .i64 r.aAF.aAB),jL r.aAF.aAC,.val (.int .i64 r.aAD),ke r.aAB])=jC (l++[r]):=by simp [jC,jc,ja]
theorem jfd {y:Yd} (ht:jG y<=2000000) {l:List En} (h:l∈y.aAE):l.length<=4000000:=by
 obtain ⟨k,hk,rfl⟩:=aBS h;have V:=aAT hk;have Y:=kj (tot:=kJ) V;have h3:=kS kJ y.aAE (k+1);simp only [jG,vl,kJ] at*;omega
theorem jla {y:Yd} (ht:jG y<=2000000) {r:Rn} (h:r∈y.aAG):r.aAF.aAC.length<=4000000/\r.aAB.length<=4000000:=by
 obtain ⟨k,hk,rfl⟩:=aBS h;have V:=aAT hk;have Y:=kj (tot:=qh) V;have h3:=kS qh y.aAG (k+1);simp only [jG,qE,qh,jcf] at*;omega
theorem jbe (l:List En) (hl:l.length<=4000000):jR Tryz.prog 78 [.c (jo l)] (.c (jo l)):=by
 refine pf_ zA ?_;unfold vh;have V:l.length<=maxLen:=jco;have Y:l.length*32<=140737488355328:=by omega
 simp only [go_sem,V,Y,zt]
theorem jd8 (y:Yd) (ht:jG y<=2000000):jR Tryz.prog 47 [.agg (jb y)] (.agg (jb y)):=by
 refine pf_ jbG ?_;unfold zN;have eF:y.aAE.length<=2000000:=by simp only [jG,vl] at ht;omega
 have cU:=jfw ht;simp only [go_sem,jb];intro b1 b2 b3;refine vn (λi:Nat×jl=>St.of [(1,Bx 100 b1),(2,Bx 200 b2),(3,Bx 300 b3),(14,Ro (jX y.aAE)),(15,Ni y.aAE.length),(16,Ni i.1)] [(100,Bi b1 _ (jb y)),(200,ZYd b2 _),(300,.box b3 _ [.a (.v (.int .i64 y.now)),.a (.v (.int .i64 y.seq)),.own (jX (y.aAE.take i.1)) i.2,.a (.v (.slice none 0 0))])]) (λi=>i.1<=y.aAE.length) (λi=>y.aAE.length-i.1) (0,jjI) (jJ [100,200,300] (by simp only [go_sem,jb,aCK]<;>trivial)) ?_
 rintro ⟨k,η⟩ hk;dsimp only at hk;by_cases aC:k<y.aAE.length
 ·have aA:(k:Int)<y.aAE.length:=by omega
  obtain ⟨l,hl⟩:=jd aC;have hw:=qg k;have cZ:k+1<=maxLen:=jco;have dC:(k+1)*24<=140737488355328:=by omega
  have cG:(y.aAE.take k).length=k:=by rw [aBA];omega
  have eE:y.aAE.take (k+1)=y.aAE.take k++[l]:=by rw [aAX,hl];rfl
  generalize y.aAE.take k=M at*;simp only [go_sem,jb,aC,aA,qo hl];refine kt (jbe l (jfd ht (aAY hl))) λη=>?_
  simp only [go_sem,jb];simp only [go_sem,cG,cZ,dC,jkZ];intro lP fQ;simp only [go_sem,hw];exact je1 (k+1,fQ) (jJ [100,200,300] (by simp only [go_sem,jb,eE]<;>trivial))
 have aA:¬(k:Int)<y.aAE.length:=by omega
 rw [aAW (by omega)]
 simp only [go_sem,jb,aA];refine vn (λi:Nat×jl=>St.of [(1,Bx 100 b1),(2,Bx 200 b2),(3,Bx 300 b3),(29,Ro (jC y.aAG)),(30,Ni y.aAG.length),(31,Ni i.1)] [(100,Bi b1 _ (jb y)),(200,ZYd b2 _),(300,jsM b3 _ y.now y.seq y.aAE η (y.aAG.take i.1) i.2)]) (λi=>i.1<=y.aAG.length) (λi=>y.aAG.length-i.1) (0,jjI) (jJ [100,200,300] (by simp only [go_sem,jb,aCK]<;>trivial)) ?_
 rintro ⟨j,bC⟩ hj;dsimp only at hj;by_cases bE:j<y.aAG.length
 ·have aR:(j:Int)<y.aAG.length:=by omega
  obtain ⟨r,hr⟩:=jd bE;have hw:=qg j;have cZ:j+1<=maxLen:=jco;have dC:(j+1)*96<=140737488355328:=by omega
  have gT:(y.aAG.take j).length=j:=by rw [aBA];omega
  have oZ:y.aAG.take (j+1)=y.aAG.take j++[r]:=by rw [aAX,hr];rfl
  have fX:=jla ht (aAY hr);generalize y.aAG.take j=M at*;simp only [go_sem,jb,bE,aR,qp hr,jc,ja];intro b7;refine kt (jeX r fX.1 fX.2) λη=>?_
  simp only [go_sem,jb,jc,ja];simp only [go_sem,gT,cZ,dC,jiw];intro lP fQ;simp only [go_sem,hw];exact je1 (j+1,fQ) (jJ [100,200,300] (by simp only [go_sem,jb,oZ]<;>trivial))
 have aR:¬(j:Int)<y.aAG.length:=by omega
 rw [aAW (by omega)]
 simp only [go_sem,jb,aR]
theorem jeO (y:Yd) (ht:jG y<=2000000):jR Tryz.prog 37 [.agg (jb y)] (.agg (jb y)):=by
 refine pf_ jct ?_;unfold jas;have eF:y.aAE.length<=2000000:=by simp only [jG,vl] at ht;omega
 have cU:=jfw ht;simp only [go_sem,jb];intro b1 b2 b3;refine vn (λi:Nat×jl=>St.of [(1,Bx 100 b1),(2,Bx 200 b2),(3,Bx 300 b3),(4,Ni i.1)] [(100,Bi b1 _ (jb y)),(200,ZYd b2 _),(300,.box b3 _ [.a (.v (.int .i64 y.now)),.a (.v (.int .i64 y.seq)),.own (jX (y.aAE.take i.1)) i.2,.a (.v (.slice none 0 0))])]) (λi=>i.1<=y.aAE.length) (λi=>y.aAE.length-i.1) (0,jjI) (jJ [100,200,300] (by simp only [go_sem,jb,aCK]<;>trivial)) ?_
 rintro ⟨k,η⟩ hk;dsimp only at hk;by_cases aC:k<y.aAE.length
 ·have aA:(k:Int)<y.aAE.length:=by omega
  have a9:=jaQ k;obtain ⟨l,hl⟩:=jd aC;have oU:=jfd ht (aAY hl);have hw:=qg k;have cZ:k+1<=maxLen:=jco;have dC:(k+1)*24<=140737488355328:=by omega
  have eW:l.length<=maxLen:=jco;have mF:l.length*32<=140737488355328:=by omega
  have cG:(y.aAE.take k).length=k:=by rw [aBA];omega
  have eE:y.aAE.take (k+1)=y.aAE.take k++[l]:=by rw [aAX,hl];rfl
  generalize y.aAE.take k=M at*;simp only [go_sem,jb,aC,aA,a9,qo hl,eW,mF,zt];intro gR rH;simp only [go_sem,cG,cZ,dC,eW,mF,zt,jkZ];intro lP fQ;simp only [go_sem,hw];exact je1 (k+1,fQ) (jJ [100,200,300] (by simp only [go_sem,jb,eE]<;>trivial))
 have aA:¬(k:Int)<y.aAE.length:=by omega
 rw [aAW (by omega)]
 simp only [go_sem,jb,aA];refine vn (λi:Nat×jl=>St.of [(1,Bx 100 b1),(2,Bx 200 b2),(3,Bx 300 b3),(5,Ni i.1)] [(100,Bi b1 _ (jb y)),(200,ZYd b2 _),(300,jsM b3 _ y.now y.seq y.aAE η (y.aAG.take i.1) i.2)]) (λi=>i.1<=y.aAG.length) (λi=>y.aAG.length-i.1) (0,jjI) (jJ [100,200,300] (by simp only [go_sem,jb,aCK]<;>trivial)) ?_
 rintro ⟨j,bC⟩ hj;dsimp only at hj;by_cases bE:j<y.aAG.length
 ·have aR:(j:Int)<y.aAG.length:=by omega
  have fM:=jaQ j;obtain ⟨r,hr⟩:=jd bE;have hw:=qg j;have cZ:j+1<=maxLen:=jco;have dC:(j+1)*96<=140737488355328:=by omega
  have gT:(y.aAG.take j).length=j:=by rw [aBA];omega
  have oZ:y.aAG.take (j+1)=y.aAG.take j++[r]:=by rw [aAX,hr];rfl
  have fX:=jla ht (aAY hr);generalize y.aAG.take j=M at*;simp only [go_sem,jb,bE,aR,fM,qp hr,jc,ja];refine kt (jeQ r fX.1 fX.2) λη=>?_
  simp only [go_sem,jb,jc,ja];simp only [go_sem,gT,cZ,dC,jiw];intro lP fQ;simp only [go_sem,hw];exact je1 (j+1,fQ) (jJ [100,200,300] (by simp only [go_sem,jb,oZ]<;>trivial))
 have aR:¬(j:Int)<y.aAG.length:=by omega
 rw [aAW (by omega)]
 simp only [go_sem,jb,aR]
