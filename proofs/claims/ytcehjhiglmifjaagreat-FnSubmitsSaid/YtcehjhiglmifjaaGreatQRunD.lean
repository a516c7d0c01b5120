/- Parts. -/
import Derived.Test.YtcehjhiglmifjaaGreatQFresh
import Derived.Test.YtcehjhiglmifjaaGreatQPlanF
set_option linter.all false
set_option maxHeartbeats 16000000
set_option maxRecDepth 100000
namespace Go.Proofs.YtcehjhiglmifjaaGreat
open Go.RowKit Go.Sort
theorem jph {α:Type} {A B C v:List α} {o j:Nat} (ho:o=A.length+j) (hj:j+v.length<=B.length):kz (A++(B++C)) o v=A++(kz B j v++C):=by
 subst ho;rw [kY _ _ _ (by simp only [aOU];omega),kY _ _ _ hj]
 have h1:(A++(B++C)).take (A.length+j)=A++B.take j:=by
  rw [List.take_append,aOW (by omega),aQE,List.take_append_of_le_length (by omega)]
 have h2:(A++(B++C)).drop (A.length+j+v.length)=B.drop (j+v.length)++C:=by
  rw [List.drop_append,List.drop_eq_nil_of_le (by omega),aQG,show A.length+j+v.length-A.length=j+v.length by omega,List.drop_append_of_le_length (by omega)]
 rw [h1,h2];simp only [aPH]
section
variable {α:Type} {enc:α->List D} {size ty:Nat} {l:List α} {k:Nat} {x:α}
theorem jbK (hx:l[k]?=some x):l.flatMap enc=(l.take k).flatMap enc++(enc x++(l.drop (k+1)).flatMap enc):=by
 obtain ⟨hk,he⟩:=aOS.1 hx;have e:l=l.take k++x::l.drop (k+1):=by rw [<-he,<-aQT hk,aQR]
 have h2:=congrArg (List.flatMap enc) e;rw [h2,aQO,aPQ]
theorem jj7 (hs:∀x,(enc x).length=size) (hx:l[k]?=some x):((l.take k).flatMap enc).length=k*size:=by
 have hk:=(aOS.1 hx).1;rw [jD hs,aOZ,aQL (by omega)]
theorem jbP (hs:∀x,(enc x).length=size) (hx:l[k]?=some x) {y:α} {j:Nat} {v:List D} (hy:kz (enc x) j v=enc y) (hj:j+v.length<=size):D.put [] (k*size+j) v (.sl size ty (l.flatMap enc))=.sl size ty ((l.set k y).flatMap enc):=by
 have hk:=(aOS.1 hx).1;have h2:(l.set k y)[k]?=some y:=aOY hk;have e1:(l.set k y).take k=l.take k:=List.take_set_of_le (aPD k);have e2:(l.set k y).drop (k+1)=l.drop (k+1):=List.drop_set_of_lt (Nat.lt_succ_self k);simp only [D.put];rw [jbK hx,jph (by rw [jj7 hs hx]) (by rw [hs];exact hj),hy,jbK h2,e1,e2]
theorem qK (hs:∀x,(enc x).length=size) (hx:l[k]?=some x) {j n:Nat} (hj:j+n<=size):((l.flatMap enc).drop (k*size+j)).take n=((enc x).drop j).take n:=by
 rw [jbK hx,<-List.drop_drop,List.drop_left' (jj7 hs hx),List.drop_append_of_le_length (by rw [hs];omega),List.take_append_of_le_length (by rw [aPN,hs];omega)]
theorem ve (hs:∀x,(enc x).length=size) (hx:l[k]?=some x) {j n:Nat} (hj:j+n<=size):k*size+j+n<=(l.flatMap enc).length:=by
 have hk:=(aOS.1 hx).1;rw [jD hs];have:(k+1)*size<=l.length*size:=aRY _ hk;rw [Nat.succ_mul] at this;omega
end
section
variable {l:List Tk} {k:Nat} {x:Tk}
theorem jch (hx:l[k]?=some x) (v:Int):D.put [] (k*4) [.val (.int .i64 v)] (ju l)=ju (l.set k ⟨v,x.aOO,x.tri,x.til⟩):=jbP (enc:=jz) (size:=4) (λ_=>rfl) hx (j:=0) rfl (by simp)
theorem jzn (hx:l[k]?=some x) (v:Int):D.put [] (k*4+0) [.val (.int .i64 v)] (ju l)=ju (l.set k ⟨v,x.aOO,x.tri,x.til⟩):=jbP (enc:=jz) (size:=4) (λ_=>rfl) hx (j:=0) rfl (by simp)
theorem jwt (hx:l[k]?=some x) (v:Int):D.put [] (k*4+1) [.val (.int .i64 v)] (ju l)=ju (l.set k ⟨x.aOG,v,x.tri,x.til⟩):=jbP (enc:=jz) (size:=4) (λ_=>rfl) hx (j:=1) rfl (by simp)
theorem jCr (hx:l[k]?=some x) (v:Int):D.put [] (k*4+2) [.val (.int .i64 v)] (ju l)=ju (l.set k ⟨x.aOG,x.aOO,v,x.til⟩):=jbP (enc:=jz) (size:=4) (λ_=>rfl) hx (j:=2) rfl (by simp)
theorem jfG (hx:l[k]?=some x) (v:Int):D.put [] (k*4+3) [.val (.int .i64 v)] (ju l)=ju (l.set k ⟨x.aOG,x.aOO,x.tri,v⟩):=jbP (enc:=jz) (size:=4) (λ_=>rfl) hx (j:=3) rfl (by simp)
theorem jvi (hx:l[k]?=some x):((l.flatMap jz).drop (k*4)).take 4=jz x:=qK (enc:=jz) (size:=4) (λ_=>rfl) hx (j:=0) (n:=4) (by decide)
theorem jhQ (hx:l[k]?=some x):((l.flatMap jz).drop (k*4)).take 1=[.val (.int .i64 x.aOG)]:=qK (enc:=jz) (size:=4) (λ_=>rfl) hx (j:=0) (n:=1) (by decide)
theorem jf2 (hx:l[k]?=some x):((l.flatMap jz).drop (k*4+0)).take 1=[.val (.int .i64 x.aOG)]:=qK (enc:=jz) (size:=4) (λ_=>rfl) hx (j:=0) (n:=1) (by decide)
theorem jtK (hx:l[k]?=some x):((l.flatMap jz).drop (k*4+1)).take 1=[.val (.int .i64 x.aOO)]:=qK (enc:=jz) (size:=4) (λ_=>rfl) hx (j:=1) (n:=1) (by decide)
theorem jnq (hx:l[k]?=some x):((l.flatMap jz).drop (k*4+2)).take 1=[.val (.int .i64 x.tri)]:=qK (enc:=jz) (size:=4) (λ_=>rfl) hx (j:=2) (n:=1) (by decide)
theorem jyf (hx:l[k]?=some x):((l.flatMap jz).drop (k*4+3)).take 1=[.val (.int .i64 x.til)]:=qK (enc:=jz) (size:=4) (λ_=>rfl) hx (j:=3) (n:=1) (by decide)
theorem jjv (hx:l[k]?=some x):k*4+4<=(l.flatMap jz).length:=ve (enc:=jz) (size:=4) (λ_=>rfl) hx (j:=0) (n:=4) (by decide)
theorem vP (hx:l[k]?=some x):k*4+1<=(l.flatMap jz).length:=ve (enc:=jz) (size:=4) (λ_=>rfl) hx (j:=0) (n:=1) (by decide)
theorem jtd (hx:l[k]?=some x):k*4+1+1<=(l.flatMap jz).length:=ve (enc:=jz) (size:=4) (λ_=>rfl) hx (j:=1) (n:=1) (by decide)
theorem jm8 (hx:l[k]?=some x):k*4+2+1<=(l.flatMap jz).length:=ve (enc:=jz) (size:=4) (λ_=>rfl) hx (j:=2) (n:=1) (by decide)
theorem jlf (hx:l[k]?=some x):k*4+3+1<=(l.flatMap jz).length:=ve (enc:=jz) (size:=4) (λ_=>rfl) hx (j:=3) (n:=1) (by decide)
end
section
variable {l:List En} {k:Nat} {x:En}
theorem jvj (hx:l[k]?=some x):((l.flatMap jj).drop (k*4)).take 4=jj x:=qK (enc:=jj) (size:=4) (λ_=>rfl) hx (j:=0) (n:=4) (by decide)
theorem jqO (hx:l[k]?=some x):((l.flatMap jj).drop (k*4+1)).take 1=[.val (.int .i64 x.seq)]:=qK (enc:=jj) (size:=4) (λ_=>rfl) hx (j:=1) (n:=1) (by decide)
theorem juU (hx:l[k]?=some x):k*4+4<=(l.flatMap jj).length:=ve (enc:=jj) (size:=4) (λ_=>rfl) hx (j:=0) (n:=4) (by decide)
theorem jqd (hx:l[k]?=some x):k*4+1+1<=(l.flatMap jj).length:=ve (enc:=jj) (size:=4) (λ_=>rfl) hx (j:=1) (n:=1) (by decide)
end
abbrev ja7 (b ty:Nat) (r:Rn) (e1 e2:jg):Ob:=.box b ty [.a (.v (.int .i64 r.id)),.a (.v (.int .i64 r.aOF.aOL)),.a (.v (.int .i64 r.aOF.aOQ)),.a (.v (.int .i64 r.aOF.aOP)),.a (.v (.int .i64 r.aOF.aOD)),.own (jn r.aOF.aOI) e1,.a (.v (.int .i64 r.aOG)),.own (ju r.aOD) e2]
abbrev ZRn (b ty:Nat):Ob:=.box b ty [.a (.v (.int .i64 0)),.a (.v (.int .i64 0)),.a (.v (.int .i64 0)),.a (.v (.int .i64 0)),.a (.v (.int .i64 0)),.a (.v (.slice none 0 0)),.a (.v (.int .i64 0)),.a (.v (.slice none 0 0))]
theorem jjd (l:List Tk):D.sl 4 tTk (l.flatMap jz)=ju l:=rfl
def je5:C:=iS [iA 1 (.box 52 8 (.t 0)),iA 2 wAM] (iS [aF 3 1 1,aT 4 5 3,iA 5 (iK 168 [4]),aF 6 1 1,wAF 6 5] (iS [iA 7 (.bsl 46 4 0 [] []),aF 8 7 1,aL 9 8,iA 10 (.app 46 4 32 (.t 7) (.t 9)),aF 11 7 1,wAJ 11 10] (iS [aT 12 8 1,wAC 2 12] .ret)))
theorem jiu:fnC Tryz.prog Tryz.f133=some (je5,[.cell 2 true 8],13):=by kernel_rfl
def jfp:C:=iS [iA 1 (.box 52 8 (.t 0)),iA 2 wAM] (iS [aF 3 1 1,aT 4 5 3,iA 5 (iK 163 [4]),aF 6 1 1,wAF 6 5] (iS [aF 7 7 1,aL 8 7,iA 9 (.app 46 4 32 (.c (.slice none 0 0)) (.t 8)),aF 10 7 1,wAJ 10 9] (iS [aT 11 8 1,wAC 2 11] .ret)))
theorem jiO:fnC Tryz.prog Tryz.f127=some (jfp,[.cell 2 true 8],12):=by kernel_rfl
theorem jeR (r:Rn) (hb:r.aOF.aOI.length<=4000000) (ht:r.aOD.length<=4000000):jZ Tryz.prog 127 [.agg (jd r)] (.agg (jd r)):=by
 refine pf_ jiO ?_;unfold jfp;have h1:r.aOD.length<=maxLen:=vT;have h2:r.aOD.length*32<=140737488355328:=by omega
 simp only [go_sem,jd,je];intro b b2;refine jk (jdk r.aOF hb) λη=>?_
 simp only [go_sem,je];simp only [go_sem,h1,h2,jjd]
theorem vL (r:Rn) (hb:r.aOF.aOI.length<=4000000) (ht:r.aOD.length<=4000000):jZ Tryz.prog 133 [.agg (jd r)] (.agg (jd r)):=by
 refine pf_ jiu ?_;unfold je5;have h1:r.aOD.length<=maxLen:=vT;have h2:r.aOD.length*32<=140737488355328:=by omega
 simp only [go_sem,jd,je];intro b b2;refine jk (jeN r.aOF hb) λη=>?_
 simp only [go_sem,je];simp only [go_sem,h1,h2,jjd]
def je4:C:=iS [iA 2 (.box 52 8 (.t 0)),aO 4 false] (iS [aT 5 8 2,iA 6 (iK 130 [5]),aM 7 6,iB 8 7 true (iM 1),iB 9 7 true (iF 7 2),iB 10 7 true (iL 9),iB 11 7 true (iG 10),iB 12 7 true (iQ .sub 3 11 1),iB 13 7 true (.call 68 [.t 8,oI 0,.t 12]),iA 14 (iY 7 (.t 13) (oF)),aM 15 14,iB 16 15 true (iF 7 2),iB 17 15 true (iL 16),iB 18 15 true (iM 1),iB 19 15 true (iI 4 17 18),iB 20 15 true (iF 0 19),iB 21 15 true (iL 20),iB 22 15 true (iQ .eql 3 21 3),iA 23 (iY 15 (.t 22) (oF)),aM 4 23] .ret)
theorem jit:fnC Tryz.prog Tryz.f172=some (je4,[.t 4],24):=by kernel_rfl
def jfi:C:=iS [iA 2 (.box 52 8 (.t 0)),iA 4 wAM] (iS [aT 9 8 2,iA 10 (iK 133 [9]),iA 5 wAM,wAC 5 10] (.seq (iS [aT 11 8 2,aM 12 1,iA 13 (iK 172 [11,12]),aU 14 13] (iD 14 (iS [aT 15 8 5,wAC 4 15] .ret) .skip)) (iS [aF 16 7 5,aL 17 16,aM 18 1,aI 19 4 17 18,aF 20 0 19,iC (.st 1 [none] (.t 20) (oI 4))] (iS [aF 21 7 5,aL 22 21,aM 23 1,aI 24 4 22 23,aF 25 3 24,iC (.st 1 [none] (.t 25) (oI 0))] (iS [aF 26 1 2,aT 27 5 26,aM 28 1,iA 29 (iK 201 [27,28]),aM 6 29] (.seq (iS [aN 7 0] (.blk 0 (.loop (.seq (iS [aM 30 7,aM 31 6,aG 32 31,aP 33 .lss 3 30 32] (iD 33 .skip (.exit 0))) (.seq (.blk 1 (.seq (.dreg (tA 0 36 (iF 7 5) (tA 1 37 (iL 36) (tA 2 38 (iM 6) (tA 3 39 (iM 7) (tA 4 40 (iI 1 38 39) (tA 5 41 (iL 40) (tA 6 42 (iI 4 37 41) (tA 7 43 (iT 4 42) (tC 8 wAN [7,6,5,4,3,2,1,0] (.alt (wAB 8 43) [] .done .stop) .stop)))))))))) (iS [aF 44 1 8,aL 45 44,aQ 46 .sub 3 45 1,aF 47 1 8,wAD 47 46] (.seq (iS [aF 48 1 8,aL 49 48,aQ 50 .eql 3 49 0] (iD 50 (.reg [aF 51 0 8,iC (.st 1 [none] (.t 51) (oI 2))]) .skip)) (.dreg (tA 0 52 (iF 7 5) (tA 1 53 (iL 52) (tA 2 54 (iM 6) (tA 3 55 (iM 7) (tA 4 56 (iI 1 54 55) (tA 5 57 (iL 56) (tA 6 58 (iT 4 8) (tA 7 59 (iI 4 53 57) (.alt (wAB 59 58) [] .done .stop)))))))))))))) (.reg [aM 34 7,aQ 35 .add 3 34 1,aM 7 35])))))) (iS [aT 60 8 5,iA 61 (iK 179 [60]),aF 62 6 5,wAD 62 61] (iS [aT 63 8 5,wAC 4 63] .ret))))))))
theorem jiH:fnC Tryz.prog Tryz.f190=some (jfi,[.cell 4 true 8],64):=by kernel_rfl
def jlO:C:=iS [aM 7 0,aF 8 0 7,aF 9 7 8,aL 10 9,aM 11 1,aI 12 4 10 11,aF 13 0 12,iC (.st 1 [none] (.t 13) (oI 4))] (iS [aM 14 0,aF 15 0 14,aF 16 7 15,aL 17 16,aM 18 1,aI 19 4 17 18,aF 20 3 19,iC (.st 1 [none] (.t 20) (oI 0))] (.seq (iS [aM 21 0,aF 22 0 21,aF 23 1 22,aT 24 5 23,aM 25 1,iA 26 (iK 174 [24,25]),aG 27 26,aN 28 0] (.blk 0 (.loop (iS [aP 29 .lss 3 28 27] (.seq (iD 29 .skip (.exit 0)) (.seq (.blk 1 (iS [aI 30 1 26 28,aL 31 30,aM 5 31] (iS [aM 32 0,aF 33 0 32,aF 34 7 33,aL 35 34,aM 36 5,aI 37 4 35 36,aM 6 37] (iS [aM 38 6,aF 39 0 38,aF 40 1 39,aL 41 40,aQ 42 .sub 3 41 1,aF 43 0 38,aF 44 1 43,wAD 44 42] (iS [aM 45 6,aF 46 0 45,aF 47 1 46,aL 48 47,aQ 49 .eql 3 48 0] (iD 49 (.reg [aM 50 6,aF 51 0 50,aF 52 0 51,iC (.st 1 [none] (.t 52) (oI 2))]) .skip)))))) (.reg [aQ 53 .add 3 28 1,aM 28 53]))))))) (.seq (.dreg (tA 0 54 (iM 0) (tA 1 55 (iF 0 54) (tA 2 56 (iT 8 55) (tA 5 59 (iM 0) (tA 6 60 (iF 0 59) (tA 7 61 (iF 7 60) (tA 8 62 (iL 61) (tA 9 63 (iG 62) (tC 57 (.call 47 [.t 56,oI 4]) [9,8,7,6,5] (tA 4 58 (iG 57) (tA 10 64 (iP .eql 3 58 63) .done)) .stop)))))))))) (iD 64 (.reg [aM 65 0,aF 66 0 65,aF 67 6 66,iC (.st 1 [none] (.t 67) (oI 2))]) .skip))))
theorem jms:fnC Tryz.prog Tryz.f124=some (jlO,[],68):=by kernel_rfl
theorem jeM (r:Rn) (t:Int):jZ Tryz.prog 172 [.agg (jd r),.c (.val (.int .i64 t))] (.c (.val (.bool (vK r t)))):=by
 refine pf_ jit ?_;unfold je4;simp only [go_sem,jd,je];intro b;refine jk (jdj r) λη=>?_
 simp only [go_sem];cases h:kI r
 ·have hb:vK r t=false:=by simp [vK,h]
  simp only [go_sem,hb]
 have hP:=runOk_iff.1 h;obtain ⟨n,hn,eB,cC,-⟩:=ja8 hP.aOF;have aC:=hP.len;have hw:IntKind.i64.wrap ((r.aOD.length:Int)-1)=(r.aOD.length:Int)-1:=zm;simp only [go_sem,hw];refine jk (jK t 0 (r.aOD.length-1)) λη=>?_
 simp only [go_sem];cases h1:decide (0<=t/\t<=(r.aOD.length:Int)-1)
 ·have hb:vK r t=false:=by simp [vK,inB,h1]
  simp only [go_sem,hb]
 have dG:0<=t/\t<=(r.aOD.length:Int)-1:=by simpa using h1
 have eT:0<=t:=dG.1;have dD:t.toNat<r.aOD.length:=by omega
 obtain ⟨x,hx⟩:=ja dD;have hb:vK r t=(x.aOG==3):=by simp [vK,inB,dG,jnG hx,h]
 simp only [go_sem,eT,dD,jL hx,jz,hb]
theorem jsu {ts:List Tk} {v:Int} {y:Tk} (hy:ts[v.toNat]?=some y):jba ts v=ts.set v.toNat ⟨if IntKind.i64.wrap (y.aOO-1)=0 then 2 else y.aOG,IntKind.i64.wrap (y.aOO-1),y.tri,y.til⟩:=by simp [jba,hy]
theorem jnd {l:List Int} {k:Nat} {v:Int} (hv:l[k]?=some v) (ts:List Tk):(l.take (k+1)).foldl jba ts=jba ((l.take k).foldl jba ts) v:=by
 rw [aPE,hv];simp
theorem jmd (r:Rn) (t:Int) (cW:r.aOF.aOI.length<=4000000) (ht:r.aOD.length<=4000000):jZ Tryz.prog 190 [.agg (jd r),.c (.val (.int .i64 t))] (.agg (jd (kZ r t))):=by
 refine pf_ jiH ?_;unfold jfi;simp only [go_sem,jd,je];intro b b4;refine jk (vL r cW ht) λbI=>?_
 simp only [go_sem,jd,je];intro b5;refine jk (jeM r t) λη=>?_
 simp only [go_sem];cases h:vK r t
 ·simp only [go_sem,juf h]
 obtain ⟨k,x,rfl,hx,hs,hP⟩:=jbh h;obtain ⟨n,hn,eB,cC,dI,bU,aY,-⟩:=ja8 hP.aOF;have aC:=hP.len;have dM:=(aOS.1 hx).1;have eT:=qN k;have bG:(r.aOD.set k ⟨4,x.aOO,x.tri,x.til⟩)[k]?=some ⟨4,x.aOO,x.tri,x.til⟩:=aOY dM;have lY:k<(r.aOD.set k ⟨4,x.aOO,x.tri,x.til⟩).length:=by rw [aPF];exact dM
 have aJR:Int.toNat (k:Int)=k:=aPB k;simp only [go_sem,dM,eT,jzn hx,vP hx,lY,jlf bG,jfG bG,aQB];refine jk (jjt r.aOF k n hn cC dI) λcO=>?_
 simp only [go_sem];have uV:=jtH hn cC dI k;generalize gJ:r.aOD.set k ⟨4,x.aOO,x.tri,0⟩=ts0 at*;have dD:ts0.length=r.aOD.length:=by rw [<-gJ,aPF]
 have uR:vZ r.aOF r.aOD k x=(jca r.aOF k).foldl jba ts0:=by rw [<-gJ];rfl
 have aJB:∀z∈ts0,1<=z.aOG/\z.aOG<=6:=by rw [<-gJ];exact ji4 (q:=λs=>1<=s/\s<=6) (by simp) hP.st
 refine qP (λi:Nat=>St.of [(4,Bx 400 b4),(5,Bx 500 b5),(6,Hd 6 (cO 0)),(7,Ni i)] [(400,ZRn b4 tRn),(500,ja7 b5 tRn ⟨r.id,r.aOF,r.aOG,((jca r.aOF k).take i).foldl jba ts0⟩ (bI 5) (bI 7)),(6,.loose (jc (jca r.aOF k)) (cO 0))]) (λi=>i<=(jca r.aOF k).length) (λi=>(jca r.aOF k).length-i) 0 (js [400,500,2900] (by simp only [go_sem,aQH,List.foldl_nil]<;>trivial)) ?_
 rintro j hj;by_cases aB:j<(jca r.aOF k).length
 ·have aA:(j:Int)<(jca r.aOF k).length:=by omega
  obtain ⟨v,hv⟩:=ja aB;have p8:=jsa hn (aOT hv);have f8:=jgN ((jca r.aOF k).take j) ts0;have e9:=jnd hv ts0;generalize ((jca r.aOF k).take j).foldl jba ts0=ts at*;have bO:v.toNat<ts.length:=by omega
  have oA:=p8.1;obtain ⟨y,hy⟩:=ja bO;have hw:=kw j;rw [jsu hy] at e9;simp only [go_sem,aB,aA,jq hv,jp aB,bO,oA,jvi hy,jjv hy,jz];intro b8;generalize IntKind.i64.wrap (y.aOO-1)=nd at*;cases hz:nd==0
  ·have cQ:¬nd=0:=by simpa using hz
   rw [if_neg cQ] at e9;simp only [go_sem,aB,jq hv,jp aB,bO,oA,jvi hy,jjv hy,jz,jcg y.aOG nd y.tri y.til bO,hw];exact qc (j+1) (js [400,500,6] (by simp only [go_sem,e9]<;>trivial))
  ·have cQ:nd=0:=by simpa using hz
   rw [if_pos cQ] at e9;simp only [go_sem,aB,jq hv,jp aB,bO,oA,jvi hy,jjv hy,jz,jcg 2 nd y.tri y.til bO,hw];exact qc (j+1) (js [400,500,6] (by simp only [go_sem,e9]<;>trivial))
 have aA:¬(j:Int)<(jca r.aOF k).length:=by omega
 rw [aOW (by omega)]
 have yT:=jnh hP hx hs;have hR:kZ r k=jjz r k x:=jfE hx h;have hlD:(vZ r.aOF r.aOD k x).length=r.aOD.length:=jbX _ _ _ _;have aCK:∀z∈vZ r.aOF r.aOD k x,1<=z.aOG/\z.aOG<=6:=joD (q:=λs=>1<=s/\s<=6) (by decide) (by decide) hP.st
 rw [hR,<-uR];have sV:jjz r k x=⟨r.id,r.aOF,jgd (vZ r.aOF r.aOD k x),vZ r.aOF r.aOD k x⟩:=by rw [yT];rfl
 rw [sV];generalize vZ r.aOF r.aOD k x=tD at*;simp only [go_sem,aA];refine jk (jdh ⟨r.id,r.aOF,r.aOG,tD⟩ aCK (by simp only;omega)) λη=>?_
 simp only [go_sem]
def ja4:C:=iS [iA 2 (.box 52 8 (.t 0)),iA 4 wAM] (.seq (iS [aN 5 0] (.blk 0 (.loop (.seq (iS [aM 7 5,aF 8 7 2,aL 9 8,aG 10 9,aP 11 .lss 3 7 10] (iD 11 .skip (.exit 0))) (.seq (.blk 1 (iS [aF 14 7 2,aL 15 14,aM 16 5,aI 17 4 15 16,aT 18 4 17,iA 6 wAN,wAB 6 18] (.seq (iS [aF 19 0 6,aL 20 19,aQ 21 .neq 3 20 4,aM 22 21,iB 23 22 true (iF 0 6),iB 24 22 true (iL 23),iB 25 22 true (iQ .neq 3 24 5),iA 26 (iY 22 (.t 25) (oF))] (iD 26 (iS [aF 27 0 6,iC (.st 1 [none] (.t 27) (oI 6))] (.reg [aF 28 3 6,iC (.st 1 [none] (.t 28) (oI 0))])) .skip)) (.reg [aF 29 7 2,aL 30 29,aM 31 5,aT 32 4 6,aI 33 4 30 31,wAB 33 32])))) (.reg [aM 12 5,aQ 13 .add 3 12 1,aM 5 13])))))) (iS [aM 34 1,aF 35 6 2,wAD 35 34] (iS [aT 36 8 2,wAC 4 36] .ret)))
theorem jbn:fnC Tryz.prog Tryz.f173=some (ja4,[.cell 4 true 8],37):=by kernel_rfl
def jdK:C:=iS [iA 2 (.box 52 8 (.t 0)),iA 4 wAM] (iS [aT 6 8 2,iA 7 (iK 133 [6]),iA 5 wAM,wAC 5 7] (.seq (iS [aT 8 8 2,aM 9 1,iA 10 (iK 172 [8,9]),aU 11 10] (iD 11 (iS [aT 12 8 5,wAC 4 12] .ret) .skip)) (iS [aF 13 7 5,aL 14 13,aM 15 1,aI 16 4 14 15,aF 17 3 16,iC (.st 1 [none] (.t 17) (oI 0))] (iS [aF 18 7 5,aL 19 18,aM 20 1,aI 21 4 19 20,aF 22 0 21,iC (.st 1 [none] (.t 22) (oI 2))] (.seq (.seq (.dreg (tA 0 23 (iF 7 5) (tA 1 24 (iL 23) (tA 2 25 (iM 1) (tA 3 26 (iI 4 24 25) (tA 4 27 (iF 2 26) (tA 5 28 (iL 27) (tA 6 29 (iF 1 2) (tA 7 30 (iF 1 29) (tA 8 31 (iL 30) (tA 9 32 (iP .lss 3 28 31) .done))))))))))) (iD 32 (iS [aT 33 8 5,wAC 4 33] .ret) .skip)) (iS [aF 34 7 5,aL 35 34,aM 36 1,aI 37 4 35 36,aF 38 0 37,iC (.st 1 [none] (.t 38) (oI 5))] (iS [aT 39 8 5,iA 40 (.call 173 [.t 39,oI 3]),wAC 4 40] .ret)))))))
theorem jg0:fnC Tryz.prog Tryz.f120=some (jdK,[.cell 4 true 8],41):=by kernel_rfl
def jdV:C:=iS [aM 6 0,aF 7 0 6,aF 8 7 7,aL 9 8,aG 10 9,aN 11 0] (.blk 0 (.loop (iS [aP 12 .lss 3 11 10] (.seq (iD 12 .skip (.exit 0)) (.seq (.blk 1 (iS [aM 13 11,aM 4 13] (iS [aM 14 0,aF 15 0 14,aF 16 7 15,aL 17 16,aM 18 4,aI 19 4 17 18,aM 5 19] (iS [aM 20 4,aM 21 1,aP 22 .neq 3 20 21,aM 23 22,iB 24 23 true (iM 5),iB 25 23 true (iF 0 24),iB 26 23 true (iF 0 25),iB 27 23 true (iL 26),iB 28 23 true (iQ .neq 3 27 4),iA 29 (iY 23 (.t 28) (oF))] (iD 29 (iS [aM 30 5,aF 31 0 30,aF 32 0 31,iC (.st 1 [none] (.t 32) (oI 6))] (.reg [aM 33 5,aF 34 0 33,aF 35 3 34,iC (.st 1 [none] (.t 35) (oI 0))])) .skip))))) (.reg [aQ 36 .add 3 11 1,aM 11 36]))))))
theorem jdC:fnC Tryz.prog Tryz.f171=some (jdV,[],37):=by kernel_rfl
def jjk:C:=iS [aM 5 0,aF 6 0 5,aF 7 7 6,aL 8 7,aM 9 1,aI 10 4 8 9,aM 4 10] (iS [aM 11 4,aF 12 0 11,aF 13 3 12,iC (.st 1 [none] (.t 13) (oI 0))] (.seq (.seq (.dreg (tA 0 14 (iM 4) (tA 1 15 (iF 0 14) (tA 2 16 (iF 2 15) (tA 3 17 (iL 16) (tA 4 18 (iM 0) (tA 5 19 (iF 0 18) (tA 6 20 (iF 1 19) (tA 7 21 (iF 1 20) (tA 8 22 (iL 21) (tA 9 23 (iP .lss 3 17 22) .done))))))))))) (iD 23 (iS [aM 24 4,aF 25 0 24,aF 26 0 25,iC (.st 1 [none] (.t 26) (oI 2))] .ret) .skip)) (iS [aM 27 4,aF 28 0 27,aF 29 0 28,iC (.st 1 [none] (.t 29) (oI 5))] (iS [aM 30 0,aM 31 1,iA 32 (iK 171 [30,31])] (.reg [aM 33 0,aF 34 0 33,aF 35 6 34,iC (.st 1 [none] (.t 35) (oI 3))])))))
theorem jlE:fnC Tryz.prog Tryz.f118=some (jjk,[],36):=by kernel_rfl
theorem jaV (r:Rn) (t:Int) (cW:r.aOF.aOI.length<=4000000) (ht:r.aOD.length<=4000000):jZ Tryz.prog 120 [.agg (jd r),.c (.val (.int .i64 t))] (.agg (jd (jC r t))):=by
 refine pf_ jg0 ?_;unfold jdK;simp only [go_sem,jd,je];intro b b4;refine jk (vL r cW ht) λbI=>?_
 simp only [go_sem,jd,je];intro b5;refine jk (jeM r t) λη=>?_
 simp only [go_sem];cases h:vK r t
 ·simp only [go_sem,jfD h]
 obtain ⟨k,x,rfl,hx,hs,hP⟩:=jbh h;obtain ⟨n,hn,eB,cC,dI,bU,aY,-⟩:=ja8 hP.aOF;have aC:=hP.len;have dM:=(aOS.1 hx).1;have eT:=qN k;have bG:(r.aOD.set k ⟨x.aOG,x.aOO,x.tri,0⟩)[k]?=some ⟨x.aOG,x.aOO,x.tri,0⟩:=aOY dM;have sO:(r.aOD.set k ⟨2,x.aOO,x.tri,0⟩)[k]?=some ⟨2,x.aOO,x.tri,0⟩:=aOY dM;have lY:k<(r.aOD.set k ⟨x.aOG,x.aOO,x.tri,0⟩).length:=by rw [aPF];exact dM
 have o8:k<(r.aOD.set k ⟨2,x.aOO,x.tri,0⟩).length:=by rw [aPF];exact dM
 simp only [go_sem,aPO,dM,eT,jfG hx,jlf hx,lY,vP bG,jch bG,aQB,o8,jnq sO,jm8 sO];by_cases hm:x.tri<r.aOF.aOQ
 ·have hR:jC r k=⟨r.id,r.aOF,r.aOG,r.aOD.set k ⟨2,x.aOO,x.tri,0⟩⟩:=by rw [qR hx h,zH,if_pos hm]
  simp only [go_sem,hm,hR]
 have hR:jC r k=⟨r.id,r.aOF,3,vv jy (r.aOD.set k ⟨5,x.aOO,x.tri,0⟩) r.aOD.length⟩:=by rw [qR hx h,zH,if_neg hm]
 rw [hR];simp only [go_sem,aPO,hm,o8,eT,jch sO,vP sO,aQB];have dD:(r.aOD.set k ⟨5,x.aOO,x.tri,0⟩).length=r.aOD.length:=by rw [aPF]
 generalize r.aOD.set k ⟨5,x.aOO,x.tri,0⟩=ts0 at*;refine kW (qm (β:=7000000) Tryz.func173 jbn (by simp) ?_)
 unfold ja4;simp only [go_sem];intro b72 b74;refine qP (λi:Nat=>St.of [(1,Ni 3),(2,Bx 2 b72),(4,Bx 4 b74),(5,Ni i)] [(400,ZRn b4 tRn),(2,ja7 b72 tRn ⟨r.id,r.aOF,r.aOG,vv jy ts0 i⟩ (bI 5) (bI 7)),(4,ZRn b74 tRn)]) (λi=>i<=ts0.length) (λi=>ts0.length-i) 0 (js [400,700000200,700000400] (by simp only [go_sem,js5]<;>trivial)) ?_
 rintro j hj;have dX:=zw (f:=jy) (ts:=ts0) (k:=j);by_cases aB:j<ts0.length
 ·have aA:(j:Int)<ts0.length:=by omega
  have dK:=qN j;obtain ⟨y,hy⟩:=ja aB;have fP:=jgu (f:=jy) hy;have cU:=jgt (f:=jy) hy;generalize vv jy ts0 j=M at*;have lJ:j<M.length:=by omega
  have hw:=kw j;simp only [go_sem,dX,aA,dK,aB,jvi fP,jjv fP,jz];intro b6;cases gB:y.aOG !=4
  ·have lS:y.aOG=4:=by simpa using gB
   have nU:jy j y=y:=by simp [jy,lS]
   have hg:jy j y=⟨y.aOG,y.aOO,y.tri,y.til⟩:=nU;rw [hg] at cU;simp only [go_sem,dX,dK,aB,jcg y.aOG y.aOO y.tri y.til lJ,cU,jjv fP,hw];exact qc (j+1) (js [400,2,4])
  cases sB:y.aOG !=5
  ·have uC:y.aOG=5:=by simpa using sB
   have nU:jy j y=y:=by simp [jy,uC]
   have hg:jy j y=⟨y.aOG,y.aOO,y.tri,y.til⟩:=nU;rw [hg] at cU;simp only [go_sem,aPO,dX,dK,aB,sB,jcg y.aOG y.aOO y.tri y.til lJ,cU,jjv fP,hw];exact qc (j+1) (js [400,2,4])
  ·have hg:jy j y=⟨6,y.aOO,y.tri,0⟩:=by
    have h1:¬y.aOG=4:=by simpa using gB
    have h2:¬y.aOG=5:=by simpa using sB
    simp [jy,h1,h2]
   rw [hg] at cU;simp only [go_sem,aPO,dX,dK,aB,sB,jcg 6 y.aOO y.tri 0 lJ,cU,jjv fP,hw];exact qc (j+1) (js [400,2,4])
 have aA:¬(j:Int)<ts0.length:=by omega
 obtain rfl:j=ts0.length:=by omega
 rw [<-dD];generalize vv jy ts0 ts0.length=M at*;simp only [go_sem,dX,aA]
def jji:C:=iS [iA 2 (.box 44 4 (.t 0)),iA 3 (.box 44 4 (.t 1)),aO 4 false] (iS [aF 5 0 2,aL 6 5,aF 7 0 3,aL 8 7,aP 9 .gtr 3 6 8,aM 10 9,iB 11 10 false (iF 0 2),iB 12 10 false (iL 11),iB 13 10 false (iF 0 3),iB 14 10 false (iL 13),iB 15 10 false (iP .eql 3 12 14),iB 16 10 false (iM 15),iB 17 16 true (iF 1 2),iB 18 16 true (iL 17),iB 19 16 true (iF 1 3),iB 20 16 true (iL 19),iB 21 16 true (iP .lss 3 18 20),iB 22 10 false (iY 16 (.t 21) (oF)),iA 23 (iY 10 (oT) (.t 22)),aM 4 23] .ret)
theorem jlC:fnC Tryz.prog Tryz.f180=some (jji,[.t 4],24):=by kernel_rfl
def jjo:C:=iS [iA 2 (.box 44 4 (.t 0)),iA 3 (.box 44 4 (.t 1)),aO 4 false] (iS [aF 5 0 2,aL 6 5,aF 7 0 3,aL 8 7,aP 9 .gtr 3 6 8,aM 10 9,iB 11 10 false (iF 0 2),iB 12 10 false (iL 11),iB 13 10 false (iF 0 3),iB 14 10 false (iL 13),iB 15 10 false (iP .eql 3 12 14),iB 16 10 false (iM 15),iB 17 16 true (iF 1 2),iB 18 16 true (iL 17),iB 19 16 true (iF 1 3),iB 20 16 true (iL 19),iB 21 16 true (iP .lss 3 18 20),iB 22 10 false (iY 16 (.t 21) (oF)),iA 23 (iY 10 (oT) (.t 22)),aM 4 23] .ret)
theorem jlJ:fnC Tryz.prog Tryz.f138=some (jjo,[.t 4],24):=by kernel_rfl
def jff:C:=iS [aO 2 false] (.seq (iS [aM 4 0,aG 5 4,aQ 6 .gtr 3 5 80] (iD 6 (iS [aO 2 false] .ret) .skip)) (.seq (iS [aN 3 1] (.blk 0 (.loop (.seq (iS [aM 7 3,aM 8 0,aG 9 8,aP 10 .lss 3 7 9] (iD 10 .skip (.exit 0))) (.seq (.blk 1 (.seq (.dreg (tA 0 13 (iM 0) (tA 1 14 (iM 3) (tA 2 15 (iQ .sub 3 14 1) (tA 3 16 (iI 4 13 15) (tA 4 17 (iT 4 16) (tA 5 18 (iM 0) (tA 6 19 (iM 3) (tA 7 20 (iI 4 18 19) (tA 8 21 (iT 4 20) (tC 22 (iK 180 [17,21]) [] (tA 10 23 (iU 22) .done) .stop))))))))))) (iD 23 (iS [aO 2 false] .ret) .skip))) (.reg [aM 11 3,aQ 12 .add 3 11 1,aM 3 12])))))) (iS [aO 2 true] .ret)))
theorem jiE:fnC Tryz.prog Tryz.f177=some (jff,[.t 2],24):=by kernel_rfl
def jft:C:=iS [aO 2 false] (.seq (iS [aN 3 1] (.blk 0 (.loop (.seq (iS [aM 4 3,aM 5 0,aG 6 5,aP 7 .lss 3 4 6] (iD 7 .skip (.exit 0))) (.seq (.blk 1 (.seq (.dreg (tA 0 10 (iM 0) (tA 1 11 (iM 3) (tA 2 12 (iQ .sub 3 11 1) (tA 3 13 (iI 4 10 12) (tA 4 14 (iT 4 13) (tA 5 15 (iM 0) (tA 6 16 (iM 3) (tA 7 17 (iI 4 15 16) (tA 8 18 (iT 4 17) (tC 19 (iK 138 [14,18]) [] (tA 10 20 (iU 19) .done) .stop))))))))))) (iD 20 (iS [aO 2 false] .ret) .skip))) (.reg [aM 8 3,aQ 9 .add 3 8 1,aM 3 9])))))) (iS [aM 21 0,aG 22 21,aQ 23 .leq 3 22 80,aM 2 23] .ret))
theorem jiS:fnC Tryz.prog Tryz.f78=some (jft,[.t 2],24):=by kernel_rfl
def zB:C:=iS [aN 4 0] (.seq (iS [aM 6 0,aG 7 6,aN 8 0] (.blk 0 (.loop (iS [aP 9 .lss 3 8 7] (.seq (iD 9 .skip (.exit 0)) (.seq (.blk 1 (iS [aM 10 8,aM 5 10] (iS [aM 11 1,aM 12 0,aM 13 5,aI 14 1 12 13,aL 15 14,aP 16 .eql 3 11 15] (iD 16 (iS [aM 17 5,aM 4 17] .ret) .skip)))) (.reg [aQ 18 .add 3 8 1,aM 8 18]))))))) (iS [aN 4 (-1)] .ret))
theorem jbe:fnC Tryz.prog Tryz.f139=some (zB,[.t 4],19):=by kernel_rfl
def vH:C:=iS [aO 4 false] (iS [aM 5 0,aM 6 1,iA 7 (iK 139 [5,6]),aQ 8 .geq 3 7 0,aM 4 8] .ret)
theorem jay:fnC Tryz.prog Tryz.f80=some (vH,[.t 4],9):=by kernel_rfl
theorem ji8 (x y:En):jZ Tryz.prog 180 [.agg (jj x),.agg (jj y)] (.c (.val (.bool (km x y)))):=by
 refine pf_ jlC ?_;unfold jji;simp only [go_sem,jj];intro b b2;by_cases h1:x.aOL>y.aOL
 ·have hb:km x y=true:=by simp [km,h1]
  simp only [go_sem,h1,hb]
 ·cases h2:x.aOL==y.aOL
  ·have hb:km x y=false:=by
    have:¬x.aOL=y.aOL:=by simpa using h2
    simp only [km,aPX];omega
   simp only [go_sem,h1,h2,hb]
  ·have hb:km x y=decide (x.seq<y.seq):=by
    have:x.aOL=y.aOL:=by simpa using h2
    simp only [km,this,Int.lt_irrefl,gt_iff_lt,false_or,true_and]
   simp only [go_sem,h1,h2,hb]
theorem jja (x y:En):jZ Tryz.prog 138 [.agg (jj x),.agg (jj y)] (.c (.val (.bool (km x y)))):=by
 refine pf_ jlJ ?_;unfold jjo;simp only [go_sem,jj];intro b b2;by_cases h1:x.aOL>y.aOL
 ·have hb:km x y=true:=by simp [km,h1]
  simp only [go_sem,h1,hb]
 ·cases h2:x.aOL==y.aOL
  ·have hb:km x y=false:=by
    have:¬x.aOL=y.aOL:=by simpa using h2
    simp only [km,aPX];omega
   simp only [go_sem,h1,h2,hb]
  ·have hb:km x y=decide (x.seq<y.seq):=by
    have:x.aOL=y.aOL:=by simpa using h2
    simp only [km,this,Int.lt_irrefl,gt_iff_lt,false_or,true_and]
   simp only [go_sem,h1,h2,hb]
theorem jmb (l:List En) (hl:l.length<=4000000):jZ Tryz.prog 177 [.c (jf l)] (.c (.val (.bool (jaz l)))):=by
 refine pf_ jiE ?_;unfold jff;simp only [go_sem];by_cases z6:80<l.length
 ·have mU:(l.length:Int)>80:=by omega
  have hb:jaz l=false:=jka λh=>by have:=h.aOQ;omega
  simp only [go_sem,mU,hb]
 have mU:¬(l.length:Int)>80:=by omega
 simp only [go_sem,mU];refine kh (λi:Nat=>St.of [(0,Ro (jf l)),(3,Ni i)] []) (λi=>1<=i/\(i<=l.length\/i=1)/\∀(k:Nat) (a b:En),k+1<i->l[k]?=some a->l[k+1]?=some b->km a b=true) (λi=>l.length-i) 1 (⟨by omega,.inr rfl,λk a b h=>by omega⟩) (vU [] (by simp only [go_sem]<;>trivial)) ?_
 rintro i ⟨gX,hi2,yH⟩;by_cases aB:i<l.length
 ·have aA:(i:Int)<l.length:=by omega
  obtain ⟨j,rfl⟩:∃j,i=j+1:=⟨i-1,by omega⟩
  obtain ⟨x,hx⟩:=ja (show j<l.length by omega)
  obtain ⟨y,hy⟩:=ja aB;have bJ:j<l.length:=by omega
  have hw:IntKind.i64.wrap (((j+1:Nat):Int)+1)=((j+1+1:Nat):Int):=zm;have fK:IntKind.i64.wrap (((j+1:Nat):Int)-1)=(j:Int):=by rw [kU (by omega) (by omega)];omega
  simp only [go_sem,aA,aB,bJ,fK,jU hx,jU hy,jj];refine jk (ji8 x y) λη=>?_
  simp only [go_sem];cases ha:km x y
  ·have hb:jaz l=false:=jka λh=>by have:=h.ahead j x y hx hy;rw [ha] at this;cases this
   simp only [go_sem,hb]
  ·simp only [go_sem,hw]
   exact ⟨j+1+1,⟨by omega,.inl (by omega),λk a b hk u5 a9=>by rcases Nat.lt_or_ge (k+1) (j+1) with h'|h';exact yH k a b h' u5 a9;obtain rfl:k=j:=(by omega);rw [hx] at u5;rw [hy] at a9;cases u5;cases a9;exact ha⟩,(vU [] (by simp only [go_sem]<;>trivial)),by (try dsimp only);omega⟩
 have aA:¬(i:Int)<l.length:=by omega
 have hb:jaz l=true:=jgf ⟨by omega,λk a b ha hb=>yH k a b (by have:=(aOS.1 hb).1;omega) ha hb⟩
 simp only [go_sem,aA,hb]
theorem jmg (l:List En) (hl:l.length<=4000000):jZ Tryz.prog 78 [.c (jf l)] (.c (.val (.bool (jaz l)))):=by
 refine pf_ jiS ?_;unfold jft;simp only [go_sem];refine kh (λi:Nat=>St.of [(0,Ro (jf l)),(3,Ni i)] []) (λi=>1<=i/\(i<=l.length\/i=1)/\∀(k:Nat) (a b:En),k+1<i->l[k]?=some a->l[k+1]?=some b->km a b=true) (λi=>l.length-i) 1 (⟨by omega,.inr rfl,λk a b h=>by omega⟩) (vU [] (by simp only [go_sem]<;>trivial)) ?_
 rintro i ⟨gX,hi2,yH⟩;by_cases aB:i<l.length
 ·have aA:(i:Int)<l.length:=by omega
  obtain ⟨j,rfl⟩:∃j,i=j+1:=⟨i-1,by omega⟩
  obtain ⟨x,hx⟩:=ja (show j<l.length by omega)
  obtain ⟨y,hy⟩:=ja aB;have bJ:j<l.length:=by omega
  have hw:IntKind.i64.wrap (((j+1:Nat):Int)+1)=((j+1+1:Nat):Int):=zm;have fK:IntKind.i64.wrap (((j+1:Nat):Int)-1)=(j:Int):=by rw [kU (by omega) (by omega)];omega
  simp only [go_sem,aA,aB,bJ,fK,jU hx,jU hy,jj];refine jk (jja x y) λη=>?_
  simp only [go_sem];cases ha:km x y
  ·have hb:jaz l=false:=jka λh=>by have:=h.ahead j x y hx hy;rw [ha] at this;cases this
   simp only [go_sem,hb]
  ·simp only [go_sem,hw]
   exact ⟨j+1+1,⟨by omega,.inl (by omega),λk a b hk u5 a9=>by rcases Nat.lt_or_ge (k+1) (j+1) with h'|h';exact yH k a b h' u5 a9;obtain rfl:k=j:=(by omega);rw [hx] at u5;rw [hy] at a9;cases u5;cases a9;exact ha⟩,(vU [] (by simp only [go_sem]<;>trivial)),by (try dsimp only);omega⟩
 have aA:¬(i:Int)<l.length:=by omega
 by_cases z6:l.length<=80
 ·have mU:(l.length:Int)<=80:=by omega
  have hb:jaz l=true:=jgf ⟨z6,λk a b ha hb=>yH k a b (by have:=(aOS.1 hb).1;omega) ha hb⟩
  simp only [go_sem,aA,mU,hb]
 ·have mU:¬(l.length:Int)<=80:=by omega
  have hb:jaz l=false:=jka λh=>z6 h.aOQ
  simp only [go_sem,aA,mU,hb]
theorem jzs (l:List Int) (e:Int) (hl:l.length<=4000000):jZ Tryz.prog 139 [.c (jc l),.c (.val (.int .i64 e))] (.c (.val (.int .i64 (jew (λx=>e==x) l)))):=by
 refine pf_ jbe ?_;unfold zB;simp only [go_sem];refine qP (λi:Nat=>St.of [(0,Ro (jc l)),(1,Ni e),(7,Ni l.length),(8,Ni i)] []) (λi=>i<=l.length/\∀y∈l.take i,(λx=>e==x) y=false) (λi=>l.length-i) 0 (vU [] (by simp only [go_sem]<;>trivial)) ?_
 rintro k ⟨hk,cX⟩;by_cases aB:k<l.length
 ·have aA:(k:Int)<l.length:=by omega
  obtain ⟨x,hx⟩:=ja aB;have hw:=kw k;cases dJ:e==x
  ·simp only [go_sem,aB,aA,qV hx,dJ,hw]
   exact ⟨k+1,⟨aB,jnD hx dJ cX⟩,(vU [] (by simp only [go_sem]<;>trivial)),by (try dsimp only);omega⟩
  ·simp only [go_sem,aB,aA,qV hx,dJ,jbW hx dJ cX]
 ·have aA:¬(k:Int)<l.length:=by omega
  rw [aOW (by omega)] at cX
  simp only [go_sem,aA,jaO cX]
theorem jk4 (l:List Int) (e:Int) (hl:l.length<=4000000):jZ Tryz.prog 80 [.c (jc l),.c (.val (.int .i64 e))] (.c (.val (.bool (decide (e∈l))))):=by
 refine pf_ jay ?_;unfold vH;simp only [go_sem];refine jk (jzs l e hl) λη=>?_
 simp only [go_sem];rcases zW (λx=>e==x) l with ⟨h1,h2⟩|⟨k,x,h1,h2,h3,-⟩
 ·have hm:decide (e∈l)=false:=decide_eq_false λh=>by have:=h2 e h;simp at this
  rw [h1,hm];simp only [go_sem]
 ·have hm:decide (e∈l)=true:=decide_eq_true (by have h4:e=x:=by simpa using h3
                                                exact h4▸aOT h2)
  have hk:=qN k;rw [h1,hm];simp only [go_sem,hk]
def jhn:C:=iS [iA 3 (.box 27 4 (.t 0)),iA 4 (.box 52 8 (.t 1)),aO 6 false] (.seq (iS [aN 7 0] (.blk 0 (.loop (.seq (iS [aM 10 7,aF 11 7 4,aL 12 11,aG 13 12,aP 14 .lss 3 10 13] (iD 14 .skip (.exit 0))) (.seq (.blk 1 (iS [aN 8 0] (.seq (iS [aN 9 0] (.blk 2 (.loop (.seq (iS [aM 17 9,aM 18 2,aG 19 18,aP 20 .lss 3 17 19] (iD 20 .skip (.exit 2))) (.seq (.blk 3 (.seq (.dreg (tA 0 23 (iM 2) (tA 1 24 (iM 9) (tA 2 25 (iI 4 23 24) (tA 3 26 (iF 2 25) (tA 4 27 (iL 26) (tA 5 28 (iF 0 4) (tA 6 29 (iL 28) (tA 7 30 (iP .eql 3 27 29) (tA 8 31 (iM 30) (tB 9 32 31 true (iM 2) (tB 10 33 31 true (iM 9) (tB 11 34 31 true (iI 4 32 33) (tB 12 35 31 true (iF 3 34) (tB 13 36 31 true (iL 35) (tB 14 37 31 true (iM 7) (tB 15 38 31 true (iP .eql 3 36 37) (tA 16 39 (iY 31 (.t 38) (oF)) .done)))))))))))))))))) (iD 39 (iS [aM 40 8,aQ 41 .add 3 40 1,aM 8 41] (.seq (.dreg (tA 0 42 (iF 7 4) (tA 1 43 (iL 42) (tA 2 44 (iM 7) (tA 3 45 (iI 4 43 44) (tA 4 46 (iF 0 45) (tA 5 47 (iL 46) (tA 6 48 (iQ .eql 3 47 2) (tA 7 49 (iM 48) (tB 8 50 49 true (iM 2) (tB 9 51 49 true (iM 9) (tB 10 52 49 true (iI 4 50 51) (tB 11 53 49 true (iF 0 52) (tB 12 54 49 true (iL 53) (tB 13 55 49 true (iF 1 4) (tB 14 56 49 true (iF 0 55) (tB 15 57 49 true (iL 56) (tB 16 58 49 true (iP .neq 3 54 57) (tA 17 59 (iY 49 (.t 58) (oF)) .done))))))))))))))))))) (iD 59 (iS [aO 6 false] .ret) .skip))) .skip))) (.reg [aM 21 9,aQ 22 .add 3 21 1,aM 9 22])))))) (.seq (.dreg (tA 0 60 (iF 7 4) (tA 1 61 (iL 60) (tA 2 62 (iM 7) (tA 3 63 (iI 4 61 62) (tA 4 64 (iF 0 63) (tA 5 65 (iL 64) (tA 6 66 (iQ .eql 3 65 2) (tA 7 67 (iM 66) (tB 8 68 67 true (iM 8) (tB 9 69 67 true (iQ .neq 3 68 1) (tA 10 70 (iY 67 (.t 69) (oF)) (tA 11 71 (iM 70) (tB 12 72 71 false (iF 7 4) (tB 13 73 71 false (iL 72) (tB 14 74 71 false (iM 7) (tB 15 75 71 false (iI 4 73 74) (tB 16 76 71 false (iF 0 75) (tB 17 77 71 false (iL 76) (tB 18 78 71 false (iQ .eql 3 77 3) (tB 19 79 71 false (iM 78) (tB 20 80 79 true (iF 7 4) (tB 21 81 79 true (iL 80) (tB 22 82 79 true (iM 7) (tB 23 83 79 true (iI 4 81 82) (tB 24 84 79 true (iF 3 83) (tB 25 85 79 true (iL 84) (tB 26 86 79 true (iF 0 3) (tB 27 87 79 true (iL 86) (tB 28 88 79 true (iQ .add 3 87 1) (tB 29 89 79 true (iF 0 3) (tB 30 90 79 true (iL 89) (tB 31 91 79 true (iF 1 4) (tB 32 92 79 true (iF 2 91) (tB 33 93 79 true (iL 92) (tB 34 94 79 true (iP .add 3 90 93) (.alt (iB 95 79 true (iK 68 [85,88,94])) [] (tB 36 96 79 true (iU 95) (tB 37 97 71 false (iY 79 (.t 96) (oF)) (tA 38 98 (iY 71 (oT) (.t 97)) .done))) .stop))))))))))))))))))))))))))))))))))))) (iD 98 (iS [aO 6 false] .ret) .skip))))) (.reg [aM 15 7,aQ 16 .add 3 15 1,aM 7 16])))))) (iS [aO 6 true] .ret))
theorem jjC:fnC Tryz.prog Tryz.f131=some (jhn,[.t 6],99):=by kernel_rfl
def jhB:C:=iS [iA 3 (.box 27 4 (.t 0)),iA 4 (.box 52 8 (.t 1)),aO 6 false] (.seq (iS [aF 12 7 4,aL 13 12,aG 14 13,aN 15 0] (.blk 0 (.loop (iS [aP 16 .lss 3 15 14] (.seq (iD 16 .skip (.exit 0)) (.seq (.blk 1 (iS [aM 17 15,aI 18 4 13 15,aT 19 4 18,iA 8 wAN,aM 7 17,wAB 8 19] (iS [aN 9 0] (.seq (iS [aM 20 2,aG 21 20,aN 22 0] (.blk 2 (.loop (iS [aP 23 .lss 3 22 21] (.seq (iD 23 .skip (.exit 2)) (.seq (.blk 3 (iS [aI 24 4 20 22,aT 25 4 24,iA 11 wAP,wAB 11 25] (iS [aF 26 2 11,aL 27 26,aF 28 0 4,aL 29 28,aP 30 .eql 3 27 29,aM 31 30,iB 32 31 true (iF 3 11),iB 33 31 true (iL 32),iB 34 31 true (iM 7),iB 35 31 true (iP .eql 3 33 34),iA 36 (iY 31 (.t 35) (oF))] (iD 36 (.seq (iS [aF 37 0 8,aL 38 37,aQ 39 .eql 3 38 2,aM 40 39,iB 41 40 true (iF 0 11),iB 42 40 true (iL 41),iB 43 40 true (iF 1 4),iB 44 40 true (iF 0 43),iB 45 40 true (iL 44),iB 46 40 true (iP .neq 3 42 45),iA 47 (iY 40 (.t 46) (oF))] (iD 47 (iS [aO 6 false] .ret) .skip)) (.reg [aM 48 9,aQ 49 .add 3 48 1,aM 9 49])) .skip)))) (.reg [aQ 50 .add 3 22 1,aM 22 50]))))))) (iS [aF 51 0 8,aL 52 51,aQ 53 .eql 3 52 2,aM 54 53,iB 55 54 true (iM 9),iB 56 54 true (iQ .neq 3 55 1),iA 57 (iY 54 (.t 56) (oF)),aM 58 57,iB 59 58 false (iF 0 8),iB 60 58 false (iL 59),iB 61 58 false (iQ .eql 3 60 3),iB 62 58 false (iM 61),iB 63 62 true (iF 3 8),iB 64 62 true (iL 63),iB 65 62 true (iF 0 3),iB 66 62 true (iL 65),iB 67 62 true (iQ .add 3 66 1),iB 68 62 true (iF 0 3),iB 69 62 true (iL 68),iB 70 62 true (iF 1 4),iB 71 62 true (iF 2 70),iB 72 62 true (iL 71),iB 73 62 true (iP .add 3 69 72),iB 74 62 true (iK 62 [64,67,73]),iB 75 62 true (iU 74),iB 76 58 false (iY 62 (.t 75) (oF)),iA 77 (iY 58 (oT) (.t 76))] (iD 77 (iS [aO 6 false] .ret) .skip)))))) (.reg [aQ 78 .add 3 15 1,aM 15 78]))))))) (iS [aO 6 true] .ret))
theorem jjQ:fnC Tryz.prog Tryz.f82=some (jhB,[.t 6],79):=by kernel_rfl
theorem jnY (y:Yd) (r:Rn) (l:List En) (hl:l.length<=4000000) (ht:r.aOD.length<=4000000) (hy:0<=y.now/\y.now<=999999980) (mG:1<=r.aOF.aOP/\r.aOF.aOP<=20):jZ Tryz.prog 131 [.agg (jb y),.agg (jd r),.c (jf l)] (.c (.val (.bool (zG y r l)))):=by
 refine pf_ jjC ?_;unfold jhn;have pZ:IntKind.i64.wrap (y.now+1)=y.now+1:=zm;have hww:IntKind.i64.wrap (y.now+r.aOF.aOP)=y.now+r.aOF.aOP:=zm;simp only [go_sem,jb,jd,je];intro b3 b4;refine qP (λi:Nat=>St.of [(2,Ro (jf l)),(3,Bx 300 b3),(4,Bx 400 b4),(7,Ni i)] [(300,Bi b3 _ (jb y)),(400,Bi b4 _ (jd r))]) (λi=>i<=r.aOD.length/\∀(t:Nat) (x:Tk),t<i->r.aOD[t]?=some x->jkw y r l t x) (λi=>r.aOD.length-i) 0 (js [300,400] (by simp only [go_sem,jb,jd,je]<;>trivial)) ?_
 rintro k ⟨hk,cX⟩;by_cases aB:k<r.aOD.length
 ·have aA:(k:Int)<r.aOD.length:=by omega
  have bL:=qN k;obtain ⟨x,hx⟩:=ja aB;have hw:=kw k;simp only [go_sem,jb,jd,je,aA];refine qP (λi:Nat=>St.of [(2,Ro (jf l)),(3,Bx 300 b3),(4,Bx 400 b4),(7,Ni k),(8,Ni (jaq r.id k (l.take i))),(9,Ni i)] [(300,Bi b3 _ (jb y)),(400,Bi b4 _ (jd r))]) (λi=>i<=l.length/\(x.aOG=2->∀e∈l.take i,e.run=r.id->e.aOK=k->e.aOL=r.aOF.aOL)) (λi=>l.length-i) 0 (js [300,400] (by simp only [go_sem,jb,jd,je,aQH,jaq,List.filter_nil,aPU]<;>trivial)) ?_
  rintro j ⟨hj,eE⟩;by_cases bJ:j<l.length
  ·as_aux_lemma=>
    have aX:(j:Int)<l.length:=by omega
    obtain ⟨e,he⟩:=ja bJ;have cZ:=kw j;have dN:=jxV (l.take j) r.id k;rw [aOZ] at dN;have hwc:IntKind.i64.wrap ((jaq r.id k (l.take j):Int)+1)=((jaq r.id k (l.take j)+1:Nat):Int):=zm
    have cE:¬(e.run=r.id/\e.aOK=k)->(x.aOG=2->∀e∈l.take (j+1),e.run=r.id->e.aOK=k->e.aOL=r.aOF.aOL):=λeA h2 e2 cA h3 h4=>by
     rw [aPE,he] at cA;rcases aOX.1 cA with cA|cA
     ·exact eE h2 e2 cA h3 h4
     ·simp at cA;subst cA;exact absurd ⟨h3,h4⟩ eA
    simp only [go_sem,jb,jd,je,jj,bJ,aX,jU he];cases hr:e.run==r.id
    ·have hs:=joK (id:=r.id) (t:=k) he (λh=>by have:=h.1;simp [this] at hr)
     simp only [go_sem,cZ];exact ⟨j+1,⟨bJ,cE (λh=>by have:=h.1;simp [this] at hr)⟩,(js [300,400] (by simp only [go_sem,hs]<;>trivial)),by (try dsimp only);omega⟩
    have bN:e.run=r.id:=by simpa using hr
    cases dV:e.aOK==(k:Int)
    ·have hs:=joK (id:=r.id) (t:=k) he (λh=>by have:=h.2;simp [this] at dV)
     simp only [go_sem,jj,bJ,jU he,dV,cZ];exact ⟨j+1,⟨bJ,cE (λh=>by have:=h.2;simp [this] at dV)⟩,(js [300,400] (by simp only [go_sem,hs]<;>trivial)),by (try dsimp only);omega⟩
    have oQ:e.aOK=k:=by simpa using dV
    have hs:=jtB he bN oQ;simp only [go_sem,jz,jj,bJ,jU he,dV,hwc,aB,bL,jL hx];cases h2:x.aOG==2
    ·simp only [go_sem,cZ]
     exact ⟨j+1,⟨bJ,λh=>by simp [h] at h2⟩,(js [300,400] (by simp only [go_sem,hs]<;>trivial)),by (try dsimp only);omega⟩
    have bP:x.aOG=2:=by simpa using h2
    cases hp:e.aOL !=r.aOF.aOL
    ·have mK:e.aOL=r.aOF.aOL:=by simpa using hp
     simp only [go_sem,jj,bJ,jU he,hp,cZ];exact ⟨j+1,⟨bJ,λ_ e2 cA h3 h4=>by rw [aPE,he] at cA;rcases aOX.1 cA with cA|cA;exact eE bP e2 cA h3 h4;simp at cA;subst cA;exact mK⟩,(js [300,400] (by simp only [go_sem,hs]<;>trivial)),by (try dsimp only);omega⟩
    ·have hb:zG y r l=false:=jee λh=>by
      have:=((h k x hx).1 bP).1 e (aOT he) bN oQ;simp [this] at hp
     simp only [go_sem,jj,bJ,jU he,hp,hb]
  as_aux_lemma=>
   have aX:¬(j:Int)<l.length:=by omega
   rw [aOW (by omega)] at eE
   rw [aOW (by omega)]
   have fD:jkw y r l k x->∀(t:Nat) (z:Tk),t<k+1->r.aOD[t]?=some z->jkw y r l t z:=λh t z ht hz=>by
    rcases Nat.lt_or_ge t k with h'|h'
    ·exact cX t z h' hz
    ·obtain rfl:t=k:=by omega
     rw [hx] at hz;cases hz;exact h
   cases h2:x.aOG==2;rotate_left
   ·have bP:x.aOG=2:=by simpa using h2
    have h3:(x.aOG==3)=false:=by simp [bP]
    cases hc:((jaq r.id k l:Nat):Int) !=1
    ·as_aux_lemma=>
      have hc':jaq r.id k l=1:=by have:((jaq r.id k l:Nat):Int)=1:=by simpa only [bne_eq_false_iff_eq] using hc
                                  omega
      simp only [go_sem,jb,jd,je,jz,aX,aB,bL,jL hx,h2,hc,h3,hw];exact ⟨k+1,⟨aB,fD ⟨λ_=>⟨eE bP,hc'⟩,λh=>by omega⟩⟩,(js [300,400]),by (try dsimp only);omega⟩
    ·as_aux_lemma=>
      have hb:zG y r l=false:=jee λh=>by
       have:=((h k x hx).1 bP).2;rw [this] at hc;cases hc
      simp only [go_sem,jb,jd,je,jz,aX,aB,bL,jL hx,h2,hc,hb]
   ·have bP:¬x.aOG=2:=by simpa using h2
    cases h3:x.aOG==3
    ·as_aux_lemma=>
      have lL:¬x.aOG=3:=by simpa using h3
      simp only [go_sem,jb,jd,je,jz,aX,aB,bL,jL hx,h2,h3,hw];exact ⟨k+1,⟨aB,fD ⟨λh=>absurd h bP,λh=>absurd h lL⟩⟩,(js [300,400]),by (try dsimp only);omega⟩
    ·have lL:x.aOG=3:=by simpa using h3
     as_aux_lemma=>
      simp only [go_sem,jb,jd,je,jz,aX,aB,bL,jL hx,h2,h3,pZ,hww];refine jk (jK x.til (y.now+1) (y.now+r.aOF.aOP)) λη=>?_
      simp only [go_sem];cases ht:decide (y.now+1<=x.til/\x.til<=y.now+r.aOF.aOP)
      ·have hb:zG y r l=false:=jee λh=>by
        have:=(h k x hx).2 lL;simp [this] at ht
       simp only [go_sem,hb]
      ·have dQ:y.now+1<=x.til/\x.til<=y.now+r.aOF.aOP:=aPV ht
       simp only [go_sem,hw];exact ⟨k+1,⟨aB,fD ⟨λh=>absurd h bP,λ_=>dQ⟩⟩,(js [300,400]),by (try dsimp only);omega⟩
 have aA:¬(k:Int)<r.aOD.length:=by omega
 have hb:zG y r l=true:=jgi λt x hx=>cX t x (by have:=(aOS.1 hx).1;omega) hx
 simp only [go_sem,jb,jd,je,aA,hb]
theorem jn7 (y:Yd) (r:Rn) (l:List En) (hl:l.length<=4000000) (ht:r.aOD.length<=4000000) (hy:0<=y.now/\y.now<=999999980) (mG:1<=r.aOF.aOP/\r.aOF.aOP<=20):jZ Tryz.prog 82 [.agg (jb y),.agg (jd r),.c (jf l)] (.c (.val (.bool (zG y r l)))):=by
 refine pf_ jjQ ?_;unfold jhB;have pZ:IntKind.i64.wrap (y.now+1)=y.now+1:=zm;have hww:IntKind.i64.wrap (y.now+r.aOF.aOP)=y.now+r.aOF.aOP:=zm;simp only [go_sem,jb,jd,je];intro b3 b4;refine qP (λi:Nat=>St.of [(2,Ro (jf l)),(3,Bx 300 b3),(4,Bx 400 b4),(13,Ro (ju r.aOD)),(14,Ni r.aOD.length),(15,Ni i)] [(300,Bi b3 _ (jb y)),(400,Bi b4 _ (jd r))]) (λi=>i<=r.aOD.length/\∀(t:Nat) (x:Tk),t<i->r.aOD[t]?=some x->jkw y r l t x) (λi=>r.aOD.length-i) 0 (js [300,400] (by simp only [go_sem,jb,jd,je]<;>trivial)) ?_
 rintro k ⟨hk,cX⟩;by_cases aB:k<r.aOD.length
 ·have aA:(k:Int)<r.aOD.length:=by omega
  have bL:=qN k;obtain ⟨x,hx⟩:=ja aB;have hw:=kw k;simp only [go_sem,jb,jd,je,jz,aB,aA,jL hx];intro b8;refine qP (λi:Nat=>St.of [(2,Ro (jf l)),(3,Bx 300 b3),(4,Bx 400 b4),(7,Ni k),(8,Bx 800 b8),(9,Ni (jaq r.id k (l.take i))),(13,Ro (ju r.aOD)),(14,Ni r.aOD.length),(15,Ni k),(20,Ro (jf l)),(21,Ni l.length),(22,Ni i)] [(300,Bi b3 _ (jb y)),(400,Bi b4 _ (jd r)),(800,Bi b8 _ (jz x))]) (λi=>i<=l.length/\(x.aOG=2->∀e∈l.take i,e.run=r.id->e.aOK=k->e.aOL=r.aOF.aOL)) (λi=>l.length-i) 0 (js [300,400,800] (by simp only [go_sem,jb,jd,je,jz,aQH,jaq,List.filter_nil,aPU]<;>trivial)) ?_
  rintro j ⟨hj,eE⟩;by_cases bJ:j<l.length
  ·as_aux_lemma=>
    have aX:(j:Int)<l.length:=by omega
    obtain ⟨e,he⟩:=ja bJ;have cZ:=kw j;have dN:=jxV (l.take j) r.id k;rw [aOZ] at dN;have hwc:IntKind.i64.wrap ((jaq r.id k (l.take j):Int)+1)=((jaq r.id k (l.take j)+1:Nat):Int):=zm
    have cE:¬(e.run=r.id/\e.aOK=k)->(x.aOG=2->∀e∈l.take (j+1),e.run=r.id->e.aOK=k->e.aOL=r.aOF.aOL):=λeA h2 e2 cA h3 h4=>by
     rw [aPE,he] at cA;rcases aOX.1 cA with cA|cA
     ·exact eE h2 e2 cA h3 h4
     ·simp at cA;subst cA;exact absurd ⟨h3,h4⟩ eA
    simp only [go_sem,jb,jd,je,jz,jj,bJ,aX,jU he];intro b11;cases hr:e.run==r.id
    ·have hs:=joK (id:=r.id) (t:=k) he (λh=>by have:=h.1;simp [this] at hr)
     simp only [go_sem,cZ];exact ⟨j+1,⟨bJ,cE (λh=>by have:=h.1;simp [this] at hr)⟩,(js [300,400,800] (by simp only [go_sem,hs]<;>trivial)),by (try dsimp only);omega⟩
    have bN:e.run=r.id:=by simpa using hr
    cases dV:e.aOK==(k:Int)
    ·have hs:=joK (id:=r.id) (t:=k) he (λh=>by have:=h.2;simp [this] at dV)
     simp only [go_sem,dV,cZ];exact ⟨j+1,⟨bJ,cE (λh=>by have:=h.2;simp [this] at dV)⟩,(js [300,400,800] (by simp only [go_sem,hs]<;>trivial)),by (try dsimp only);omega⟩
    have oQ:e.aOK=k:=by simpa using dV
    have hs:=jtB he bN oQ;simp only [go_sem,dV];cases h2:x.aOG==2
    ·simp only [go_sem,cZ,hwc]
     exact ⟨j+1,⟨bJ,λh=>by simp [h] at h2⟩,(js [300,400,800] (by simp only [go_sem,hs]<;>trivial)),by (try dsimp only);omega⟩
    have bP:x.aOG=2:=by simpa using h2
    cases hp:e.aOL !=r.aOF.aOL
    ·have mK:e.aOL=r.aOF.aOL:=by simpa using hp
     simp only [go_sem,hp,cZ,hwc];exact ⟨j+1,⟨bJ,λ_ e2 cA h3 h4=>by rw [aPE,he] at cA;rcases aOX.1 cA with cA|cA;exact eE bP e2 cA h3 h4;simp at cA;subst cA;exact mK⟩,(js [300,400,800] (by simp only [go_sem,hs]<;>trivial)),by (try dsimp only);omega⟩
    ·have hb:zG y r l=false:=jee λh=>by
      have:=((h k x hx).1 bP).1 e (aOT he) bN oQ;simp [this] at hp
     simp only [go_sem,hp,hb]
  as_aux_lemma=>
   have aX:¬(j:Int)<l.length:=by omega
   rw [aOW (by omega)] at eE
   rw [aOW (by omega)]
   have fD:jkw y r l k x->∀(t:Nat) (z:Tk),t<k+1->r.aOD[t]?=some z->jkw y r l t z:=λh t z ht hz=>by
    rcases Nat.lt_or_ge t k with h'|h'
    ·exact cX t z h' hz
    ·obtain rfl:t=k:=by omega
     rw [hx] at hz;cases hz;exact h
   simp only [go_sem,jb,jd,je,jz,aX];cases h2:x.aOG==2;rotate_left
   ·have bP:x.aOG=2:=by simpa using h2
    have h3:(x.aOG==3)=false:=by simp [bP]
    cases hc:((jaq r.id k l:Nat):Int) !=1
    ·have hc':jaq r.id k l=1:=by have:((jaq r.id k l:Nat):Int)=1:=by simpa only [bne_eq_false_iff_eq] using hc
                                 omega
     simp only [go_sem,hc,h3,hw];exact ⟨k+1,⟨aB,fD ⟨λ_=>⟨eE bP,hc'⟩,λh=>by omega⟩⟩,(js [300,400]),by (try dsimp only);omega⟩
    ·have hb:zG y r l=false:=jee λh=>by
      have:=((h k x hx).1 bP).2;rw [this] at hc;cases hc
     simp only [go_sem,hc,hb]
   ·have bP:¬x.aOG=2:=by simpa using h2
    cases h3:x.aOG==3
    ·have lL:¬x.aOG=3:=by simpa using h3
     simp only [go_sem,h3,hw];exact ⟨k+1,⟨aB,fD ⟨λh=>absurd h bP,λh=>absurd h lL⟩⟩,(js [300,400]),by (try dsimp only);omega⟩
    ·have lL:x.aOG=3:=by simpa using h3
     simp only [go_sem,h3,pZ,hww];refine jk (jx x.til (y.now+1) (y.now+r.aOF.aOP)) λη=>?_
     simp only [go_sem];cases ht:decide (y.now+1<=x.til/\x.til<=y.now+r.aOF.aOP)
     ·have hb:zG y r l=false:=jee λh=>by
       have:=(h k x hx).2 lL;simp [this] at ht
      simp only [go_sem,hb]
     ·have dQ:y.now+1<=x.til/\x.til<=y.now+r.aOF.aOP:=aPV ht
      simp only [go_sem,hw];exact ⟨k+1,⟨aB,fD ⟨λh=>absurd h bP,λ_=>dQ⟩⟩,(js [300,400]),by (try dsimp only);omega⟩
 have aA:¬(k:Int)<r.aOD.length:=by omega
 have hb:zG y r l=true:=jgi λt x hx=>cX t x (by have:=(aOS.1 hx).1;omega) hx
 simp only [go_sem,jb,jd,je,aA,hb]
def jb2:C:=iS [iA 1 (.box 27 4 (.t 0)),aO 2 false] (.seq (iS [aF 7 2 1,aL 8 7,aG 9 8,aQ 10 .neq 3 9 4] (iD 10 (iS [aO 2 false] .ret) .skip)) (.seq (iS [aN 3 0] (.blk 0 (.loop (.seq (iS [aM 11 3,aF 12 2 1,aL 13 12,aG 14 13,aP 15 .lss 3 11 14] (iD 15 .skip (.exit 0))) (.seq (.blk 1 (iS [aF 18 2 1,aL 19 18,aM 20 3,aI 21 1 19 20,aL 22 21,iA 23 (iK 177 [22]),aU 24 23] (iD 24 (iS [aO 2 false] .ret) .skip))) (.reg [aM 16 3,aQ 17 .add 3 16 1,aM 3 17])))))) (iS [aT 25 4 1,iA 26 (iK 74 [25]),aM 4 26] (.seq (iS [aN 5 0] (.blk 2 (.loop (.seq (iS [aM 27 5,aM 28 4,aG 29 28,aP 30 .lss 3 27 29] (iD 30 .skip (.exit 2))) (.seq (.blk 3 (.seq (.seq (.dreg (tA 0 33 (iM 4) (tA 1 34 (iM 5) (tA 2 35 (iI 4 33 34) (tA 3 36 (iF 1 35) (tA 4 37 (iL 36) (tA 5 38 (iF 1 1) (tA 6 39 (iL 38) (tA 7 40 (iQ .sub 3 39 1) (tC 41 (.call 68 [.t 37,oI 1,.t 40]) [] (tA 9 42 (iU 41) .done) .stop)))))))))) (iD 42 (iS [aO 2 false] .ret) .skip)) (iS [aN 6 0] (.blk 4 (.loop (.seq (iS [aM 43 6,aM 44 5,aP 45 .lss 3 43 44] (iD 45 .skip (.exit 4))) (.seq (.blk 5 (.seq (.dreg (tA 0 48 (iM 4) (tA 1 49 (iM 6) (tA 2 50 (iI 4 48 49) (tA 3 51 (iF 1 50) (tA 4 52 (iL 51) (tA 5 53 (iM 4) (tA 6 54 (iM 5) (tA 7 55 (iI 4 53 54) (tA 8 56 (iF 1 55) (tA 9 57 (iL 56) (tA 10 58 (iP .eql 3 52 57) .done)))))))))))) (iD 58 (iS [aO 2 false] .ret) .skip))) (.reg [aM 46 6,aQ 47 .add 3 46 1,aM 6 47])))))))) (.reg [aM 31 5,aQ 32 .add 3 31 1,aM 5 32])))))) (iS [aO 2 true] .ret)))))
theorem jey:fnC Tryz.prog Tryz.f129=some (jb2,[.t 2],59):=by kernel_rfl
def jhp:C:=iS [iA 1 (.box 27 4 (.t 0)),aO 2 false] (.seq (iS [aF 6 0 1,aL 7 6,iA 8 (.call 68 [.t 7,oI 0,oI 999999980]),aU 9 8,aM 10 9,iB 11 10 false (iF 1 1),iB 12 10 false (iL 11),iB 13 10 false (.call 68 [.t 12,oI 1,oI 1000000000]),iB 14 10 false (iU 13),iA 15 (iY 10 (oT) (.t 14)),aM 16 15,iB 17 16 false (iF 3 1),iB 18 16 false (iL 17),iB 19 16 false (iG 18),iB 20 16 false (iQ .gtr 3 19 8),iA 21 (iY 16 (oT) (.t 20)),aM 22 21,iB 23 22 false (iT 4 1),iB 24 22 false (iK 129 [23]),iB 25 22 false (iU 24),iA 26 (iY 22 (oT) (.t 25))] (iD 26 (iS [aO 2 false] .ret) .skip)) (.seq (iS [aN 3 0] (.blk 0 (.loop (.seq (iS [aM 27 3,aF 28 3 1,aL 29 28,aG 30 29,aP 31 .lss 3 27 30] (iD 31 .skip (.exit 0))) (.seq (.blk 1 (.seq (.dreg (tA 0 34 (iF 3 1) (tA 1 35 (iL 34) (tA 2 36 (iM 3) (tA 3 37 (iI 8 35 36) (tA 4 38 (iT 8 37) (tC 39 (iK 130 [38]) [] (tA 6 40 (iU 39) (tA 7 41 (iM 40) (tB 8 42 41 false (iT 4 1) (tB 9 43 41 false (iF 3 1) (tB 10 44 41 false (iL 43) (tB 11 45 41 false (iM 3) (tB 12 46 41 false (iI 8 44 45) (tB 13 47 41 false (iF 0 46) (tB 14 48 41 false (iL 47) (tB 16 50 41 false (iM 3) (.alt (iB 49 41 false (iK 26 [42,48])) [16] (tB 17 51 41 false (iP .neq 3 49 50) (tA 18 52 (iY 41 (oT) (.t 51)) .done)) .stop))))))))))) .stop))))))) (iD 52 (iS [aO 2 false] .ret) .skip))) (.reg [aM 32 3,aQ 33 .add 3 32 1,aM 3 33])))))) (iS [aT 53 4 1,iA 54 (iK 74 [53]),aM 4 54] (.seq (iS [aN 5 0] (.blk 2 (.loop (.seq (iS [aM 55 5,aF 56 3 1,aL 57 56,aG 58 57,aP 59 .lss 3 55 58] (iD 59 .skip (.exit 2))) (.seq (.blk 3 (.seq (.dreg (tA 0 62 (iT 4 1) (tA 1 63 (iF 3 1) (tA 2 64 (iL 63) (tA 3 65 (iM 5) (tA 4 66 (iI 8 64 65) (tA 5 67 (iT 8 66) (tA 6 68 (iM 4) (tC 69 (iK 131 [62,67,68]) [] (tA 8 70 (iU 69) .done) .stop))))))))) (iD 70 (iS [aO 2 false] .ret) .skip))) (.reg [aM 60 5,aQ 61 .add 3 60 1,aM 5 61])))))) (iS [aT 71 4 1,iA 72 (iK 132 [71]),aQ 73 .leq 3 72 40,aM 2 73] .ret)))))
theorem jjE:fnC Tryz.prog Tryz.f66=some (jhp,[.t 2],74):=by kernel_rfl
def jhE:C:=iS [iA 1 (.box 27 4 (.t 0)),aO 2 false] (.seq (iS [aF 11 0 1,aL 12 11,iA 13 (.call 62 [.t 12,oI 0,oI 999999980]),aU 14 13,aM 15 14,iB 16 15 false (iF 1 1),iB 17 15 false (iL 16),iB 18 15 false (.call 62 [.t 17,oI 1,oI 1000000000]),iB 19 15 false (iU 18),iA 20 (iY 15 (oT) (.t 19)),aM 21 20,iB 22 21 false (iF 2 1),iB 23 21 false (iL 22),iB 24 21 false (iG 23),iB 25 21 false (iQ .neq 3 24 4),iA 26 (iY 21 (oT) (.t 25)),aM 27 26,iB 28 27 false (iF 3 1),iB 29 27 false (iL 28),iB 30 27 false (iG 29),iB 31 27 false (iQ .gtr 3 30 8),iA 32 (iY 27 (oT) (.t 31))] (iD 32 (iS [aO 2 false] .ret) .skip)) (.seq (iS [aF 33 2 1,aL 34 33,aG 35 34,aN 36 0] (.blk 0 (.loop (iS [aP 37 .lss 3 36 35] (.seq (iD 37 .skip (.exit 0)) (.seq (.blk 1 (iS [aI 38 1 34 36,aL 39 38,aM 4 39] (iS [aM 40 4,iA 41 (iK 78 [40]),aU 42 41] (iD 42 (iS [aO 2 false] .ret) .skip)))) (.reg [aQ 43 .add 3 36 1,aM 36 43]))))))) (iS [aT 44 4 1,iA 45 (iK 79 [44]),aM 5 45] (iS [iA 6 (.mov (.c (.slice none 0 0)))] (.seq (iS [aM 46 5,aG 47 46,aN 48 0] (.blk 2 (.loop (iS [aP 49 .lss 3 48 47] (.seq (iD 49 .skip (.exit 2)) (.seq (.blk 3 (iS [aI 50 4 46 48,aT 51 4 50,iA 8 wAP,wAB 8 51] (.seq (iS [aF 52 1 8,aL 53 52,aF 54 1 1,aL 55 54,aQ 56 .sub 3 55 1,iA 57 (.call 62 [.t 53,oI 1,.t 56]),aU 58 57,aM 59 58,iB 60 59 false (iM 6),iB 61 59 false (iF 1 8),iB 62 59 false (iL 61),iB 63 59 false (iK 80 [60,62]),iA 64 (iY 59 (oT) (.t 63))] (iD 64 (iS [aO 2 false] .ret) .skip)) (.reg [aM 65 6,aF 66 1 8,aL 67 66,iA 68 (wAY [(0,1,.t 67)]),iA 69 (wA7 65 68),aM 6 69])))) (.reg [aQ 70 .add 3 48 1,aM 48 70]))))))) (.seq (iS [aF 71 3 1,aL 72 71,aG 73 72,aN 74 0] (.blk 4 (.loop (iS [aP 75 .lss 3 74 73] (.seq (iD 75 .skip (.exit 4)) (.seq (.blk 5 (iS [aM 76 74,aI 77 8 72 74,aT 78 8 77,iA 10 wAM,aM 9 76,wAC 10 78] (iS [aT 79 8 10,iA 80 (iK 81 [79]),aU 81 80,aM 82 81,iB 83 82 false (iT 4 1),iB 84 82 false (iF 0 10),iB 85 82 false (iL 84),iB 86 82 false (iK 25 [83,85]),iB 87 82 false (iM 9),iB 88 82 false (iP .neq 3 86 87),iA 89 (iY 82 (oT) (.t 88)),aM 90 89,iB 91 90 false (iT 4 1),iB 92 90 false (iT 8 10),iB 93 90 false (iM 5),iB 94 90 false (iK 82 [91,92,93]),iB 95 90 false (iU 94),iA 96 (iY 90 (oT) (.t 95))] (iD 96 (iS [aO 2 false] .ret) .skip)))) (.reg [aQ 97 .add 3 74 1,aM 74 97]))))))) (iS [aT 98 4 1,iA 99 (iK 21 [98]),aQ 100 .leq 3 99 40,aM 2 100] .ret)))))))
theorem jjT:fnC Tryz.prog Tryz.f18=some (jhE,[.t 2],101):=by kernel_rfl
theorem qf (y:Yd) (id:Int):jZ Tryz.prog 26 [.agg (jb y),.c (.val (.int .i64 id))] (.c (.val (.int .i64 (runAt y id)))):=jpB ⟨_,Tryz.func26,by kernel_rfl,by kernel_rfl⟩ λw a b ⟨S,ha⟩ hb=>by rw [jbf hb];exact jbg y id a S w false ha
theorem kQ (y:Yd) (id:Int):jZ Tryz.prog 25 [.agg (jb y),.c (.val (.int .i64 id))] (.c (.val (.int .i64 (runAt y id)))):=jpB ⟨_,Tryz.func25,by kernel_rfl,by kernel_rfl⟩ λw a b ⟨S,ha⟩ hb=>by rw [jbf hb];exact jbk y id a S w false ha
theorem jma (y:Yd) (ht:jB y<=2000000):jZ Tryz.prog 132 [.agg (jb y)] (.c (.val (.int .i64 (kG y)))):=jEP ⟨_,Tryz.func132,by kernel_rfl,by kernel_rfl⟩ λw a ⟨S,ha⟩=>jmN y a S w false ha ht
theorem jbx (y:Yd) (ht:jB y<=2000000):jZ Tryz.prog 21 [.agg (jb y)] (.c (.val (.int .i64 (kG y)))):=jEP ⟨_,Tryz.func21,by kernel_rfl,by kernel_rfl⟩ λw a ⟨S,ha⟩=>jm9 y a S w false ha ht
structure jkn (y:Yd):Prop where
 four:y.aOE.length=4
 shelves:∀l∈y.aOE,jhU l
 seqs:SeqP y.seq y.aOE.flatten
open Classical in
noncomputable def vD (y:Yd):Bool:=decide (jkn y)
theorem jkH {y:Yd} (h:jkn y):vD y=true:=by simp [vD,h]
theorem jeb {y:Yd} (h:¬jkn y):vD y=false:=by simp [vD,h]
theorem shelves_iff {y:Yd}:vD y=true↔jkn y:=by simp [vD]
theorem jpe {y:Yd} (ht:jB y<=2000000) {l:List En} (h:l∈y.aOE):l.length<=4000000:=by
 obtain ⟨k,hk,rfl⟩:=aPY h;have h1:=jlk (aOV hk);have h2:=jdw y.aOE (k+1);have h3:=vi ht;rw [h1,aOU] at h2;omega
theorem jic (y:Yd) (ht:jB y<=2000000) (hq:1<=y.seq/\y.seq<=1000000000):jZ Tryz.prog 129 [.agg (jb y)] (.c (.val (.bool (vD y)))):=by
 refine pf_ jey ?_;unfold jb2;have hsf:=vi ht;have rM:IntKind.i64.wrap (y.seq-1)=y.seq-1:=zm;simp only [go_sem,jb];intro b;cases h4:(y.aOE.length:Int) !=4;rotate_left
 ·have hb:vD y=false:=jeb λh=>by have:=h.four;rw [this] at h4;cases h4
  simp only [go_sem,hb]
 have sI:y.aOE.length=4:=by have:(y.aOE.length:Int)=4:=by simpa only [bne_eq_false_iff_eq] using h4
                            omega
 simp only [go_sem];refine qP (λi:Nat=>St.of [(1,Bx 100 b),(3,Ni i)] [(100,Bi b _ (jb y))]) (λi=>i<=y.aOE.length/\∀l∈y.aOE.take i,jhU l) (λi=>y.aOE.length-i) 0 (js [100] (by simp only [go_sem,jb]<;>trivial)) ?_
 rintro k ⟨hk,cX⟩;by_cases aB:k<y.aOE.length
 ·have aA:(k:Int)<y.aOE.length:=by omega
  obtain ⟨l,hl⟩:=ja aB;have lJ:=aOT hl;have hw:=kw k;simp only [go_sem,jb,aB,aA,kC hl];refine jk (jmb l (jpe ht lJ)) λη=>?_
  simp only [go_sem];cases hs:jaz l
  ·have hb:vD y=false:=jeb λh=>by have:=jgf (h.shelves l lJ);rw [hs] at this;cases this
   simp only [go_sem,hb]
  ·simp only [go_sem,hw]
   exact ⟨k+1,⟨aB,λl2 h2=>by rw [aPE,hl] at h2;rcases aOX.1 h2 with h2|h2;exact cX l2 h2;simp at h2;subst h2;exact shelf_iff.1 hs⟩,(js [100]),by (try dsimp only);omega⟩
 have aA:¬(k:Int)<y.aOE.length:=by omega
 rw [aOW (by omega)] at cX
 simp only [go_sem,jb,aA];refine jk (zS y ht) λi7=>?_
 simp only [go_sem];generalize hF:y.aOE.flatten=F at*;refine qP (λi:Nat=>St.of [(1,Bx 100 b),(4,Hd 4 (i7 0)),(5,Ni i)] [(100,Bi b _ (jb y)),(4,.loose (jf F) (i7 0))]) (λi=>i<=F.length/\(∀e∈F.take i,1<=e.seq/\e.seq<=y.seq-1)/\((F.take i).map (·.seq)).Nodup) (λi=>F.length-i) 0 (js [100,2600] (by simp only [go_sem,jb]<;>trivial)) ?_
 rintro j ⟨hj,eE,tN⟩;by_cases bJ:j<F.length
 ·have aX:(j:Int)<F.length:=by omega
  have dK:=qN j;obtain ⟨e,he⟩:=ja bJ;have hw:=kw j;simp only [go_sem,jb,bJ,aX,dK,jqO he,jqd he,rM];refine jk (jK e.seq 1 (y.seq-1)) λη=>?_
  simp only [go_sem];cases hr:decide (1<=e.seq/\e.seq<=y.seq-1)
  ·have hb:vD y=false:=jeb λh=>by
    have:=h.seqs.range e (by rw [hF];exact aOT he)
    simp [this] at hr
   simp only [go_sem,hb]
  have bN:1<=e.seq/\e.seq<=y.seq-1:=aPV hr;simp only [go_sem];refine qP (λi:Nat=>St.of [(1,Bx 100 b),(4,Hd 4 (i7 0)),(5,Ni j),(6,Ni i)] [(100,Bi b _ (jb y)),(4,.loose (jf F) (i7 0))]) (λi=>i<=j/\∀e2∈F.take i,e2.seq≠e.seq) (λi=>j-i) 0 (js [100,4] (by simp only [go_sem,jb]<;>trivial)) ?_
  rintro m ⟨hm,rD⟩;by_cases dX:m<j
  ·have dS:(m:Int)<j:=by omega
   have wU:=qN m;have mM:m<F.length:=by omega
   obtain ⟨e2,cA⟩:=ja mM;have xC:=kw m;cases m8:e2.seq==e.seq
   ·have uG:¬e2.seq=e.seq:=by simpa using m8
    simp only [go_sem,jb,dS,mM,wU,bJ,dK,jqO he,jqd he,jqO cA,jqd cA,m8,xC];exact ⟨m+1,⟨dX,λe3 h3=>by rw [aPE,cA] at h3;rcases aOX.1 h3 with h3|h3;exact rD e3 h3;simp at h3;subst h3;exact uG⟩,(js [100,4]),by (try dsimp only);omega⟩
   ·have uG:e2.seq=e.seq:=by simpa using m8
    have hb:vD y=false:=jeb λh=>jv6 he dX cA uG (by rw [<-hF];exact h.seqs.apart)
    simp only [go_sem,jb,dS,mM,wU,bJ,dK,jqO he,jqd he,jqO cA,jqd cA,m8,hb]
  ·have dS:¬(m:Int)<j:=by omega
   obtain rfl:m=j:=by omega
   simp only [go_sem,jb,dS,hw];exact ⟨m+1,⟨bJ,λe2 h2=>by rw [aPE,he] at h2;rcases aOX.1 h2 with h2|h2;exact eE e2 h2;simp at h2;subst h2;exact bN,jv5 he tN rD⟩,(js [100,4]),by (try dsimp only);omega⟩
 have aX:¬(j:Int)<F.length:=by omega
 rw [aOW (by omega)] at eE tN
 have hb:vD y=true:=jkH ⟨sI,cX,by rw [hF];exact ⟨eE,tN⟩⟩
 simp only [go_sem,aX,hb]
theorem qb (y:Yd) (ht:jB y<=2000000):jZ Tryz.prog 66 [.agg (jb y)] (.c (.val (.bool (jt y)))):=by
 refine pf_ jjE ?_;unfold jhp;have hsf:=vi ht;have cH:=jh1 ht;simp only [go_sem,jb];intro b;refine jk (jK y.now 0 999999980) λη=>?_
 simp only [go_sem];cases h1:decide (0<=y.now/\y.now<=999999980)
 ·have hb:jt y=false:=qY λh=>by have:=h.now;simp [this] at h1
  simp only [go_sem,hb]
 have gU:=aPV h1;simp only [go_sem];refine jk (jK y.seq 1 1000000000) λη=>?_
 simp only [go_sem];cases h2:decide (1<=y.seq/\y.seq<=1000000000)
 ·have hb:jt y=false:=qY λh=>by have:=h.seq;simp [this] at h2
  simp only [go_sem,hb]
 have rO:=aPV h2;by_cases h8:8<y.aOH.length
 ·have lF:(y.aOH.length:Int)>8:=by omega
  have hb:jt y=false:=qY λh=>by have:=h.eight;omega
  simp only [go_sem,lF,hb]
 have lF:¬(y.aOH.length:Int)>8:=by omega
 simp only [go_sem,lF];refine jk (jic y ht rO) λη=>?_
 simp only [go_sem];cases eD:vD y
 ·have hb:jt y=false:=qY λh=>by have:=jkH ⟨h.four,h.shelves,h.seqs⟩;rw [eD] at this;cases this
  simp only [go_sem,hb]
 have uF:=shelves_iff.1 eD;simp only [go_sem];refine qP (λi:Nat=>St.of [(1,Bx 100 b),(3,Ni i)] [(100,Bi b _ (jb y))]) (λi=>i<=y.aOH.length/\∀(k:Nat) (r:Rn),k<i->y.aOH[k]?=some r->RunOkP r/\runAt y r.id=k) (λi=>y.aOH.length-i) 0 (js [100] (by simp only [go_sem,jb]<;>trivial)) ?_
 rintro k ⟨hk,cX⟩;by_cases aB:k<y.aOH.length
 ·have aA:(k:Int)<y.aOH.length:=by omega
  obtain ⟨r,hr⟩:=ja aB;have hw:=kw k;simp only [go_sem,jb,aB,aA,jR hr,jd,je];refine jk (jdj r) λη=>?_
  simp only [go_sem];cases hs:kI r
  ·have hb:jt y=false:=qY λh=>by have:=runOk_iff.2 (h.right r (aOT hr));rw [hs] at this;cases this
   simp only [go_sem,hb]
  simp only [go_sem,aB,jR hr,jd,je];refine jk (qf y r.id) λη=>?_
  simp only [go_sem];cases fB:runAt y r.id !=(k:Int)
  ·have uX:runAt y r.id=k:=by simpa using fB
   simp only [go_sem,hw];exact ⟨k+1,⟨aB,λk2 r2 h2 bZ=>by rcases Nat.lt_or_ge k2 k with h'|h';exact cX k2 r2 h' bZ;obtain rfl:k2=k:=(by omega);rw [hr] at bZ;cases bZ;exact ⟨runOk_iff.1 hs,uX⟩⟩,(js [100]),by (try dsimp only);omega⟩
  ·have hb:jt y=false:=qY λh=>by have:=h.place k r hr;simp [this] at fB
   simp only [go_sem,hb]
 have aA:¬(k:Int)<y.aOH.length:=by omega
 have cV:∀(k:Nat) (r:Rn),y.aOH[k]?=some r->RunOkP r/\runAt y r.id=k:=λk r h=>cX k r (by have:=(aOS.1 h).1;omega) h
 simp only [go_sem,jb,aA];refine jk (zS y ht) λi7=>?_
 simp only [go_sem];generalize hF:y.aOE.flatten=F at*;refine qP (λi:Nat=>St.of [(1,Bx 100 b),(4,Hd 4 (i7 0)),(5,Ni i)] [(100,Bi b _ (jb y)),(4,.loose (jf F) (i7 0))]) (λi=>i<=y.aOH.length/\∀(k:Nat) (r:Rn),k<i->y.aOH[k]?=some r->jqR y r F) (λi=>y.aOH.length-i) 0 (js [100,5400] (by simp only [go_sem,jb]<;>trivial)) ?_
 rintro j ⟨hj,eE⟩;by_cases bJ:j<y.aOH.length
 ·have aX:(j:Int)<y.aOH.length:=by omega
  obtain ⟨r,hr⟩:=ja bJ;have hw:=kw j;have wL:=(cV j r hr).1;obtain ⟨n,hn,eB,cC,dI,bU,aY,-,-,mG⟩:=ja8 wL.aOF;have aC:=wL.len;simp only [go_sem,jb,bJ,aX,jR hr,jd,je];refine jk (jnY y r F (by omega) (by omega) gU mG) λη=>?_
  simp only [go_sem];cases hs:zG y r F
  ·have hb:jt y=false:=qY λh=>by have:=jgi (h.aOH r (aOT hr));rw [hF,hs] at this;cases this
   simp only [go_sem,hb]
  ·simp only [go_sem,hw]
   exact ⟨j+1,⟨bJ,λk2 r2 h2 bZ=>by rcases Nat.lt_or_ge k2 j with h'|h';exact eE k2 r2 h' bZ;obtain rfl:k2=j:=(by omega);rw [hr] at bZ;cases bZ;exact runIn_iff.1 hs⟩,(js [100,4]),by (try dsimp only);omega⟩
 have aX:¬(j:Int)<y.aOH.length:=by omega
 simp only [go_sem,jb,aX];refine jk (jma y ht) λη=>?_
 simp only [go_sem]
 have hb:jt y=decide (kG y<=40):=by
  by_cases sH:kG y<=40
  ·rw [qX ⟨gU,rO,uF.four,by omega,uF.shelves,uF.seqs,λr hr=>by obtain ⟨k,hk,rfl⟩:=aPY hr;exact (cV k _ (aOV hk)).1,λk r hr=>(cV k r hr).2,λr hr=>by obtain ⟨k,hk,rfl⟩:=aPY hr;rw [hF];exact eE k _ (by omega) (aOV hk),sH⟩]
   simp [sH]
  ·rw [qY λh=>sH h.slots];simp [sH]
 simp only [go_sem,hb]
theorem kn (y:Yd) (ht:jB y<=2000000):jZ Tryz.prog 18 [.agg (jb y)] (.c (.val (.bool (jt y)))):=by
 refine pf_ jjT ?_;unfold jhE;have hsf:=vi ht;have cH:=jh1 ht;simp only [go_sem,jb];intro b;refine jk (jx y.now 0 999999980) λη=>?_
 simp only [go_sem];cases h1:decide (0<=y.now/\y.now<=999999980)
 ·have hb:jt y=false:=qY λh=>by have:=h.now;simp [this] at h1
  simp only [go_sem,hb]
 have gU:=aPV h1;simp only [go_sem];refine jk (jx y.seq 1 1000000000) λη=>?_
 simp only [go_sem];cases h2:decide (1<=y.seq/\y.seq<=1000000000)
 ·have hb:jt y=false:=qY λh=>by have:=h.seq;simp [this] at h2
  simp only [go_sem,hb]
 have rO:=aPV h2;have rM:IntKind.i64.wrap (y.seq-1)=y.seq-1:=zm;cases h4:(y.aOE.length:Int) !=4;rotate_left
 ·have hb:jt y=false:=qY λh=>by have:=h.four;rw [this] at h4;cases h4
  simp only [go_sem,h4,hb]
 have sI:y.aOE.length=4:=by have:(y.aOE.length:Int)=4:=by simpa only [bne_eq_false_iff_eq] using h4
                            omega
 by_cases h8:8<y.aOH.length
 ·have lF:(y.aOH.length:Int)>8:=by omega
  have hb:jt y=false:=qY λh=>by have:=h.eight;omega
  simp only [go_sem,h4,lF,hb]
 have lF:¬(y.aOH.length:Int)>8:=by omega
 simp only [go_sem,h4,lF];refine qP (λi:Nat=>St.of [(1,Bx 100 b),(34,Ro (ke y.aOE)),(35,Ni y.aOE.length),(36,Ni i)] [(100,Bi b _ (jb y))]) (λi=>i<=y.aOE.length/\∀l∈y.aOE.take i,jhU l) (λi=>y.aOE.length-i) 0 (js [100] (by simp only [go_sem,jb]<;>trivial)) ?_
 rintro k ⟨hk,cX⟩;by_cases aB:k<y.aOE.length
 ·have aA:(k:Int)<y.aOE.length:=by omega
  obtain ⟨l,hl⟩:=ja aB;have lJ:=aOT hl;have hw:=kw k;simp only [go_sem,jb,aB,aA,kC hl];refine jk (jmg l (jpe ht lJ)) λη=>?_
  simp only [go_sem];cases hs:jaz l
  ·have hb:jt y=false:=qY λh=>by have:=jgf (h.shelves l lJ);rw [hs] at this;cases this
   simp only [go_sem,hb]
  ·simp only [go_sem,hw]
   exact ⟨k+1,⟨aB,λl2 h2=>by rw [aPE,hl] at h2;rcases aOX.1 h2 with h2|h2;exact cX l2 h2;simp at h2;subst h2;exact shelf_iff.1 hs⟩,(js [100]),by (try dsimp only);omega⟩
 have aA:¬(k:Int)<y.aOE.length:=by omega
 rw [aOW (by omega)] at cX
 simp only [go_sem,jb,aA];refine jk (jbQ y ht) λi7=>?_
 simp only [go_sem];generalize hF:y.aOE.flatten=F at*;refine qP (λi:Nat×jg=>St.of [(1,Bx 100 b),(5,Hd 5 (i7 0)),(6,Hd 6 i.2),(46,Hd 5 (i7 0)),(47,Ni F.length),(48,Ni i.1)] [(100,Bi b _ (jb y)),(5,.loose (jf F) (i7 0)),(6,.loose (jc ((F.take i.1).map (·.seq))) i.2)]) (λi=>i.1<=F.length/\(∀e∈F.take i.1,1<=e.seq/\e.seq<=y.seq-1)/\((F.take i.1).map (·.seq)).Nodup) (λi=>F.length-i.1) (0,jcb) (vU [some 100,some 4500,none] (by simp only [go_sem,jb]<;>trivial)) ?_
 rintro ⟨j,wX⟩ ⟨hj,eE,tN⟩;dsimp only at hj eE tN;by_cases bJ:j<F.length
 ·have aX:(j:Int)<F.length:=by omega
  have dK:=qN j;obtain ⟨e,he⟩:=ja bJ;have hw:=kw j;have dX:((F.take j).map (·.seq)).length<=2000000:=by rw [aQI,aOZ];omega
  have hmt:(F.take (j+1)).map (·.seq)=(F.take j).map (·.seq)++[e.seq]:=by rw [aPE,he];simp
  generalize hM:(F.take j).map (·.seq)=M at*
  have dU:M.length+1<=maxLen:=vT;have eG:(M.length+1)*8<=140737488355328:=by omega
  simp only [go_sem,jb,bJ,aX,dK,jvj he,juU he,jj];intro b8;simp only [go_sem,rM];refine jk (jx e.seq 1 (y.seq-1)) λη=>?_
  simp only [go_sem];cases hr:decide (1<=e.seq/\e.seq<=y.seq-1)
  ·have hb:jt y=false:=qY λh=>by
    have:=h.seqs.range e (by rw [hF];exact aOT he)
    simp [this] at hr
   simp only [go_sem,hb]
  have bN:1<=e.seq/\e.seq<=y.seq-1:=aPV hr;simp only [go_sem];refine jk (jk4 M e.seq (by omega)) λη=>?_
  simp only [go_sem];by_cases cJ:e.seq∈M
  ·have hb:jt y=false:=qY λh=>by
    rw [<-hM] at cJ;obtain ⟨e2,h3,h4⟩:=aQS.1 cJ;obtain ⟨m,hm,rfl⟩:=aPY h3;have fY:m<j:=by rw [aOZ] at hm;omega
    rw [List.getElem_take] at h4;exact jv6 he fY (aOV (by omega)) h4 (by rw [<-hF];exact h.seqs.apart)
   simp only [go_sem,cJ,hb]
  ·simp only [go_sem,cJ,dU,eG,ko,hw]
   intro bK mA;exact ⟨(j+1,mA),⟨bJ,λe2 h2=>by rw [aPE,he] at h2;rcases aOX.1 h2 with h2|h2;exact eE e2 h2;simp at h2;subst h2;exact bN,jv5 he (by rw [hM];exact tN) (λe2 h2 h3=>cJ (by rw [<-hM];exact aQS.2 ⟨e2,h2,h3⟩))⟩,(js [100,5,6900] (by simp only [go_sem,hmt]<;>trivial)),by (try dsimp only);omega⟩
 have aX:¬(j:Int)<F.length:=by omega
 rw [aOW (by omega)] at eE tN
 simp only [go_sem,jb,aX];refine qP (λi:Nat=>St.of [(1,Bx 100 b),(5,Hd 5 (i7 0)),(72,Ro (jG y.aOH)),(73,Ni y.aOH.length),(74,Ni i)] [(100,Bi b _ (jb y)),(5,.loose (jf F) (i7 0))]) (λi=>i<=y.aOH.length/\∀(k:Nat) (r:Rn),k<i->y.aOH[k]?=some r->RunOkP r/\runAt y r.id=k/\jqR y r F) (λi=>y.aOH.length-i) 0 (js [100,5] (by simp only [go_sem,jb]<;>trivial)) ?_
 rintro m ⟨hm,rD⟩;by_cases dX:m<y.aOH.length
 ·have dS:(m:Int)<y.aOH.length:=by omega
  obtain ⟨r,hr⟩:=ja dX;have hw:=kw m
  have hre:r.aOF.aOI.length<=4000000:=by
   have h5:=zp (tot:=qH) hr;have h6:=jaP qH y.aOH (m+1);have h7:vh qH y.aOH<=2000000:=by simp only [jB,jaQ] at ht;omega
   have h8:r.aOF.aOI.length<=qH r:=by simp only [qH,jf9];omega
   omega
  simp only [go_sem,jb,dX,dS,jR hr,jd,je];intro b10;refine jk (ji9 r hre) λη=>?_
  simp only [go_sem];cases hs:kI r
  ·have hb:jt y=false:=qY λh=>by have:=runOk_iff.2 (h.right r (aOT hr));rw [hs] at this;cases this
   simp only [go_sem,hb]
  have wL:=runOk_iff.1 hs;obtain ⟨n,hn,eB,cC,dI,bU,aY,-,-,mG⟩:=ja8 wL.aOF;have aC:=wL.len;simp only [go_sem];refine jk (kQ y r.id) λη=>?_
  simp only [go_sem];cases fB:runAt y r.id !=(m:Int);rotate_left
  ·have hb:jt y=false:=qY λh=>by have:=h.place m r hr;simp [this] at fB
   simp only [go_sem,hb]
  have uX:runAt y r.id=m:=by simpa using fB
  simp only [go_sem];refine jk (jn7 y r F (by omega) (by omega) gU mG) λη=>?_
  simp only [go_sem];cases hri:zG y r F
  ·have hb:jt y=false:=qY λh=>by have:=jgi (h.aOH r (aOT hr));rw [hF,hri] at this;cases this
   simp only [go_sem,hb]
  ·simp only [go_sem,hw]
   exact ⟨m+1,⟨dX,λk2 r2 h2 bZ=>by rcases Nat.lt_or_ge k2 m with h'|h';exact rD k2 r2 h' bZ;obtain rfl:k2=m:=(by omega);rw [hr] at bZ;cases bZ;exact ⟨wL,uX,runIn_iff.1 hri⟩⟩,(js [100,5]),by (try dsimp only);omega⟩
 have dS:¬(m:Int)<y.aOH.length:=by omega
 have cV:∀(k:Nat) (r:Rn),y.aOH[k]?=some r->RunOkP r/\runAt y r.id=k/\jqR y r F:=λk r h=>rD k r (by have:=(aOS.1 h).1;omega) h
 simp only [go_sem,jb,dS];refine jk (jbx y ht) λη=>?_
 simp only [go_sem]
 have hb:jt y=decide (kG y<=40):=by
  by_cases sH:kG y<=40
  ·rw [qX ⟨gU,rO,sI,by omega,cX,by rw [hF];exact ⟨eE,tN⟩,λr hr=>by obtain ⟨k,hk,rfl⟩:=aPY hr;exact (cV k _ (aOV hk)).1,λk r hr=>(cV k r hr).2.1,λr hr=>by obtain ⟨k,hk,rfl⟩:=aPY hr;rw [hF];exact (cV k _ (aOV hk)).2.2,sH⟩]
   simp [sH]
  ·rw [qY λh=>sH h.slots];simp [sH]
 simp only [go_sem,hb]
