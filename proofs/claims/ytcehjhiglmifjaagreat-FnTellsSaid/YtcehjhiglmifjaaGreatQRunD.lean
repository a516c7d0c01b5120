/- Parts. -/
import Derived.Test.YtcehjhiglmifjaaGreatQRunOk
import Derived.Deep.RegionWith
set_option linter.all false
set_option maxHeartbeats 8000000
set_option maxRecDepth 100000
namespace Go.Proofs.YtcehjhiglmifjaaGreat
open Go.RowKit Go.Sort
theorem jnX {α:Type} {A B C v:List α} {o j:Nat} (ho:o=A.length+j) (hj:j+v.length<=B.length):kI (A++(B++C)) o v=A++(kI B j v++C):=by
 subst ho;rw [qd _ _ _ (by simp only [aMR];omega),qd _ _ _ hj]
 have h1:(A++(B++C)).take (A.length+j)=A++B.take j:=by
  rw [List.take_append,aMO (by omega),aNR,List.take_append_of_le_length (by omega)]
 have h2:(A++(B++C)).drop (A.length+j+v.length)=B.drop (j+v.length)++C:=by
  rw [List.drop_append,List.drop_eq_nil_of_le (by omega),aON,show A.length+j+v.length-A.length=j+v.length by omega,List.drop_append_of_le_length (by omega)]
 rw [h1,h2];simp only [aNA]
section
variable {α:Type} {enc:α->List D} {size ty:Nat} {l:List α} {k:Nat} {x:α}
theorem jbB (hx:l[k]?=some x):l.flatMap enc=(l.take k).flatMap enc++(enc x++(l.drop (k+1)).flatMap enc):=by
 obtain ⟨hk,he⟩:=aMI.1 hx;have e:l=l.take k++x::l.drop (k+1):=by rw [<-he,<-aOC hk,aNW]
 have h2:=congrArg (List.flatMap enc) e;rw [h2,aOE,aNL]
theorem ji9 (hs:∀x,(enc x).length=size) (hx:l[k]?=some x):((l.take k).flatMap enc).length=k*size:=by
 have hk:=(aMI.1 hx).1;rw [jG hs,aMP,aNZ (by omega)]
theorem jbH (hs:∀x,(enc x).length=size) (hx:l[k]?=some x) {y:α} {j:Nat} {v:List D} (hy:kI (enc x) j v=enc y) (hj:j+v.length<=size):D.put [] (k*size+j) v (.sl size ty (l.flatMap enc))=.sl size ty ((l.set k y).flatMap enc):=by
 have hk:=(aMI.1 hx).1;have h2:(l.set k y)[k]?=some y:=aML hk;have e1:(l.set k y).take k=l.take k:=List.take_set_of_le (aMV k);have e2:(l.set k y).drop (k+1)=l.drop (k+1):=List.drop_set_of_lt (Nat.lt_succ_self k);simp only [D.put];rw [jbB hx,jnX (by rw [ji9 hs hx]) (by rw [hs];exact hj),hy,jbB h2,e1,e2]
theorem qA (hs:∀x,(enc x).length=size) (hx:l[k]?=some x) {j n:Nat} (hj:j+n<=size):((l.flatMap enc).drop (k*size+j)).take n=((enc x).drop j).take n:=by
 rw [jbB hx,<-List.drop_drop,List.drop_left' (ji9 hs hx),List.drop_append_of_le_length (by rw [hs];omega),List.take_append_of_le_length (by rw [aND,hs];omega)]
theorem qG (hs:∀x,(enc x).length=size) (hx:l[k]?=some x) {j n:Nat} (hj:j+n<=size):k*size+j+n<=(l.flatMap enc).length:=by
 have hk:=(aMI.1 hx).1;rw [jG hs];have:(k+1)*size<=l.length*size:=aPI _ hk;rw [Nat.succ_mul] at this;omega
end
section
variable {l:List Tk} {k:Nat} {x:Tk}
theorem jbp (hx:l[k]?=some x) (v:Int):D.put [] (k*4) [.val (.int .i64 v)] (jC l)=jC (l.set k ⟨v,x.aME,x.tri,x.til⟩):=jbH (enc:=jk) (size:=4) (λ_=>rfl) hx (j:=0) rfl (by simp)
theorem zX (hx:l[k]?=some x) (v:Int):D.put [] (k*4+0) [.val (.int .i64 v)] (jC l)=jC (l.set k ⟨v,x.aME,x.tri,x.til⟩):=jbH (enc:=jk) (size:=4) (λ_=>rfl) hx (j:=0) rfl (by simp)
theorem juT (hx:l[k]?=some x) (v:Int):D.put [] (k*4+1) [.val (.int .i64 v)] (jC l)=jC (l.set k ⟨x.aLV,v,x.tri,x.til⟩):=jbH (enc:=jk) (size:=4) (λ_=>rfl) hx (j:=1) rfl (by simp)
theorem jzW (hx:l[k]?=some x) (v:Int):D.put [] (k*4+2) [.val (.int .i64 v)] (jC l)=jC (l.set k ⟨x.aLV,x.aME,v,x.til⟩):=jbH (enc:=jk) (size:=4) (λ_=>rfl) hx (j:=2) rfl (by simp)
theorem je4 (hx:l[k]?=some x) (v:Int):D.put [] (k*4+3) [.val (.int .i64 v)] (jC l)=jC (l.set k ⟨x.aLV,x.aME,x.tri,v⟩):=jbH (enc:=jk) (size:=4) (λ_=>rfl) hx (j:=3) rfl (by simp)
theorem jtG (hx:l[k]?=some x):((l.flatMap jk).drop (k*4)).take 4=jk x:=qA (enc:=jk) (size:=4) (λ_=>rfl) hx (j:=0) (n:=4) (by decide)
theorem zF (hx:l[k]?=some x):((l.flatMap jk).drop (k*4)).take 1=[.val (.int .i64 x.aLV)]:=qA (enc:=jk) (size:=4) (λ_=>rfl) hx (j:=0) (n:=1) (by decide)
theorem zx (hx:l[k]?=some x):((l.flatMap jk).drop (k*4+0)).take 1=[.val (.int .i64 x.aLV)]:=qA (enc:=jk) (size:=4) (λ_=>rfl) hx (j:=0) (n:=1) (by decide)
theorem jr6 (hx:l[k]?=some x):((l.flatMap jk).drop (k*4+1)).take 1=[.val (.int .i64 x.aME)]:=qA (enc:=jk) (size:=4) (λ_=>rfl) hx (j:=1) (n:=1) (by decide)
theorem jmg (hx:l[k]?=some x):((l.flatMap jk).drop (k*4+2)).take 1=[.val (.int .i64 x.tri)]:=qA (enc:=jk) (size:=4) (λ_=>rfl) hx (j:=2) (n:=1) (by decide)
theorem jwu (hx:l[k]?=some x):((l.flatMap jk).drop (k*4+3)).take 1=[.val (.int .i64 x.til)]:=qA (enc:=jk) (size:=4) (λ_=>rfl) hx (j:=3) (n:=1) (by decide)
theorem jix (hx:l[k]?=some x):k*4+4<=(l.flatMap jk).length:=qG (enc:=jk) (size:=4) (λ_=>rfl) hx (j:=0) (n:=4) (by decide)
theorem vi (hx:l[k]?=some x):k*4+1<=(l.flatMap jk).length:=qG (enc:=jk) (size:=4) (λ_=>rfl) hx (j:=0) (n:=1) (by decide)
theorem qK (hx:l[k]?=some x):k*4+0+1<=(l.flatMap jk).length:=qG (enc:=jk) (size:=4) (λ_=>rfl) hx (j:=0) (n:=1) (by decide)
theorem jrB (hx:l[k]?=some x):k*4+1+1<=(l.flatMap jk).length:=qG (enc:=jk) (size:=4) (λ_=>rfl) hx (j:=1) (n:=1) (by decide)
theorem jl0 (hx:l[k]?=some x):k*4+2+1<=(l.flatMap jk).length:=qG (enc:=jk) (size:=4) (λ_=>rfl) hx (j:=2) (n:=1) (by decide)
theorem jj6 (hx:l[k]?=some x):k*4+3+1<=(l.flatMap jk).length:=qG (enc:=jk) (size:=4) (λ_=>rfl) hx (j:=3) (n:=1) (by decide)
end
section
variable {l:List En} {k:Nat} {x:En}
theorem jtH (hx:l[k]?=some x):((l.flatMap jh).drop (k*4)).take 4=jh x:=qA (enc:=jh) (size:=4) (λ_=>rfl) hx (j:=0) (n:=4) (by decide)
theorem jpr (hx:l[k]?=some x):((l.flatMap jh).drop (k*4+1)).take 1=[.val (.int .i64 x.seq)]:=qA (enc:=jh) (size:=4) (λ_=>rfl) hx (j:=1) (n:=1) (by decide)
theorem jtj (hx:l[k]?=some x):k*4+4<=(l.flatMap jh).length:=qG (enc:=jh) (size:=4) (λ_=>rfl) hx (j:=0) (n:=4) (by decide)
theorem joP (hx:l[k]?=some x):k*4+1+1<=(l.flatMap jh).length:=qG (enc:=jh) (size:=4) (λ_=>rfl) hx (j:=1) (n:=1) (by decide)
end
abbrev ja1 (b ty:Nat) (r:Rn) (e1 e2:jm):Ob:=.box b ty [.a (.v (.int .i64 r.id)),.a (.v (.int .i64 r.aLW.aMC)),.a (.v (.int .i64 r.aLW.aMG)),.a (.v (.int .i64 r.aLW.aMF)),.a (.v (.int .i64 r.aLW.aLT)),.own (jv r.aLW.aLY) e1,.a (.v (.int .i64 r.aLV)),.own (jC r.aLT) e2]
abbrev ZRn (b ty:Nat):Ob:=.box b ty [.a (.v (.int .i64 0)),.a (.v (.int .i64 0)),.a (.v (.int .i64 0)),.a (.v (.int .i64 0)),.a (.v (.int .i64 0)),.a (.v (.slice none 0 0)),.a (.v (.int .i64 0)),.a (.v (.slice none 0 0))]
theorem jid (l:List Tk):D.sl 4 tTk (l.flatMap jk)=jC l:=rfl
def jet:C:=iS [iA 1 (.box 52 8 (.t 0)),iA 2 wAL] (iS [aF 3 1 1,aT 4 5 3,iA 5 (iK 168 [4]),aF 6 1 1,wAH 6 5] (iS [iA 7 (.bsl 46 4 0 [] []),aF 8 7 1,aL 9 8,iA 10 (.app 46 4 32 (.t 7) (.t 9)),aF 11 7 1,wAJ 11 10] (iS [aT 12 8 1,wAC 2 12] .ret)))
theorem jhw:fnC Tryz.prog Tryz.f133=some (jet,[.cell 2 true 8],13):=by kernel_rfl
def jeL:C:=iS [iA 1 (.box 52 8 (.t 0)),iA 2 wAL] (iS [aF 3 1 1,aT 4 5 3,iA 5 (iK 163 [4]),aF 6 1 1,wAH 6 5] (iS [aF 7 7 1,aL 8 7,iA 9 (.app 46 4 32 (.c (.slice none 0 0)) (.t 8)),aF 10 7 1,wAJ 10 9] (iS [aT 11 8 1,wAC 2 11] .ret)))
theorem jhO:fnC Tryz.prog Tryz.f127=some (jeL,[.cell 2 true 8],12):=by kernel_rfl
theorem jeh (r:Rn) (hb:r.aLW.aLY.length<=4000000) (ht:r.aLT.length<=4000000):kg Tryz.prog 127 [.agg (jc r)] (.agg (jc r)):=by
 refine pf_ jhO ?_;unfold jeL;have h1:r.aLT.length<=maxLen:=by unfold maxLen;omega
 have h2:r.aLT.length*32<=140737488355328:=by omega
 simp only [go_sem,jc,ja];intro b b2;refine jx (jcW r.aLW hb) λη=>?_
 simp only [go_sem,jc,ja];simp only [go_sem,jc,ja,h1,h2,jid]
theorem vM (r:Rn) (hb:r.aLW.aLY.length<=4000000) (ht:r.aLT.length<=4000000):kg Tryz.prog 133 [.agg (jc r)] (.agg (jc r)):=by
 refine pf_ jhw ?_;unfold jet;have h1:r.aLT.length<=maxLen:=by unfold maxLen;omega
 have h2:r.aLT.length*32<=140737488355328:=by omega
 simp only [go_sem,jc,ja];intro b b2;refine jx (jee r.aLW hb) λη=>?_
 simp only [go_sem,jc,ja];simp only [go_sem,jc,ja,h1,h2,jid]
def jes:C:=iS [iA 2 (.box 52 8 (.t 0)),aO 4 false] (iS [aT 5 8 2,iA 6 (iK 130 [5]),aM 7 6,iB 8 7 true (iM 1),iB 9 7 true (iF 7 2),iB 10 7 true (iL 9),iB 11 7 true (iG 10),iB 12 7 true (iQ .sub 3 11 1),iB 13 7 true (.call 68 [.t 8,oI 0,.t 12]),iA 14 (iY 7 (.t 13) (oF)),aM 15 14,iB 16 15 true (iF 7 2),iB 17 15 true (iL 16),iB 18 15 true (iM 1),iB 19 15 true (iI 4 17 18),iB 20 15 true (iF 0 19),iB 21 15 true (iL 20),iB 22 15 true (iQ .eql 3 21 3),iA 23 (iY 15 (.t 22) (oF)),aM 4 23] .ret)
theorem jhv:fnC Tryz.prog Tryz.f172=some (jes,[.t 4],24):=by kernel_rfl
def jeF:C:=iS [iA 2 (.box 52 8 (.t 0)),iA 4 wAL] (iS [aT 9 8 2,iA 10 (iK 133 [9]),iA 5 wAL,wAC 5 10] (.seq (iS [aT 11 8 2,aM 12 1,iA 13 (iK 172 [11,12]),aU 14 13] (iD 14 (iS [aT 15 8 5,wAC 4 15] .ret) .skip)) (iS [aF 16 7 5,aL 17 16,aM 18 1,aI 19 4 17 18,aF 20 0 19,iC (.st 1 [none] (.t 20) (oI 4))] (iS [aF 21 7 5,aL 22 21,aM 23 1,aI 24 4 22 23,aF 25 3 24,iC (.st 1 [none] (.t 25) (oI 0))] (iS [aF 26 1 2,aT 27 5 26,aM 28 1,iA 29 (iK 201 [27,28]),aM 6 29] (.seq (iS [aN 7 0] (.blk 0 (.loop (.seq (iS [aM 30 7,aM 31 6,aG 32 31,aP 33 .lss 3 30 32] (iD 33 .skip (.exit 0))) (.seq (.blk 1 (.seq (.dreg (tA 0 36 (iF 7 5) (tA 1 37 (iL 36) (tA 2 38 (iM 6) (tA 3 39 (iM 7) (tA 4 40 (iI 1 38 39) (tA 5 41 (iL 40) (tA 6 42 (iI 4 37 41) (tA 7 43 (iT 4 42) (tC 8 wAN [7,6,5,4,3,2,1,0] (.alt (wAB 8 43) [] .done .stop) .stop)))))))))) (iS [aF 44 1 8,aL 45 44,aQ 46 .sub 3 45 1,aF 47 1 8,wAD 47 46] (.seq (iS [aF 48 1 8,aL 49 48,aQ 50 .eql 3 49 0] (iD 50 (.reg [aF 51 0 8,iC (.st 1 [none] (.t 51) (oI 2))]) .skip)) (.dreg (tA 0 52 (iF 7 5) (tA 1 53 (iL 52) (tA 2 54 (iM 6) (tA 3 55 (iM 7) (tA 4 56 (iI 1 54 55) (tA 5 57 (iL 56) (tA 6 58 (iT 4 8) (tA 7 59 (iI 4 53 57) (.alt (wAB 59 58) [] .done .stop)))))))))))))) (.reg [aM 34 7,aQ 35 .add 3 34 1,aM 7 35])))))) (iS [aT 60 8 5,iA 61 (iK 179 [60]),aF 62 6 5,wAD 62 61] (iS [aT 63 8 5,wAC 4 63] .ret))))))))
theorem jhI:fnC Tryz.prog Tryz.f190=some (jeF,[.cell 4 true 8],64):=by kernel_rfl
def jkC:C:=iS [aM 7 0,aF 8 0 7,aF 9 7 8,aL 10 9,aM 11 1,aI 12 4 10 11,aF 13 0 12,iC (.st 1 [none] (.t 13) (oI 4))] (iS [aM 14 0,aF 15 0 14,aF 16 7 15,aL 17 16,aM 18 1,aI 19 4 17 18,aF 20 3 19,iC (.st 1 [none] (.t 20) (oI 0))] (.seq (iS [aM 21 0,aF 22 0 21,aF 23 1 22,aT 24 5 23,aM 25 1,iA 26 (iK 174 [24,25]),aG 27 26,aN 28 0] (.blk 0 (.loop (iS [aP 29 .lss 3 28 27] (.seq (iD 29 .skip (.exit 0)) (.seq (.blk 1 (iS [aI 30 1 26 28,aL 31 30,aM 5 31] (iS [aM 32 0,aF 33 0 32,aF 34 7 33,aL 35 34,aM 36 5,aI 37 4 35 36,aM 6 37] (iS [aM 38 6,aF 39 0 38,aF 40 1 39,aL 41 40,aQ 42 .sub 3 41 1,aF 43 0 38,aF 44 1 43,wAD 44 42] (iS [aM 45 6,aF 46 0 45,aF 47 1 46,aL 48 47,aQ 49 .eql 3 48 0] (iD 49 (.reg [aM 50 6,aF 51 0 50,aF 52 0 51,iC (.st 1 [none] (.t 52) (oI 2))]) .skip)))))) (.reg [aQ 53 .add 3 28 1,aM 28 53]))))))) (.seq (.dreg (tA 0 54 (iM 0) (tA 1 55 (iF 0 54) (tA 2 56 (iT 8 55) (tA 5 59 (iM 0) (tA 6 60 (iF 0 59) (tA 7 61 (iF 7 60) (tA 8 62 (iL 61) (tA 9 63 (iG 62) (tC 57 (.call 47 [.t 56,oI 4]) [9,8,7,6,5] (tA 4 58 (iG 57) (tA 10 64 (iP .eql 3 58 63) .done)) .stop)))))))))) (iD 64 (.reg [aM 65 0,aF 66 0 65,aF 67 6 66,iC (.st 1 [none] (.t 67) (oI 2))]) .skip))))
theorem jlh:fnC Tryz.prog Tryz.f124=some (jkC,[],68):=by kernel_rfl
theorem jed (r:Rn) (t:Int):kg Tryz.prog 172 [.agg (jc r),.c (.val (.int .i64 t))] (.c (.val (.bool (vL r t)))):=by
 refine pf_ jhv ?_;unfold jes;simp only [go_sem,jc,ja];intro b;refine jx (jcV r) λη=>?_
 simp only [go_sem,jc,ja];cases h:kO r
 ·have hb:vL r t=false:=by simp [vL,h]
  simp only [go_sem,jc,ja,h,hb]
 have hP:=runOk_iff.1 h;obtain ⟨n,hn,d8,cC,-⟩:=jcH hP.aLW;have aD:=hP.len;have hw:IntKind.i64.wrap ((r.aLT.length:Int)-1)=(r.aLT.length:Int)-1:=zy;simp only [go_sem,jc,ja,h,hw];refine jx (jJ t 0 (r.aLT.length-1)) λη=>?_
 simp only [go_sem,jc,ja];cases h1:decide (0<=t/\t<=(r.aLT.length:Int)-1)
 ·have hb:vL r t=false:=by simp [vL,inB,h1]
  simp only [go_sem,jc,ja,h1,hb]
 have dN:0<=t/\t<=(r.aLT.length:Int)-1:=by simpa using h1
 have eY:0<=t:=dN.1;have cP:t.toNat<r.aLT.length:=by omega
 obtain ⟨x,hx⟩:=jd cP;have hb:vL r t=(x.aLV==3):=by simp [vL,inB,dN,jmw hx,h]
 simp only [go_sem,jc,ja,h1,eY,cP,jS hx,jk,hb]
theorem jqV {ts:List Tk} {v:Int} {y:Tk} (hy:ts[v.toNat]?=some y):ja4 ts v=ts.set v.toNat ⟨if IntKind.i64.wrap (y.aME-1)=0 then 2 else y.aLV,IntKind.i64.wrap (y.aME-1),y.tri,y.til⟩:=by simp [ja4,hy]
theorem jl4 {l:List Int} {k:Nat} {v:Int} (hv:l[k]?=some v) (ts:List Tk):(l.take (k+1)).foldl ja4 ts=ja4 ((l.take k).foldl ja4 ts) v:=by
 rw [aMT,hv];simp
theorem jkY (r:Rn) (t:Int) (cR:r.aLW.aLY.length<=4000000) (ht:r.aLT.length<=4000000):kg Tryz.prog 190 [.agg (jc r),.c (.val (.int .i64 t))] (.agg (jc (kx r t))):=by
 refine pf_ jhI ?_;unfold jeF;simp only [go_sem,jc,ja];intro b b4;refine jx (vM r cR ht) λbC=>?_
 simp only [go_sem,jc,ja];intro b5;refine jx (jed r t) λη=>?_
 simp only [go_sem,jc,ja];cases h:vL r t
 ·simp only [go_sem,jc,ja,h,jsC h]
 obtain ⟨k,x,rfl,hx,hs,hP⟩:=jbc h;obtain ⟨n,hn,d8,cC,dS,bV,aX,-⟩:=jcH hP.aLW;have aD:=hP.len;have cZ:=(aMI.1 hx).1;have eY:=qT k;have bW:(r.aLT.set k ⟨4,x.aME,x.tri,x.til⟩)[k]?=some ⟨4,x.aME,x.tri,x.til⟩:=aML cZ;have f5:k<(r.aLT.set k ⟨4,x.aME,x.tri,x.til⟩).length:=by rw [aMU];exact cZ
 have aIA:Int.toNat (k:Int)=k:=aMQ k;simp only [go_sem,jc,ja,h,cZ,eY,jbp hx,zX hx,vi hx,qK hx,f5,jj6 bW,je4 bW,aNP];refine jx (jit r.aLW k n hn cC dS) λcH=>?_
 simp only [go_sem,jc,ja];have tZ:=jr2 hn cC dS k;generalize gA:r.aLT.set k ⟨4,x.aME,x.tri,0⟩=ts0 at*;have cP:ts0.length=r.aLT.length:=by rw [<-gA,aMU]
 have xV:vS r.aLW r.aLT k x=(jbW r.aLW k).foldl ja4 ts0:=by rw [<-gA];rfl
 have aHO:∀z∈ts0,1<=z.aLV/\z.aLV<=6:=by rw [<-gA];exact jh4 (q:=λs=>1<=s/\s<=6) (by simp) hP.st
 refine vo (λi:Nat=>St.of [(4,Bx 400 b4),(5,Bx 500 b5),(6,Hd 6 (cH 0)),(7,Ni i)] [(400,ZRn b4 tRn),(500,ja1 b5 tRn ⟨r.id,r.aLW,r.aLV,((jbW r.aLW k).take i).foldl ja4 ts0⟩ (bC 5) (bC 7)),(6,.loose (je (jbW r.aLW k)) (cH 0))]) (λi=>i<=(jbW r.aLW k).length) (λi=>(jbW r.aLW k).length-i) 0 (jy [400,500,2900] (by simp only [go_sem,jc,ja,aNM,List.foldl_nil]<;>trivial)) ?_
 rintro j hj;by_cases aB:j<(jbW r.aLW k).length
 ·have aA:(j:Int)<(jbW r.aLW k).length:=by omega
  obtain ⟨v,hv⟩:=jd aB;have pK:=jqE hn (aMJ hv);have fW:=jf5 ((jbW r.aLW k).take j) ts0;have fC:=jl4 hv ts0;generalize ((jbW r.aLW k).take j).foldl ja4 ts0=ts at*;have bN:v.toNat<ts.length:=by omega
  have nR:=pK.1;obtain ⟨y,hy⟩:=jd bN;have hw:=kX j;rw [jqV hy] at fC;simp only [go_sem,jc,ja,aB,aA,jg hv,jf aB,bN,nR,jtG hy,jix hy,jk];intro b8;generalize IntKind.i64.wrap (y.aME-1)=nd at*;cases hz:nd==0
  ·have cI:¬nd=0:=by simpa using hz
   rw [if_neg cI] at fC;simp only [go_sem,jc,ja,aB,aA,jg hv,jf aB,bN,nR,jtG hy,jix hy,jk,hz,jb2 y.aLV nd y.tri y.til bN,hw];exact ql (j+1) (jy [400,500,6] (by simp only [go_sem,jc,ja,fC]<;>trivial))
  ·have cI:nd=0:=by simpa using hz
   rw [if_pos cI] at fC;simp only [go_sem,jc,ja,aB,aA,jg hv,jf aB,bN,nR,jtG hy,jix hy,jk,hz,jb2 2 nd y.tri y.til bN,hw];exact ql (j+1) (jy [400,500,6] (by simp only [go_sem,jc,ja,fC]<;>trivial))
 have aA:¬(j:Int)<(jbW r.aLW k).length:=by omega
 rw [aMO (by omega)]
 have xU:=jl8 hP hx hs;have hR:kx r k=jhn r k x:=jb0 hx h;have hlD:(vS r.aLW r.aLT k x).length=r.aLT.length:=jaW _ _ _ _;have aBB:∀z∈vS r.aLW r.aLT k x,1<=z.aLV/\z.aLV<=6:=jnn (q:=λs=>1<=s/\s<=6) (by decide) (by decide) hP.st
 rw [hR,<-xV];have yU:jhn r k x=⟨r.id,r.aLW,jg4 (vS r.aLW r.aLT k x),vS r.aLW r.aLT k x⟩:=by rw [xU];rfl
 rw [yU];generalize vS r.aLW r.aLT k x=tD at*;simp only [go_sem,jc,ja,aA];refine jx (jcU ⟨r.id,r.aLW,r.aLV,tD⟩ aBB (by simp only;omega)) λη=>?_
 simp only [go_sem,jc,ja]
def jaX:C:=iS [iA 2 (.box 52 8 (.t 0)),iA 4 wAL] (.seq (iS [aN 5 0] (.blk 0 (.loop (.seq (iS [aM 7 5,aF 8 7 2,aL 9 8,aG 10 9,aP 11 .lss 3 7 10] (iD 11 .skip (.exit 0))) (.seq (.blk 1 (iS [aF 14 7 2,aL 15 14,aM 16 5,aI 17 4 15 16,aT 18 4 17,iA 6 wAN,wAB 6 18] (.seq (iS [aF 19 0 6,aL 20 19,aQ 21 .neq 3 20 4,aM 22 21,iB 23 22 true (iF 0 6),iB 24 22 true (iL 23),iB 25 22 true (iQ .neq 3 24 5),iA 26 (iY 22 (.t 25) (oF))] (iD 26 (iS [aF 27 0 6,iC (.st 1 [none] (.t 27) (oI 6))] (.reg [aF 28 3 6,iC (.st 1 [none] (.t 28) (oI 0))])) .skip)) (.reg [aF 29 7 2,aL 30 29,aM 31 5,aT 32 4 6,aI 33 4 30 31,wAB 33 32])))) (.reg [aM 12 5,aQ 13 .add 3 12 1,aM 5 13])))))) (iS [aM 34 1,aF 35 6 2,wAD 35 34] (iS [aT 36 8 2,wAC 4 36] .ret)))
theorem jbk:fnC Tryz.prog Tryz.f173=some (jaX,[.cell 4 true 8],37):=by kernel_rfl
def jdh:C:=iS [iA 2 (.box 52 8 (.t 0)),iA 4 wAL] (iS [aT 6 8 2,iA 7 (iK 133 [6]),iA 5 wAL,wAC 5 7] (.seq (iS [aT 8 8 2,aM 9 1,iA 10 (iK 172 [8,9]),aU 11 10] (iD 11 (iS [aT 12 8 5,wAC 4 12] .ret) .skip)) (iS [aF 13 7 5,aL 14 13,aM 15 1,aI 16 4 14 15,aF 17 3 16,iC (.st 1 [none] (.t 17) (oI 0))] (iS [aF 18 7 5,aL 19 18,aM 20 1,aI 21 4 19 20,aF 22 0 21,iC (.st 1 [none] (.t 22) (oI 2))] (.seq (.seq (.dreg (tA 0 23 (iF 7 5) (tA 1 24 (iL 23) (tA 2 25 (iM 1) (tA 3 26 (iI 4 24 25) (tA 4 27 (iF 2 26) (tA 5 28 (iL 27) (tA 6 29 (iF 1 2) (tA 7 30 (iF 1 29) (tA 8 31 (iL 30) (tA 9 32 (iP .lss 3 28 31) .done))))))))))) (iD 32 (iS [aT 33 8 5,wAC 4 33] .ret) .skip)) (iS [aF 34 7 5,aL 35 34,aM 36 1,aI 37 4 35 36,aF 38 0 37,iC (.st 1 [none] (.t 38) (oI 5))] (iS [aT 39 8 5,iA 40 (.call 173 [.t 39,oI 3]),wAC 4 40] .ret)))))))
theorem jgh:fnC Tryz.prog Tryz.f120=some (jdh,[.cell 4 true 8],41):=by kernel_rfl
def jdq:C:=iS [aM 6 0,aF 7 0 6,aF 8 7 7,aL 9 8,aG 10 9,aN 11 0] (.blk 0 (.loop (iS [aP 12 .lss 3 11 10] (.seq (iD 12 .skip (.exit 0)) (.seq (.blk 1 (iS [aM 13 11,aM 4 13] (iS [aM 14 0,aF 15 0 14,aF 16 7 15,aL 17 16,aM 18 4,aI 19 4 17 18,aM 5 19] (iS [aM 20 4,aM 21 1,aP 22 .neq 3 20 21,aM 23 22,iB 24 23 true (iM 5),iB 25 23 true (iF 0 24),iB 26 23 true (iF 0 25),iB 27 23 true (iL 26),iB 28 23 true (iQ .neq 3 27 4),iA 29 (iY 23 (.t 28) (oF))] (iD 29 (iS [aM 30 5,aF 31 0 30,aF 32 0 31,iC (.st 1 [none] (.t 32) (oI 6))] (.reg [aM 33 5,aF 34 0 33,aF 35 3 34,iC (.st 1 [none] (.t 35) (oI 0))])) .skip))))) (.reg [aQ 36 .add 3 11 1,aM 11 36]))))))
theorem jda:fnC Tryz.prog Tryz.f171=some (jdq,[],37):=by kernel_rfl
def jil:C:=iS [aM 5 0,aF 6 0 5,aF 7 7 6,aL 8 7,aM 9 1,aI 10 4 8 9,aM 4 10] (iS [aM 11 4,aF 12 0 11,aF 13 3 12,iC (.st 1 [none] (.t 13) (oI 0))] (.seq (.seq (.dreg (tA 0 14 (iM 4) (tA 1 15 (iF 0 14) (tA 2 16 (iF 2 15) (tA 3 17 (iL 16) (tA 4 18 (iM 0) (tA 5 19 (iF 0 18) (tA 6 20 (iF 1 19) (tA 7 21 (iF 1 20) (tA 8 22 (iL 21) (tA 9 23 (iP .lss 3 17 22) .done))))))))))) (iD 23 (iS [aM 24 4,aF 25 0 24,aF 26 0 25,iC (.st 1 [none] (.t 26) (oI 2))] .ret) .skip)) (iS [aM 27 4,aF 28 0 27,aF 29 0 28,iC (.st 1 [none] (.t 29) (oI 5))] (iS [aM 30 0,aM 31 1,iA 32 (iK 171 [30,31])] (.reg [aM 33 0,aF 34 0 33,aF 35 6 34,iC (.st 1 [none] (.t 35) (oI 3))])))))
theorem jkt:fnC Tryz.prog Tryz.f118=some (jil,[],36):=by kernel_rfl
theorem jaJ (r:Rn) (t:Int) (cR:r.aLW.aLY.length<=4000000) (ht:r.aLT.length<=4000000):kg Tryz.prog 120 [.agg (jc r),.c (.val (.int .i64 t))] (.agg (jc (jz r t))):=by
 refine pf_ jgh ?_;unfold jdh;simp only [go_sem,jc,ja];intro b b4;refine jx (vM r cR ht) λbC=>?_
 simp only [go_sem,jc,ja];intro b5;refine jx (jed r t) λη=>?_
 simp only [go_sem,jc,ja];cases h:vL r t
 ·simp only [go_sem,jc,ja,h,je3 h]
 obtain ⟨k,x,rfl,hx,hs,hP⟩:=jbc h;obtain ⟨n,hn,d8,cC,dS,bV,aX,-⟩:=jcH hP.aLW;have aD:=hP.len;have cZ:=(aMI.1 hx).1;have eY:=qT k;have bW:(r.aLT.set k ⟨x.aLV,x.aME,x.tri,0⟩)[k]?=some ⟨x.aLV,x.aME,x.tri,0⟩:=aML cZ;have nQ:(r.aLT.set k ⟨2,x.aME,x.tri,0⟩)[k]?=some ⟨2,x.aME,x.tri,0⟩:=aML cZ;have f5:k<(r.aLT.set k ⟨x.aLV,x.aME,x.tri,0⟩).length:=by rw [aMU];exact cZ
 have oU:k<(r.aLT.set k ⟨2,x.aME,x.tri,0⟩).length:=by rw [aMU];exact cZ
 simp only [go_sem,jc,ja,aMX,h,cZ,eY,je4 hx,jj6 hx,f5,vi bW,qK bW,jbp bW,zX bW,aNP,oU,jmg nQ,jl0 nQ,vi nQ,qK nQ];by_cases hm:x.tri<r.aLW.aMG
 ·have hR:jz r k=⟨r.id,r.aLW,r.aLV,r.aLT.set k ⟨2,x.aME,x.tri,0⟩⟩:=by rw [qR hx h,zC,if_pos hm]
  simp only [go_sem,jc,ja,aMX,hm,hR]
 have hR:jz r k=⟨r.id,r.aLW,3,vn jA (r.aLT.set k ⟨5,x.aME,x.tri,0⟩) r.aLT.length⟩:=by rw [qR hx h,zC,if_neg hm]
 rw [hR];simp only [go_sem,jc,ja,aMX,hm,oU,eY,jbp nQ,zX nQ,vi nQ,qK nQ,aNP];have cP:(r.aLT.set k ⟨5,x.aME,x.tri,0⟩).length=r.aLT.length:=by rw [aMU]
 generalize r.aLT.set k ⟨5,x.aME,x.tri,0⟩=ts0 at*;refine qe (qv (β:=7000000) Tryz.func173 jbk (by simp) ?_)
 unfold jaX;simp only [go_sem,jc,ja];intro b72 b74;refine vo (λi:Nat=>St.of [(1,Ni 3),(2,Bx 2 b72),(4,Bx 4 b74),(5,Ni i)] [(400,ZRn b4 tRn),(2,ja1 b72 tRn ⟨r.id,r.aLW,r.aLV,vn jA ts0 i⟩ (bC 5) (bC 7)),(4,ZRn b74 tRn)]) (λi=>i<=ts0.length) (λi=>ts0.length-i) 0 (jy [400,700000200,700000400] (by simp only [go_sem,jc,ja,jrt]<;>trivial)) ?_
 rintro j hj;have d9:=vX (f:=jA) (ts:=ts0) (k:=j);by_cases aB:j<ts0.length
 ·have aA:(j:Int)<ts0.length:=by omega
  have dU:=qT j;obtain ⟨y,hy⟩:=jd aB;have eE:=jfP (f:=jA) hy;have cJ:=jfO (f:=jA) hy;generalize vn jA ts0 j=M at*;have iX:j<M.length:=by omega
  have hw:=kX j;simp only [go_sem,jc,ja,d9,aA,dU,aB,jtG eE,jix eE,jk];intro b6;cases eX:y.aLV !=4
  ·have lE:y.aLV=4:=by simpa using eX
   have nF:jA j y=y:=by simp [jA,lE]
   have hg:jA j y=⟨y.aLV,y.aME,y.tri,y.til⟩:=nF;rw [hg] at cJ;simp only [go_sem,jc,ja,aMX,d9,aA,dU,aB,eX,jb2 y.aLV y.aME y.tri y.til iX,cJ,jix eE,hw];exact ql (j+1) (jy [400,2,4] (by simp only [go_sem,jc,ja]<;>trivial))
  cases rH:y.aLV !=5
  ·have tE:y.aLV=5:=by simpa using rH
   have nF:jA j y=y:=by simp [jA,tE]
   have hg:jA j y=⟨y.aLV,y.aME,y.tri,y.til⟩:=nF;rw [hg] at cJ;simp only [go_sem,jc,ja,aMX,d9,aA,dU,aB,eX,rH,jb2 y.aLV y.aME y.tri y.til iX,cJ,jix eE,hw];exact ql (j+1) (jy [400,2,4] (by simp only [go_sem,jc,ja]<;>trivial))
  ·have hg:jA j y=⟨6,y.aME,y.tri,0⟩:=by
    have h1:¬y.aLV=4:=by simpa using eX
    have h2:¬y.aLV=5:=by simpa using rH
    simp [jA,h1,h2]
   rw [hg] at cJ;simp only [go_sem,jc,ja,aMX,d9,aA,dU,aB,eX,rH,jb2 6 y.aME y.tri 0 iX,cJ,jix eE,hw];exact ql (j+1) (jy [400,2,4] (by simp only [go_sem,jc,ja]<;>trivial))
 have aA:¬(j:Int)<ts0.length:=by omega
 obtain rfl:j=ts0.length:=by omega
 rw [<-cP];generalize vn jA ts0 ts0.length=M at*;simp only [go_sem,jc,ja,aMX,d9,aA]
def jCa (l:List Rn):List Int:=(l.filter λr=>r.aLV !=1).map (·.id)
def jCb (y:Yd):List Int:=jCa y.aLX
theorem jg7 {y:Yd} (h:jt y<=2000000):y.aLX.length<=2000000:=by
 simp only [jt,jac] at h;omega
theorem jq2 {y:Yd} (h:jt y<=2000000):y.aLU.length<=2000000:=by
 simp only [jt,jby] at h;omega
theorem flat_le (l:List (List En)):l.flatten.length<=jby l:=by
 induction l with
 |nil=>simp
 |cons x l ih=>
  simp only [aPL,aMR,jby,aNG,qN,aNQ,aOW,zc] at ih⊢;omega
theorem jka {l:List (List En)} {k:Nat} {x:List En} (h:l[k]?=some x):(l.take (k+1)).flatten=(l.take k).flatten++x:=by
 rw [aMT,h];simp
theorem jc3 (l:List (List En)) (k:Nat):(l.take k).flatten.length<=l.flatten.length:=by
 have h:l.flatten=(l.take k).flatten++(l.drop k).flatten:=by rw [<-List.flatten_append,aNW]
 rw [h,aMR];omega
theorem zH {y:Yd} (h:jt y<=2000000):y.aLU.flatten.length<=2000000:=by
 have:=flat_le y.aLU;simp only [jt] at h;omega
def jfJ (y:Yd):List En:=y.aLU.flatten.filter (jP y)
theorem jqt {α:Type} {f:α->Bool} {l:List α} {k:Nat} {x:α} (h:l[k]?=some x):(l.take (k+1)).filter f=if f x=true then (l.take k).filter f++[x] else (l.take k).filter f:=by
 rw [aMT,h];cases hx:f x<;>simp [aOV,hx]
def jbo:C:=iS [iA 2 (.mov (.c (.slice none 0 0)))] (iS [aM 3 0,iA 4 (.app 44 4 32 (.c (.slice none 0 0)) (.t 3)),aM 2 4] .ret)
theorem jdc:fnC Tryz.prog Tryz.f126=some (jbo,[.t 2],5):=by kernel_rfl
def jdr:C:=iS [iA 1 (.box 27 4 (.t 0)),iA 2 wAK] (iS [aF 8 0 1,aL 9 8,aF 10 1 1,aL 11 10,iA 12 (wAV [(0,1,.t 9),(1,1,.t 11)]),iA 3 wAK,wAA 3 12] (.seq (iS [aF 13 2 1,aL 14 13,aG 15 14,aN 16 0] (.blk 0 (.loop (iS [aP 17 .lss 3 16 15] (.seq (iD 17 .skip (.exit 0)) (.seq (.blk 1 (iS [aI 18 1 14 16,aL 19 18,aM 5 19] (.dreg (tA 0 20 (iF 2 3) (tA 1 21 (iL 20) (tA 2 22 (iM 5) (tC 23 (iK 126 [22]) [1,0] (tC 24 (.bsl 35 1 1 [some (4,44)] [(0,1,.t 23)]) [1,0] (tC 25 (.app 35 1 24 (.t 21) (.t 24)) [] (tA 6 26 (iF 2 3) (.alt (iC (.st 1 [some (1,35)] (.t 26) (.t 25))) [] .done .stop)) .stop) .stop) .stop))))))) (.reg [aQ 27 .add 3 16 1,aM 16 27]))))))) (.seq (iS [aF 28 3 1,aL 29 28,aG 30 29,aN 31 0] (.blk 2 (.loop (iS [aP 32 .lss 3 31 30] (.seq (iD 32 .skip (.exit 2)) (.seq (.blk 3 (iS [aI 33 8 29 31,aT 34 8 33,iA 7 wAL,wAC 7 34] (.dreg (tA 0 35 (iF 3 3) (tA 1 36 (iL 35) (tA 2 37 (iT 8 7) (tC 38 (iK 127 [37]) [1,0] (tC 39 (wAZ [(0,8,.t 38)]) [1,0] (tC 40 (.app 52 8 96 (.t 36) (.t 39)) [] (tA 6 41 (iF 3 3) (.alt (wAI 41 40) [] .done .stop)) .stop) .stop) .stop))))))) (.reg [aQ 42 .add 3 31 1,aM 31 42]))))))) (iS [aT 43 4 3,wAA 2 43] .ret))))
theorem jgp:fnC Tryz.prog Tryz.f61=some (jdr,[.cell 2 true 4],44):=by kernel_rfl
def jeq:C:=iS [iA 1 (.box 27 4 (.t 0)),iA 2 wAK] (iS [aF 6 0 1,aL 7 6,aF 8 1 1,aL 9 8,iA 10 (wAV [(0,1,.t 7),(1,1,.t 9)]),iA 3 wAK,wAA 3 10] (.seq (iS [aN 4 0] (.blk 0 (.loop (.seq (iS [aM 11 4,aF 12 2 1,aL 13 12,aG 14 13,aP 15 .lss 3 11 14] (iD 15 .skip (.exit 0))) (.seq (.blk 1 (.dreg (tA 0 18 (iF 2 3) (tA 1 19 (iL 18) (tA 3 21 (iF 2 1) (tA 4 22 (iL 21) (tA 5 23 (iM 4) (tA 6 24 (iI 1 22 23) (tA 7 25 (iL 24) (tC 20 (wAX []) [7,6,5,4,3,1,0] (tC 26 (wA2 20 25) [1,0] (tC 27 (.bsl 35 1 1 [some (4,44)] [(0,1,.t 26)]) [1,0] (tC 28 (.app 35 1 24 (.t 19) (.t 27)) [] (tA 11 29 (iF 2 3) (.alt (iC (.st 1 [some (1,35)] (.t 29) (.t 28))) [] .done .stop)) .stop) .stop) .stop) .stop)))))))))) (.reg [aM 16 4,aQ 17 .add 3 16 1,aM 4 17])))))) (.seq (iS [aN 5 0] (.blk 2 (.loop (.seq (iS [aM 30 5,aF 31 3 1,aL 32 31,aG 33 32,aP 34 .lss 3 30 33] (iD 34 .skip (.exit 2))) (.seq (.blk 3 (.dreg (tA 0 37 (iF 3 3) (tA 1 38 (iL 37) (tA 2 39 (iF 3 1) (tA 3 40 (iL 39) (tA 4 41 (iM 5) (tA 5 42 (iI 8 40 41) (tA 6 43 (iT 8 42) (tC 44 (iK 133 [43]) [1,0] (tC 45 (wAZ [(0,8,.t 44)]) [1,0] (tC 46 (.app 52 8 96 (.t 38) (.t 45)) [] (tA 10 47 (iF 3 3) (.alt (wAI 47 46) [] .done .stop)) .stop) .stop) .stop)))))))))) (.reg [aM 35 5,aQ 36 .add 3 35 1,aM 5 36])))))) (iS [aT 48 4 3,wAA 2 48] .ret))))
theorem jht:fnC Tryz.prog Tryz.f67=some (jeq,[.cell 2 true 4],49):=by kernel_rfl
abbrev ka (b ty:Nat) (now seq:Int) (sh:List (List En)) (e1:jm) (rn:List Rn) (e2:jm):Ob:=.box b ty [.a (.v (.int .i64 now)),.a (.v (.int .i64 seq)),.own (ku sh) e1,.own (jI rn) e2]
abbrev ZYd (b ty:Nat):Ob:=.box b ty [.a (.v (.int .i64 0)),.a (.v (.int .i64 0)),.a (.v (.slice none 0 0)),.a (.v (.slice none 0 0))]
theorem ko (l:List En):D.sl 4 tEn (l.flatMap jh)=ji l:=rfl
theorem juu (l:List (List En)) (x:List En):D.sl 1 jsi (l.flatMap (λes=>[ji es])++[ji x])=ku (l++[x]):=by simp [ku]
theorem jq7 (l:List Rn) (r:Rn):D.sl 8 tRn (l.flatMap jc++[.val (.int .i64 r.id),.val (.int .i64 r.aLW.aMC),.val (.int .i64 r.aLW.aMG),.val (.int .i64 r.aLW.aMF),.val (.int .i64 r.aLW.aLT),jv r.aLW.aLY,.val (.int .i64 r.aLV),jC r.aLT])=jI (l++[r]):=by simp [jI,jc,ja]
theorem jbC {y:Yd} (ht:jt y<=2000000) {l:List En} (h:l∈y.aLU):l.length<=4000000:=by
 obtain ⟨k,hk,rfl⟩:=aNO h;have h1:=aMK hk;have h2:=vK (tot:=zc) h1;have h3:=jak zc y.aLU (k+1);simp only [jt,jby,zc] at*;omega
theorem jcT {y:Yd} (ht:jt y<=2000000) {r:Rn} (h:r∈y.aLX):r.aLW.aLY.length<=4000000/\r.aLT.length<=4000000:=by
 obtain ⟨k,hk,rfl⟩:=aNO h;have h1:=aMK hk;have h2:=vK (tot:=kQ) h1;have h3:=jak kQ y.aLX (k+1);simp only [jt,jac,kQ,jeZ] at*;omega
theorem ki (l:List En) (hl:l.length<=4000000):kg Tryz.prog 126 [.c (ji l)] (.c (ji l)):=by
 refine pf_ jdc ?_;unfold jbo;have h1:l.length<=maxLen:=by unfold maxLen;omega
 have h2:l.length*32<=140737488355328:=by omega
 simp only [go_sem,h1,h2,ko]
theorem ke (y:Yd) (ht:jt y<=2000000):kg Tryz.prog 61 [.agg (jb y)] (.agg (jb y)):=by
 refine pf_ jgp ?_;unfold jdr;have fP:y.aLU.length<=2000000:=by simp only [jt,jby] at ht;omega
 have bZ:=jg7 ht;simp only [go_sem,jb];intro b1 b2 b3;refine vo (λi:Nat×jm=>St.of [(1,Bx 100 b1),(2,Bx 200 b2),(3,Bx 300 b3),(14,Ro (ku y.aLU)),(15,Ni y.aLU.length),(16,Ni i.1)] [(100,Bi b1 _ (jb y)),(200,ZYd b2 _),(300,.box b3 _ [.a (.v (.int .i64 y.now)),.a (.v (.int .i64 y.seq)),.own (ku (y.aLU.take i.1)) i.2,.a (.v (.slice none 0 0))])]) (λi=>i.1<=y.aLU.length) (λi=>y.aLU.length-i.1) (0,jcF) (jy [100,200,300] (by simp only [go_sem,jb,aNM]<;>trivial)) ?_
 rintro ⟨k,η⟩ hk;dsimp only at hk;by_cases aB:k<y.aLU.length
 ·have aA:(k:Int)<y.aLU.length:=by omega
  obtain ⟨l,hl⟩:=jd aB;have hw:=kX k;have eI:k+1<=maxLen:=by unfold maxLen;omega
  have eC:(k+1)*24<=140737488355328:=by omega
  have dO:(y.aLU.take k).length=k:=by rw [aMP];omega
  have gA:y.aLU.take (k+1)=y.aLU.take k++[l]:=by rw [aMT,hl];rfl
  generalize y.aLU.take k=M at*;simp only [go_sem,jb,aB,aA,kY hl];refine jx (ki l (jbC ht (aMJ hl))) λη=>?_
  simp only [go_sem,jb];simp only [go_sem,dO,eI,eC,juu];intro bF mF;simp only [go_sem,hw];exact ql (k+1,mF) (jy [100,200,300] (by simp only [go_sem,jb,gA]<;>trivial))
 have aA:¬(k:Int)<y.aLU.length:=by omega
 rw [aMO (by omega)]
 simp only [go_sem,jb,aA];refine vo (λi:Nat×jm=>St.of [(1,Bx 100 b1),(2,Bx 200 b2),(3,Bx 300 b3),(29,Ro (jI y.aLX)),(30,Ni y.aLX.length),(31,Ni i.1)] [(100,Bi b1 _ (jb y)),(200,ZYd b2 _),(300,ka b3 _ y.now y.seq y.aLU η (y.aLX.take i.1) i.2)]) (λi=>i.1<=y.aLX.length) (λi=>y.aLX.length-i.1) (0,jcF) (jy [100,200,300] (by simp only [go_sem,jb,aNM]<;>trivial)) ?_
 rintro ⟨j,aV⟩ hj;dsimp only at hj;by_cases bJ:j<y.aLX.length
 ·have aY:(j:Int)<y.aLX.length:=by omega
  obtain ⟨r,hr⟩:=jd bJ;have hw:=kX j;have eI:j+1<=maxLen:=by unfold maxLen;omega
  have eC:(j+1)*96<=140737488355328:=by omega
  have mP:(y.aLX.take j).length=j:=by rw [aMP];omega
  have xI:y.aLX.take (j+1)=y.aLX.take j++[r]:=by rw [aMT,hr];rfl
  have fK:=jcT ht (aMJ hr);generalize y.aLX.take j=M at*;simp only [go_sem,jb,bJ,aY,jU hr,jc,ja];intro b7;refine jx (jeh r fK.1 fK.2) λη=>?_
  simp only [go_sem,jb,jc,ja];simp only [go_sem,mP,eI,eC,jq7];intro bF mF;simp only [go_sem,hw];exact ql (j+1,mF) (jy [100,200,300] (by simp only [go_sem,jb,xI]<;>trivial))
 have aY:¬(j:Int)<y.aLX.length:=by omega
 rw [aMO (by omega)]
 simp only [go_sem,jb,aY]
theorem kp (y:Yd) (ht:jt y<=2000000):kg Tryz.prog 67 [.agg (jb y)] (.agg (jb y)):=by
 refine pf_ jht ?_;unfold jeq;have fP:y.aLU.length<=2000000:=by simp only [jt,jby] at ht;omega
 have bZ:=jg7 ht;simp only [go_sem,jb];intro b1 b2 b3;refine vo (λi:Nat×jm=>St.of [(1,Bx 100 b1),(2,Bx 200 b2),(3,Bx 300 b3),(4,Ni i.1)] [(100,Bi b1 _ (jb y)),(200,ZYd b2 _),(300,.box b3 _ [.a (.v (.int .i64 y.now)),.a (.v (.int .i64 y.seq)),.own (ku (y.aLU.take i.1)) i.2,.a (.v (.slice none 0 0))])]) (λi=>i.1<=y.aLU.length) (λi=>y.aLU.length-i.1) (0,jcF) (jy [100,200,300] (by simp only [go_sem,jb,aNM]<;>trivial)) ?_
 rintro ⟨k,η⟩ hk;dsimp only at hk;by_cases aB:k<y.aLU.length
 ·have aA:(k:Int)<y.aLU.length:=by omega
  have bD:=qT k;obtain ⟨l,hl⟩:=jd aB;have eV:=jbC ht (aMJ hl);have hw:=kX k;have eI:k+1<=maxLen:=by unfold maxLen;omega
  have eC:(k+1)*24<=140737488355328:=by omega
  have xC:l.length<=maxLen:=by unfold maxLen;omega
  have hm4:l.length*32<=140737488355328:=by omega
  have dO:(y.aLU.take k).length=k:=by rw [aMP];omega
  have gA:y.aLU.take (k+1)=y.aLU.take k++[l]:=by rw [aMT,hl];rfl
  generalize y.aLU.take k=M at*;simp only [go_sem,jb,aB,aA,bD,kY hl,xC,hm4,ko];intro bP v9;simp only [go_sem,dO,eI,eC,xC,hm4,ko,juu];intro bF mF;simp only [go_sem,hw];exact ql (k+1,mF) (jy [100,200,300] (by simp only [go_sem,jb,gA]<;>trivial))
 have aA:¬(k:Int)<y.aLU.length:=by omega
 rw [aMO (by omega)]
 simp only [go_sem,jb,aA];refine vo (λi:Nat×jm=>St.of [(1,Bx 100 b1),(2,Bx 200 b2),(3,Bx 300 b3),(5,Ni i.1)] [(100,Bi b1 _ (jb y)),(200,ZYd b2 _),(300,ka b3 _ y.now y.seq y.aLU η (y.aLX.take i.1) i.2)]) (λi=>i.1<=y.aLX.length) (λi=>y.aLX.length-i.1) (0,jcF) (jy [100,200,300] (by simp only [go_sem,jb,aNM]<;>trivial)) ?_
 rintro ⟨j,aV⟩ hj;dsimp only at hj;by_cases bJ:j<y.aLX.length
 ·have aY:(j:Int)<y.aLX.length:=by omega
  have dU:=qT j;obtain ⟨r,hr⟩:=jd bJ;have hw:=kX j;have eI:j+1<=maxLen:=by unfold maxLen;omega
  have eC:(j+1)*96<=140737488355328:=by omega
  have mP:(y.aLX.take j).length=j:=by rw [aMP];omega
  have xI:y.aLX.take (j+1)=y.aLX.take j++[r]:=by rw [aMT,hr];rfl
  have fK:=jcT ht (aMJ hr);generalize y.aLX.take j=M at*;simp only [go_sem,jb,bJ,aY,dU,jU hr,jc,ja];refine jx (vM r fK.1 fK.2) λη=>?_
  simp only [go_sem,jb,jc,ja];simp only [go_sem,mP,eI,eC,jq7];intro bF mF;simp only [go_sem,hw];exact ql (j+1,mF) (jy [100,200,300] (by simp only [go_sem,jb,xI]<;>trivial))
 have aY:¬(j:Int)<y.aLX.length:=by omega
 rw [aMO (by omega)]
 simp only [go_sem,jb,aY]
open Go.RowKit Go.Sort Go.BigFrame
open Go.RowKit Go.Sort Go.BigFrame
open Go.RowKit Go.Sort Go.BigFrame
open Go.RowKit Go.Sort Go.BigFrame
theorem ci {P:Program} {f:FuncId} {args:Array Value} {w:World} {b b':Int} (h:Calls P f args w λe w'=>e=.returned (.int .i64 b)/\Below w.heap.size w w') (hb:b=b'):Calls P f args w λe w'=>e=.returned (.int .i64 b')/\Below w.heap.size w w':=by subst hb;exact h
section
variable {w w':World} {own:Bool} {d:D} {v:Value} {S:List Nat}
theorem upA (h:Rep w own d v S) (o:Obj):Rep (w.alloc o) own d v S:=Rep.keep d h λb hb=>Below.heap_alloc w o b (Rep.lt d h b hb)
theorem up (h:Rep w own d v S) (hb:Below w.heap.size w w'):Rep w' own d v S:=h.below hb (aMV _)
theorem upB {w0:World} (h:Below w0.heap.size w0 w) (o:Obj):Below w0.heap.size w0 (w.alloc o):=h.alloc h.size o
end
open Go.RowKit Go.Sort Go.BigFrame
theorem jhY {w w1:World} {b o:Nat} {v:Value} (hB:Below w.heap.size w w1) (h:w.cell? ⟨b,o,none⟩=some v) (d:Nat) (os:Array Obj):(grow (redrawn w1 d) os).cell? ⟨b,o,none⟩=some v:=
 cell_regrown ((hB.cell (p:=⟨b,o,none⟩) (World.block_lt_of_cell? w _ h)).trans h) d os
theorem js {w w1:World} {b o:Nat} {v:Value} (hB:Below w.heap.size w w1) (h:w.cell? ⟨b,o,none⟩=some v):w1.cell? ⟨b,o,none⟩=some v:=
 (hB.cell (p:=⟨b,o,none⟩) (World.block_lt_of_cell? w _ h)).trans h
def inb (n low high:Int):Bool:=decide (low<=n/\n<=high)
theorem jbe {n low high:Int} (h:low<=n/\n<=high):inb n low high=true:=decide_eq_true h
theorem vP {n low high:Int} (h:¬(low<=n/\n<=high)):inb n low high=false:=decide_eq_false h
theorem vO (a b c:Int) (w:World):Calls Tryz.prog 62 #[.int .i64 a,.int .i64 b,.int .i64 c] w λe w'=>e=.returned (.bool (inb a b c))/\Below w.heap.size w w':=by
 by_cases h1:b<=a
 ·by_cases h2:a<=c
  ·have H:Hid (inb a b c=true):=jbe ⟨h1,h2⟩
   go_enter Tryz.func62,Tryz.ntmps62
   go_wp2
   go_ret
   exact ⟨jY H.out.symm,Below.refl _ _⟩
  ·have H:Hid (inb a b c=false):=vP λh=>h2 h.2
   go_enter Tryz.func62,Tryz.ntmps62
   go_wp2
   go_ret
   exact ⟨jY H.out.symm,Below.refl _ _⟩
 ·have H:Hid (inb a b c=false):=vP λh=>h1 h.1
  go_enter Tryz.func62,Tryz.ntmps62
  go_wp2
  go_ret
  exact ⟨jY H.out.symm,Below.refl _ _⟩
theorem zU (a b c:Int) (w:World):Calls Tryz.prog 68 #[.int .i64 a,.int .i64 b,.int .i64 c] w λe w'=>e=.returned (.bool (inb a b c))/\Below w.heap.size w w':=by
 by_cases h1:b<=a
 ·by_cases h2:a<=c
  ·have H:Hid (inb a b c=true):=jbe ⟨h1,h2⟩
   go_enter Tryz.func68,Tryz.ntmps68
   go_wp2
   go_ret
   exact ⟨jY H.out.symm,Below.refl _ _⟩
  ·have H:Hid (inb a b c=false):=vP λh=>h2 h.2
   go_enter Tryz.func68,Tryz.ntmps68
   go_wp2
   go_ret
   exact ⟨jY H.out.symm,Below.refl _ _⟩
 ·have H:Hid (inb a b c=false):=vP λh=>h1 h.1
  go_enter Tryz.func68,Tryz.ntmps68
  go_wp2
  go_ret
  exact ⟨jY H.out.symm,Below.refl _ _⟩
theorem jnf (y:Yd) (e:En) (a b:Value) (S S':List Nat) (w:World) (own own':Bool) (ha:AggRep w own (jb y) a S) (hb:AggRep w own' (jh e) b S'):
 Calls Tryz.prog 84 #[a,b] w λe1 w'=>e1=.returned (.bool (jP y e))/\Below w.heap.size w w':=by
 obtain ⟨_,rfl,ha⟩:=ha;obtain ⟨_,rfl,hb⟩:=hb;obtain ⟨rfl,rfl⟩:=jf9 hb;obtain ⟨sv,rv,S1,S2,rfl,ah0,ah1,rfl⟩:=zn ha;clear ha hb;rcases zd y e.run e.aMA with ⟨hr,ht⟩|⟨k,r,hr,hx,⟨d7,ht⟩|⟨j,t,hj,lW,ht⟩⟩
 ·have HR:=Lib.hid hr
  have HF:Hid (jP y e=false):=by unfold jP;rw [ht];rfl
  clear hr ht
  go_enter Tryz.func84,Tryz.ntmps84
  go_wp2_with (go_at_call 25;refine (ci (jbg y e.run _ _ _ own ⟨_,rfl,ja2 (upA (upA ah0 _) _) (upA (upA ah1 _) _)⟩) HR.out).mono ?_;rintro e1 w1 ⟨rfl,aW⟩;obtain ⟨cW,gK⟩:=jaq aW)
  refine wp_region_quiet_below (by kernel_rfl) (by kernel_rfl) ?_
  repeat (go_big_quiet_step (fail))
  refine wpQuiet_nil ?_;intro _ hw';obtain ⟨⟨dq,osq⟩,hw''⟩:=hw';subst hw''
  go_wp2
  go_ret
  exact ⟨jY (by rw [HF.out]),kq (kq (((Below.refl _ _).alloc (by simp) _).alloc (by simp) _) aW) (below_regrown w1 dq osq)⟩
 all_goals
  have HR:=Lib.hid hr;obtain ⟨A,c,rfl,cW,dI,dW⟩:=Rep.open_ (size:=8) (enc:=jc) (λ_=>rfl) (by decide) ah1
  have hk:k<y.aLX.length:=(aMI.1 hx).1;unfold maxLen at dI;have g8:y.aLX.length<=9223372036854775807:=by omega
  obtain ⟨b1,o1,vk1,T1,rfl,-,dE,-,-,tZ,bK⟩:=dW k r hx;clear dW;obtain ⟨v0,v1,U0,U1,rfl,-,gA,-⟩:=jay dE;have p7:=bK 7 _ rfl;clear bK dE;obtain ⟨B,d,rfl,o0,gC,eN⟩:=Rep.open_ (size:=4) (enc:=jk) (λ_=>rfl) (by decide) gA
  unfold maxLen at gC;have oR:r.aLT.length<=9223372036854775807:=by omega
  have cD:decide ((k:Int)>=0)=true:=by simp
  have hk1:decide ((k:Int)<0)=false:=by simp
  clear hr hx
 ·clear eN
  have HF:Hid (jP y e=false):=by unfold jP;rw [ht];rfl
  have HW:Hid (inb e.aMA 0 ((r.aLT.length:Int)-1)=false):=vP d7;clear ht d7
  go_enter Tryz.func84,Tryz.ntmps84
  go_wp2_with (go_at_call 25;refine (ci (jbg y e.run _ _ _ own ⟨_,rfl,ja2 (upA (upA ah0 _) _) (upA (upA ah1 _) _)⟩) HR.out).mono ?_;rintro e1 w1 ⟨rfl,aW⟩;obtain ⟨cW,gK⟩:=jaq aW)
  have cU:Below w.heap.size w w1:=kq (((Below.refl _ _).alloc (by simp) _).alloc (by simp) _) aW
  have p7':=jhY cU p7;have q3:∀(d:Nat) (os:Array Obj),(grow (redrawn w1 d) os).cell? ⟨w.heap.size,3,none⟩=some (.slice (some ⟨b1,o1,none⟩) y.aLX.length c):=λd os=>cell_regrown ((cW _ _ (by simp;try omega)).trans (by simp [go_sem])) d os
  have r3:∀(d:Nat) (os:Array Obj),(grow (redrawn w1 d) os).cell? ⟨w.heap.size+1,3,none⟩=some (.int .i64 e.aMA):=λd os=>cell_regrown ((cW _ _ (by simp;try omega)).trans (by simp [go_sem])) d os
  refine wp_region_quiet_below (by kernel_rfl) (by kernel_rfl) ?_
  repeat (go_big_quiet_step (exact Calls.regrown_of (cb (vO _ _ _ _) HW.out)))
  refine wpQuiet_nil ?_;intro _ hw';obtain ⟨⟨dq,osq⟩,hw''⟩:=hw';subst hw''
  go_wp2
  go_ret
  exact ⟨jY (by rw [HF.out]),kq cU (below_regrown w1 dq osq)⟩
 ·obtain ⟨b2,o2,vk2,T2,rfl,-,cL,-,-,tY,bW⟩:=eN j t lW
  clear eN;obtain ⟨rfl,rfl⟩:=ji8 cL;have p0:w.cell? ⟨b2,o2+j*4,none⟩=some (.int .i64 t.aLV):=bW 0 _ rfl;have bJ:j<r.aLT.length:=(aMI.1 lW).1;clear bW cL lW;obtain ⟨e1,e2,e3,e4⟩:=e;simp only at hj HR ht;subst hj;have HW:Hid (inb (j:Int) 0 ((r.aLT.length:Int)-1)=true):=jbe (by omega)
  by_cases aJ:t.aLV=2
  all_goals
   first|(have hs:(t.aLV==2)=true:=by simpa using aJ)|(have hs:(t.aLV==2)=false:=by simpa using aJ)
   have HF:=Lib.hid (show jP y ⟨e1,e2,e3,j⟩=(t.aLV==2) by unfold jP;rw [ht])
   clear ht aJ
   go_enter Tryz.func84,Tryz.ntmps84
   go_wp2_with (go_at_call 25;refine (ci (jbg y e3 _ _ _ own ⟨_,rfl,ja2 (upA (upA ah0 _) _) (upA (upA ah1 _) _)⟩) HR.out).mono ?_;rintro e1 w1 ⟨rfl,aW⟩;obtain ⟨cW,gK⟩:=jaq aW)
   have cU:Below w.heap.size w w1:=kq (((Below.refl _ _).alloc (by simp) _).alloc (by simp) _) aW
   have p7':=jhY cU p7;have q3:∀(d:Nat) (os:Array Obj),(grow (redrawn w1 d) os).cell? ⟨w.heap.size,3,none⟩=some (.slice (some ⟨b1,o1,none⟩) y.aLX.length c):=λd os=>cell_regrown ((cW _ _ (by simp;try omega)).trans (by simp [go_sem])) d os
   have r3:∀(d:Nat) (os:Array Obj),(grow (redrawn w1 d) os).cell? ⟨w.heap.size+1,3,none⟩=some (.int .i64 j):=λd os=>cell_regrown ((cW _ _ (by simp;try omega)).trans (by simp [go_sem])) d os
   have p0':=jhY cU p0;refine wp_region_quiet_below (by kernel_rfl) (by kernel_rfl) ?_
   repeat (go_big_quiet_step (exact Calls.regrown_of (cb (vO _ _ _ _) HW.out)))
   refine wpQuiet_nil ?_;intro _ hw';obtain ⟨⟨dq,osq⟩,hw''⟩:=hw';subst hw''
   go_wp2
   go_ret
   exact ⟨jY (by rw [HF.out,hs]),kq cU (below_regrown w1 dq osq)⟩
theorem jq3 (y:Yd) (e:En) (a b:Value) (S S':List Nat) (w:World) (own own':Bool) (ha:AggRep w own (jb y) a S) (hb:AggRep w own' (jh e) b S'):
 Calls Tryz.prog 75 #[a,b] w λe1 w'=>e1=.returned (.bool (jP y e))/\Below w.heap.size w w':=by
 obtain ⟨_,rfl,ha⟩:=ha;obtain ⟨_,rfl,hb⟩:=hb;obtain ⟨rfl,rfl⟩:=jf9 hb;obtain ⟨sv,rv,S1,S2,rfl,ah0,ah1,rfl⟩:=zn ha;clear ha hb;rcases zd y e.run e.aMA with ⟨hr,ht⟩|⟨k,r,hr,hx,⟨d7,ht⟩|⟨j,t,hj,lW,ht⟩⟩
 ·have HR:=Lib.hid hr
  have HF:Hid (jP y e=false):=by unfold jP;rw [ht];rfl
  clear hr ht
  go_enter Tryz.func75,Tryz.ntmps75
  go_wp2_with (go_at_call 26;refine (ci (jbb y e.run _ _ _ own ⟨_,rfl,ja2 (upA (upA ah0 _) _) (upA (upA ah1 _) _)⟩) HR.out).mono ?_;rintro e1 w1 ⟨rfl,aW⟩;obtain ⟨cW,gK⟩:=jaq aW)
  refine wp_region_quiet_below (by kernel_rfl) (by kernel_rfl) ?_
  repeat (go_big_quiet_step (fail))
  refine wpQuiet_nil ?_;intro _ hw';obtain ⟨⟨dq,osq⟩,hw''⟩:=hw';subst hw''
  go_wp2
  go_ret
  exact ⟨jY (by rw [HF.out]),kq (kq (((Below.refl _ _).alloc (by simp) _).alloc (by simp) _) aW) (below_regrown w1 dq osq)⟩
 all_goals
  have HR:=Lib.hid hr;obtain ⟨A,c,rfl,cW,dI,dW⟩:=Rep.open_ (size:=8) (enc:=jc) (λ_=>rfl) (by decide) ah1
  have hk:k<y.aLX.length:=(aMI.1 hx).1;unfold maxLen at dI;have g8:y.aLX.length<=9223372036854775807:=by omega
  obtain ⟨b1,o1,vk1,T1,rfl,-,dE,-,-,tZ,bK⟩:=dW k r hx;clear dW;obtain ⟨v0,v1,U0,U1,rfl,-,gA,-⟩:=jay dE;have p7:=bK 7 _ rfl;clear bK dE;obtain ⟨B,d,rfl,o0,gC,eN⟩:=Rep.open_ (size:=4) (enc:=jk) (λ_=>rfl) (by decide) gA
  unfold maxLen at gC;have oR:r.aLT.length<=9223372036854775807:=by omega
  have cD:decide ((k:Int)>=0)=true:=by simp
  have hk1:decide ((k:Int)<0)=false:=by simp
  clear hr hx
 ·clear eN
  have HF:Hid (jP y e=false):=by unfold jP;rw [ht];rfl
  have HW:Hid (inb e.aMA 0 ((r.aLT.length:Int)-1)=false):=vP d7;clear ht d7
  go_enter Tryz.func75,Tryz.ntmps75
  go_wp2_with (go_at_call 26;refine (ci (jbb y e.run _ _ _ own ⟨_,rfl,ja2 (upA (upA ah0 _) _) (upA (upA ah1 _) _)⟩) HR.out).mono ?_;rintro e1 w1 ⟨rfl,aW⟩;obtain ⟨cW,gK⟩:=jaq aW)
  have cU:Below w.heap.size w w1:=kq (((Below.refl _ _).alloc (by simp) _).alloc (by simp) _) aW
  have p7':=jhY cU p7;have q3:∀(d:Nat) (os:Array Obj),(grow (redrawn w1 d) os).cell? ⟨w.heap.size,3,none⟩=some (.slice (some ⟨b1,o1,none⟩) y.aLX.length c):=λd os=>cell_regrown ((cW _ _ (by simp;try omega)).trans (by simp [go_sem])) d os
  have r3:∀(d:Nat) (os:Array Obj),(grow (redrawn w1 d) os).cell? ⟨w.heap.size+1,3,none⟩=some (.int .i64 e.aMA):=λd os=>cell_regrown ((cW _ _ (by simp;try omega)).trans (by simp [go_sem])) d os
  refine wp_region_quiet_below (by kernel_rfl) (by kernel_rfl) ?_
  repeat (go_big_quiet_step (exact Calls.regrown_of (cb (zU _ _ _ _) HW.out)))
  refine wpQuiet_nil ?_;intro _ hw';obtain ⟨⟨dq,osq⟩,hw''⟩:=hw';subst hw''
  go_wp2
  go_ret
  exact ⟨jY (by rw [HF.out]),kq cU (below_regrown w1 dq osq)⟩
 ·obtain ⟨b2,o2,vk2,T2,rfl,-,cL,-,-,tY,bW⟩:=eN j t lW
  clear eN;obtain ⟨rfl,rfl⟩:=ji8 cL;have p0:w.cell? ⟨b2,o2+j*4,none⟩=some (.int .i64 t.aLV):=bW 0 _ rfl;have bJ:j<r.aLT.length:=(aMI.1 lW).1;clear bW cL lW;obtain ⟨e1,e2,e3,e4⟩:=e;simp only at hj HR ht;subst hj;have HW:Hid (inb (j:Int) 0 ((r.aLT.length:Int)-1)=true):=jbe (by omega)
  by_cases aJ:t.aLV=2
  all_goals
   first|(have hs:(t.aLV==2)=true:=by simpa using aJ)|(have hs:(t.aLV==2)=false:=by simpa using aJ)
   have HF:=Lib.hid (show jP y ⟨e1,e2,e3,j⟩=(t.aLV==2) by unfold jP;rw [ht])
   clear ht aJ
   go_enter Tryz.func75,Tryz.ntmps75
   go_wp2_with (go_at_call 26;refine (ci (jbb y e3 _ _ _ own ⟨_,rfl,ja2 (upA (upA ah0 _) _) (upA (upA ah1 _) _)⟩) HR.out).mono ?_;rintro e1 w1 ⟨rfl,aW⟩;obtain ⟨cW,gK⟩:=jaq aW)
   have cU:Below w.heap.size w w1:=kq (((Below.refl _ _).alloc (by simp) _).alloc (by simp) _) aW
   have p7':=jhY cU p7;have q3:∀(d:Nat) (os:Array Obj),(grow (redrawn w1 d) os).cell? ⟨w.heap.size,3,none⟩=some (.slice (some ⟨b1,o1,none⟩) y.aLX.length c):=λd os=>cell_regrown ((cW _ _ (by simp;try omega)).trans (by simp [go_sem])) d os
   have r3:∀(d:Nat) (os:Array Obj),(grow (redrawn w1 d) os).cell? ⟨w.heap.size+1,3,none⟩=some (.int .i64 j):=λd os=>cell_regrown ((cW _ _ (by simp;try omega)).trans (by simp [go_sem])) d os
   have p0':=jhY cU p0;refine wp_region_quiet_below (by kernel_rfl) (by kernel_rfl) ?_
   repeat (go_big_quiet_step (exact Calls.regrown_of (cb (zU _ _ _ _) HW.out)))
   refine wpQuiet_nil ?_;intro _ hw';obtain ⟨⟨dq,osq⟩,hw''⟩:=hw';subst hw''
   go_wp2
   go_ret
   exact ⟨jY (by rw [HF.out,hs]),kq cU (below_regrown w1 dq osq)⟩
def jbQ:C:=iS [iA 1 (.box 27 4 (.t 0)),iA 2 (.mov (.c (.slice none 0 0)))] (iS [iA 5 (wAX []),aM 3 5] (.seq (iS [aN 4 0] (.blk 0 (.loop (.seq (iS [aM 6 4,aF 7 2 1,aL 8 7,aG 9 8,aP 10 .lss 3 6 9] (iD 10 .skip (.exit 0))) (.seq (.blk 1 (.reg [aM 13 3,aF 14 2 1,aL 15 14,aM 16 4,aI 17 1 15 16,aL 18 17,iA 19 (wA2 13 18),aM 3 19])) (.reg [aM 11 4,aQ 12 .add 3 11 1,aM 4 12])))))) (iS [aM 20 3,aM 2 20] .ret)))
theorem jd0:fnC Tryz.prog Tryz.f74=some (jbQ,[.t 2],21):=by kernel_rfl
def jbT:C:=iS [iA 1 (.box 27 4 (.t 0)),iA 2 (.mov (.c (.slice none 0 0)))] (iS [iA 3 (.mov (.c (.slice none 0 0)))] (.seq (iS [aF 6 2 1,aL 7 6,aG 8 7,aN 9 0] (.blk 0 (.loop (iS [aP 10 .lss 3 9 8] (.seq (iD 10 .skip (.exit 0)) (.seq (.blk 1 (iS [aI 11 1 7 9,aL 12 11,aM 5 12] (.reg [aM 13 3,aM 14 5,iA 15 (wA2 13 14),aM 3 15]))) (.reg [aQ 16 .add 3 9 1,aM 9 16]))))))) (iS [aM 17 3,aM 2 17] .ret)))
theorem jd3:fnC Tryz.prog Tryz.f79=some (jbT,[.t 2],18):=by kernel_rfl
theorem jop (y:Yd) (e:En):kg Tryz.prog 84 [.agg (jb y),.agg (jh e)] (.c (.val (.bool (jP y e)))):=jpV ⟨_,Tryz.func84,by kernel_rfl,by kernel_rfl⟩ λw a b ⟨S,ha⟩ ⟨S2,hb⟩=>jnf y e a b S S2 w false false ha hb
theorem joh (y:Yd) (e:En):kg Tryz.prog 75 [.agg (jb y),.agg (jh e)] (.c (.val (.bool (jP y e)))):=jpV ⟨_,Tryz.func75,by kernel_rfl,by kernel_rfl⟩ λw a b ⟨S,ha⟩ ⟨S2,hb⟩=>jq3 y e a b S S2 w false false ha hb
theorem jvS (l m:List En):D.sl 4 tEn (l.flatMap jh++m.flatMap jh)=ji (l++m):=by simp [ji]
theorem jbI (y:Yd) (ht:jt y<=2000000):kg Tryz.prog 74 [.agg (jb y)] (.c (ji y.aLU.flatten)):=by
 refine pf_ jd0 ?_;unfold jbQ;have hl:=jq2 ht;have hf:=zH ht;simp only [go_sem,jb];intro b fG;refine vV (λs=>∃(k g ty:Nat) (η:jm),k<=y.aLU.length/\(g=500\/g=1900)/\s.t 1=.c (.bp 100 0 b)/\s.o 100=.box b ty ((jb y).map λx=>.a x.toRo)/\s.t 4=.c (.v (.int .i64 k))/\s.t 3=.c (.h g 0 [] (η []))/\s.o g=.loose (ji (y.aLU.take k).flatten) η) (λs=>y.aLU.length-s.n 4) ?_ ?_
 ·exact ⟨0,500,_,fG,aNE _,.inl rfl,by simp only [go_sem]<;>rfl,by simp only [go_sem]<;>rfl,by simp only [go_sem]<;>rfl,by simp only [go_sem]<;>rfl,by simp only [go_sem]<;>rfl⟩
 ·rintro s ⟨k,g,ty,η,hk,hg,h1,q9,h4,h3,bL⟩
  by_cases aB:k<y.aLU.length
  ·have aA:(k:Int)<y.aLU.length:=by omega
   obtain ⟨x,hx⟩:=jd aB;have hw:=kX k;have hn:=jka hx;have cX:=jc3 y.aLU (k+1);rw [hn,aMR] at cX;generalize (y.aLU.take k).flatten=l at*;have dN:l.length+x.length<=maxLen:=by unfold maxLen;omega
   have bI:(l.length+x.length)*32<=140737488355328:=by omega
   rcases hg with rfl|rfl
   all_goals
    simp only [go_sem,h1,q9,h4,h3,bL,jb,aB,aA,kY hx,dN,bI,hw,jvS];intro aV;refine ⟨⟨k+1,1900,ty,aV,?_⟩,?_⟩
    ·and_intros<;>first|rfl|omega|exact .inr rfl|(rw [hn];rfl)
    ·rw [je1 (k:=.i64) (n:=((k+1:Nat):Int)) (by simp only [go_sem]),je1 h4];omega
  ·have aA:¬(k:Int)<y.aLU.length:=by omega
   rw [aMO (by omega)] at bL
   rcases hg with rfl|rfl
   all_goals
    simp only [go_sem,h1,q9,h4,h3,bL,jb,aA]
theorem jhj (y:Yd) (ht:jt y<=2000000):kg Tryz.prog 79 [.agg (jb y)] (.c (ji y.aLU.flatten)):=by
 refine pf_ jd3 ?_;unfold jbT;have hl:=jq2 ht;have hf:=zH ht;simp only [go_sem,jb];intro b;refine vV (λs=>∃k:Nat,k<=y.aLU.length/\s.t 7=.c (.ro (ku y.aLU))/\s.t 8=.c (.v (.int .i64 y.aLU.length))/\s.t 9=.c (.v (.int .i64 k))/\(((y.aLU.take k).flatten=[]/\s.t 3=.c (.v (.slice none 0 0)))\/∃η:jm,s.t 3=.c (.h 1500 0 [] (η []))/\s.o 1500=.loose (ji (y.aLU.take k).flatten) η)) (λs=>y.aLU.length-s.n 9) ?_ ?_
 ·exact ⟨0,aNE _,by simp only [go_sem]<;>rfl,by simp only [go_sem]<;>rfl,by simp only [go_sem]<;>rfl,.inl ⟨rfl,by simp only [go_sem]⟩⟩
 ·rintro s ⟨k,hk,h7,h8,h9,hg⟩
  by_cases aB:k<y.aLU.length
  ·have aA:(k:Int)<y.aLU.length:=by omega
   obtain ⟨x,hx⟩:=jd aB;have hw:=kX k;have hn:=jka hx;have cX:=jc3 y.aLU (k+1);rw [hn,aMR] at cX;generalize (y.aLU.take k).flatten=l at*;have dN:l.length+x.length<=maxLen:=by unfold maxLen;omega
   have bI:(l.length+x.length)*32<=140737488355328:=by omega
   rcases hg with ⟨rB,h3⟩|⟨η,h3,bL⟩
   ·have i8:x.length<=maxLen:=by unfold maxLen;omega
    have rQ:x.length*32<=140737488355328:=by omega
    rw [rB,aON] at hn;simp only [go_sem,h7,h8,h9,h3,aB,aA,kY hx,hw,i8,rQ,jqr];intro aV;refine ⟨⟨k+1,by omega,rfl,.inr ⟨aV,rfl,by rw [hn]⟩⟩,?_⟩
    rw [je1 (k:=.i64) (n:=((k+1:Nat):Int)) (by simp only [go_sem]),je1 h9];omega
   ·simp only [go_sem,h7,h8,h9,h3,bL,aB,aA,kY hx,hw,dN,bI,jvS]
    intro aV;refine ⟨⟨k+1,by omega,rfl,.inr ⟨aV,rfl,by rw [hn]⟩⟩,?_⟩
    rw [je1 (k:=.i64) (n:=((k+1:Nat):Int)) (by simp only [go_sem]),je1 h9];omega
  ·have aA:¬(k:Int)<y.aLU.length:=by omega
   have yZ:y.aLU.take k=y.aLU:=aMO (by omega)
   rcases hg with ⟨rB,h3⟩|⟨η,h3,bL⟩
   ·rw [yZ] at rB
    simp only [go_sem,h7,h8,h9,h3,aA,rB]
   ·rw [yZ] at bL
    simp only [go_sem,h7,h8,h9,h3,bL,aA]
open Go.RowKit Go.Sort Go.BigFrame
theorem jny {w w1:World} {b o:Nat} {v:Value} (hB:Below w.heap.size w w1) (h:w.cell? ⟨b,o+0,none⟩=some v):w1.cell? ⟨b,o,none⟩=some v:=js hB h
theorem jCE:∀(x:En),∀d∈jh x,∃u,d=.val u:=by intro y d hd;simp [jh] at hd;rcases hd with rfl|rfl|rfl|rfl<;>exact ⟨_,rfl⟩
theorem jne (y:Yd) (a:Value) (S:List Nat) (w:World) (own:Bool) (ha:AggRep w own (jb y) a S) (cR:jt y<=2000000):
 Calls Tryz.prog 79 #[a] w (jDk w (ji (zR y))):=by
 obtain ⟨_,rfl,ha⟩:=ha;obtain ⟨sv,rv,S1,S2,rfl,ah0,ah1,rfl⟩:=zn ha;clear ha ah1;obtain ⟨A,c,rfl,cW,dI,dW⟩:=Rep.open_ (size:=1) (enc:=λes=>[ji es]) (λ_=>rfl) (by decide) ah0
 unfold maxLen at dI;have g8:y.aLU.length<=9223372036854775807:=by omega
 have hsm:y.aLU.flatten.length<=2000000:=by rw [vr];simp only [jt,jby] at cR;omega
 go_enter Tryz.func79,Tryz.ntmps79
 go_wp2
 go_loopw [3,5,9] (λv _ i wr=>∃k:Nat,k<=y.aLU.length/\i=.int .i64 k/\Fill jh 4 tEn w (y.aLU.take k).flatten v wr) (λ_ _ i _=>y.aLU.length-(intOf i).toNat)
 case atStart=>exact ⟨0,by omega,rfl,[],Rep.nil_ _ _ _,Fresh.nil _,(Below.refl _ _).alloc (by simp) _⟩
 case round=>
  obtain ⟨k,hk,rfl,S3,bG,hF,a9⟩:=hrel;by_cases aB:k<y.aLU.length
  ·obtain ⟨es,hx⟩:=jd aB
   obtain ⟨b1,o1,vk1,T1,rfl,-,dE,-,-,aW,bK⟩:=dW k es hx;clear dW;obtain ⟨u,_,U0,U1,rfl,rfl,hu,rfl,rfl⟩:=dE;have p0:=(a9.cell (p:=⟨b1,o1+k,none⟩) aW).trans (by simpa using bK 0 _ rfl:w.cell? ⟨b1,o1+k,none⟩=_)
   obtain ⟨A2,c2,news,rfl,d8,rC,hn3⟩:=Rep.src (enc:=jh) (size:=4) (λ_=>rfl) (by decide) jCE (hu.below a9 (aMV _))
   have dO:=jbM hx
   have cX:(y.aLU.take (k+1)).flatten.length<=2000000:=by
    have:(y.aLU.take (k+1)).flatten.length<=y.aLU.flatten.length:=by rw [vr,vr];exact jak _ _ _
    omega
   rw [dO,aMR] at cX;have HK:=Lib.hid dO;clear hx bK dO
   go_wp2_with ((with_reducible refine jps (.tmp 13) (.tmp 14) ?_);refine jbt (enc:=jh) (xs:=(y.aLU.take k).flatten) (ys:=es) rfl _ _ rfl slEn (λ_=>rfl) rfl bG A2 es.length c2 news rfl d8 rfl rC hn3 jvU w.heap.size a9.size (by simpa using hF) (by unfold maxLen;omega) (by omega) ?_;intro v' w' S' eM uJ fQ _)
   go_roundw
   case rel=>
    refine ⟨k+1,by omega,by go_num,S',?_,uJ,a9.trans (fQ.below (λs hs=>hF.2 s hs) a9.size)⟩
    rw [HK.out];exact eM
   case measure=>simp [intOf];omega
  ·obtain rfl:k=y.aLU.length:=by omega
   clear dW
   go_wp2
   go_ret
   exact ⟨_,S3,rfl,by rw [aOI] at bG;exact bG,hF,a9⟩
theorem jl1 (y:Yd) (a:Value) (S:List Nat) (w:World) (own:Bool) (ha:AggRep w own (jb y) a S) (cR:jt y<=2000000):
 Calls Tryz.prog 21 #[a] w λe w'=>e=.returned (.int .i64 (kw y))/\Below w.heap.size w w':=by
 obtain ⟨_,rfl,ha⟩:=ha;obtain ⟨sv,rv,S1,S2,rfl,ah0,ah1,rfl⟩:=zn ha;clear ha;obtain ⟨A,c,rfl,cW,dI,dW⟩:=Rep.open_ (size:=8) (enc:=jc) (λ_=>rfl) (by decide) ah1
 unfold maxLen at dI;have g8:y.aLX.length<=9223372036854775807:=by omega
 have sG:qN kH y.aLX<=2000000:=by have:=jjw y.aLX;simp only [jt,jac] at cR;omega
 have cK:(zR y).length<=2000000:=by unfold zR;rw [vr];simp only [jt,jby] at cR;omega
 obtain ⟨svA,svn,svc,rfl⟩:=Rep.form ah0;have rM:=upB (Below.refl w.heap.size w) (.cells #[.int .i64 y.now,.int .i64 y.seq,.slice svA svn svc,.slice A y.aLX.length c] tYd)
 go_enter Tryz.func21,Tryz.ntmps21
 go_wp2
 go_loopw [3,5,11] (λn _ i wr=>∃k:Nat,k<=y.aLX.length/\i=.int .i64 k/\n=.int .i64 (qN kH (y.aLX.take k):Nat)/\Below (w.alloc (.cells #[.int .i64 y.now,.int .i64 y.seq,.slice svA svn svc,.slice A y.aLX.length c] tYd)).heap.size (w.alloc (.cells #[.int .i64 y.now,.int .i64 y.seq,.slice svA svn svc,.slice A y.aLX.length c] tYd)) wr) (λ_ _ i _=>y.aLX.length-(intOf i).toNat)
 case atStart=>exact ⟨0,by omega,rfl,rfl,Below.refl _ _⟩
 case round=>
  obtain ⟨k,hk,rfl,rfl,a9⟩:=hrel;have hB:=kq rM a9;by_cases aB:k<y.aLX.length
  ·obtain ⟨x,hx⟩:=jd aB
   obtain ⟨b1,o1,vk1,T1,rfl,-,dE,-,-,aW,bK⟩:=dW k x hx;clear dW;obtain ⟨v0,v1,U0,U1,rfl,fX,htv,-⟩:=jay dE;obtain ⟨_,_,_,rfl⟩:=Rep.form fX;obtain ⟨B,d,rfl,o0,gC,eN⟩:=Rep.open_ (size:=4) (enc:=jk) (λ_=>rfl) (by decide) htv
   unfold maxLen at gC;have oR:x.aLT.length<=9223372036854775807:=by omega
   have p0:=jny hB (bK 0 _ rfl);have p1:=js hB (bK 1 _ rfl);have p2:=js hB (bK 2 _ rfl);have p3:=js hB (bK 3 _ rfl);have p4:=js hB (bK 4 _ rfl);have p5:=js hB (bK 5 _ rfl);have p6:=js hB (bK 6 _ rfl);have p7:=js hB (bK 7 _ rfl);have dO:=vK (tot:=kH) hx;have cP:=jak kH y.aLX (k+1);have mN:kH x=if x.aLV=1 then x.aLT.length else 0:=rfl
   have HK:=Lib.hid dO;have HL:=Lib.hid mN;have mM:(qN kH (y.aLX.take k):Int)<=2000000:=by omega
   have d8:x.aLT.length<=2000000\/x.aLV≠1:=by by_cases h:x.aLV=1;left;rw [if_pos h] at mN;omega;exact .inr h
   clear hx bK dE dO mN eN cP;by_cases aJ:x.aLV=1
   ·have hs:(x.aLV==1)=true:=by simpa using aJ
    have rC:x.aLT.length<=2000000:=by rcases d8 with h|h;exact h;exact absurd aJ h
    have HS:=Lib.hid aJ;clear aJ d8
    go_wp2
    go_roundw
    case rel=>
     refine ⟨k+1,by omega,by go_num,?_,?_⟩
     ·rw [HK.out,HL.out,if_pos HS.out];go_num
     ·exact a9.trans (((Below.refl _ _).alloc (aMV _) _).mono a9.size)
    case measure=>simp [intOf];omega
   ·have hs:(x.aLV==1)=false:=by simpa using aJ
    have HS:=Lib.hid aJ;clear aJ d8
    go_wp2
    go_roundw
    case rel=>
     refine ⟨k+1,by omega,by go_num,?_,?_⟩
     ·rw [HK.out,HL.out,if_neg HS.out];rfl
     ·exact a9.trans (((Below.refl _ _).alloc (aMV _) _).mono a9.size)
    case measure=>simp [intOf];omega
  ·obtain rfl:k=y.aLX.length:=by omega
   clear dW;rw [aOI];obtain ⟨f6,gB⟩:=jaq a9;have q0:wr.cell? ⟨w.heap.size,0,none⟩=some (.int .i64 y.now):=(f6 _ _ (by simp)).trans (by simp [go_sem])
   have q1:wr.cell? ⟨w.heap.size,1,none⟩=some (.int .i64 y.seq):=(f6 _ _ (by simp)).trans (by simp [go_sem])
   have q2:wr.cell? ⟨w.heap.size,2,none⟩=some (.slice svA svn svc):=(f6 _ _ (by simp)).trans (by simp [go_sem])
   have q3:wr.cell? ⟨w.heap.size,3,none⟩=some (.slice A y.aLX.length c):=(f6 _ _ (by simp)).trans (by simp [go_sem])
   clear f6 gB a9
   go_wp2_with fail
   refine (jne y _ _ _ own ⟨_,rfl,ja2 (up ah0 hB) (up ah1 hB)⟩ cR).mono ?_;rintro e w1 ⟨ev,T1,rfl,hrv,-,aW⟩;obtain ⟨B,d,rfl,o0,gC,eN⟩:=Rep.open_ (size:=4) (enc:=jh) (λ_=>rfl) (by decide) hrv
   unfold maxLen at gC;have yG:=kq hB aW
   replace q0:=js aW q0
   replace q1:=js aW q1
   replace q2:=js aW q2
   replace q3:=js aW q3
   clear aW hrv
   go_wp2_with fail
   go_loopw [3,7,27] (λn _ i wr=>∃k:Nat,k<=(zR y).length/\i=.int .i64 k/\n=.int .i64 ((qN kH y.aLX:Int)+qh y ((zR y).take k))/\Below w1.heap.size w1 wr) (λ_ _ i _=>(zR y).length-(intOf i).toNat)
   case atStart=>exact ⟨0,by omega,rfl,by simp [qh],Below.refl _ _⟩
   case round=>
    obtain ⟨k,hk,rfl,rfl,a9⟩:=hrel;have dQ:=kq yG a9;by_cases aB:k<(zR y).length
    ·obtain ⟨x,hx⟩:=jd aB
     obtain ⟨b1,o1,vk1,T2,rfl,-,dE,-,-,aW,bK⟩:=eN k x hx;clear eN;obtain ⟨rfl,rfl⟩:=jf9 dE;have p0:=jny a9 (bK 0 _ rfl);have p1:=js a9 (bK 1 _ rfl);have p2:=js a9 (bK 2 _ rfl);have p3:=js a9 (bK 3 _ rfl);have r0:=js a9 q0;have r1:=js a9 q1;have r2:=js a9 q2;have r3:=js a9 q3;have oN:=World.block_lt_of_cell? wr _ r0;simp only at oN;have gQ:=jlw (y:=y) hx;have aJ:=jlv y (zR y) (k+1);have hsa:=jmv y (zR y);have mM:(qN kH y.aLX:Int)+qh y ((zR y).take k)<=4000000:=by split at gQ<;>omega
     have HS:=Lib.hid gQ;clear hx bK gQ aJ hsa;by_cases gB:jP y x=true
     ·have HF:=Lib.hid gB
      clear gB
      go_wp2_with (go_at_call 84;refine (cb (jnf y x _ _ _ _ _ own own ⟨_,rfl,ja2 (upA (up ah0 dQ) _) (upA (up ah1 dQ) _)⟩ ⟨_,rfl,jx4 _ _ x⟩) HF.out).mono ?_;rintro e w2 ⟨rfl,bM⟩)
      go_roundw
      case rel=>
       refine ⟨k+1,by omega,by go_num,?_,kq (upB a9 _) bM⟩
       rw [HS.out,if_pos HF.out];rfl
      case measure=>simp [intOf];omega
     ·have oX:jP y x=false:=by simpa using gB
      have HF:=Lib.hid oX;clear gB oX
      go_wp2_with (go_at_call 84;refine (cb (jnf y x _ _ _ _ _ own own ⟨_,rfl,ja2 (upA (up ah0 dQ) _) (upA (up ah1 dQ) _)⟩ ⟨_,rfl,jx4 _ _ x⟩) HF.out).mono ?_;rintro e w2 ⟨rfl,bM⟩)
      go_roundw
      case rel=>
       refine ⟨k+1,by omega,by go_num,?_,kq (upB a9 _) bM⟩
       rw [HS.out,HF.out];simp;omega
      case measure=>simp [intOf];omega
    ·obtain rfl:k=(zR y).length:=by omega
     clear eN;rw [aOI];have fP:kw y=(qN kH y.aLX:Int)+qh y (zR y):=rfl;have HSL:=Lib.hid fP;clear fP
     go_wp2
     go_ret
     exact ⟨jha HSL.out.symm,dQ⟩
open Go.RowKit Go.Sort Go.BigFrame
theorem jh3 (y:Yd) (a b:List En):qh y (a++b)=qh y a+qh y b:=by simp [qh]
theorem jlD (y:Yd) (a:Value) (S:List Nat) (w:World) (own:Bool) (ha:AggRep w own (jb y) a S) (cR:jt y<=2000000):
 Calls Tryz.prog 132 #[a] w λe w'=>e=.returned (.int .i64 (kw y))/\Below w.heap.size w w':=by
 obtain ⟨_,rfl,ha⟩:=ha;obtain ⟨sv,rv,S1,S2,rfl,ah0,ah1,rfl⟩:=zn ha;clear ha;obtain ⟨A,c,rfl,cW,dI,dW⟩:=Rep.open_ (size:=8) (enc:=jc) (λ_=>rfl) (by decide) ah1
 obtain ⟨C,f,rfl,gK,nH,uY⟩:=Rep.open_ (size:=1) (enc:=λes=>[ji es]) (λ_=>rfl) (by decide) ah0
 unfold maxLen at dI nH;have g8:y.aLX.length<=9223372036854775807:=by omega
 have oR:y.aLU.length<=9223372036854775807:=by omega
 have sG:qN kH y.aLX<=2000000:=by have:=jjw y.aLX;simp only [jt,jac] at cR;omega
 have cK:(zR y).length<=2000000:=by unfold zR;rw [vr];simp only [jt,jby] at cR;omega
 have rM:=upB (Below.refl w.heap.size w) (.cells #[.int .i64 y.now,.int .i64 y.seq,.slice C y.aLU.length f,.slice A y.aLX.length c] tYd)
 go_enter Tryz.func132,Tryz.ntmps132
 go_wp2
 go_loop [3,4] (λn i=>∃k:Nat,k<=y.aLX.length/\i=.int .i64 k/\n=.int .i64 (qN kH (y.aLX.take k):Nat)) (λ_ i=>y.aLX.length-(intOf i).toNat)
 case atStart=>exact ⟨0,by omega,rfl,rfl⟩
 case round=>
  obtain ⟨k,hk,rfl,rfl⟩:=hrel;by_cases aB:k<y.aLX.length
  ·obtain ⟨x,hx⟩:=jd aB
   obtain ⟨b1,o1,vk1,T1,rfl,-,dE,-,-,aW,bK⟩:=dW k x hx;clear dW uY;obtain ⟨v0,v1,U0,U1,rfl,fX,htv,-⟩:=jay dE;obtain ⟨B,d,rfl,o0,gC,eN⟩:=Rep.open_ (size:=4) (enc:=jk) (λ_=>rfl) (by decide) htv
   unfold maxLen at gC;have xG:x.aLT.length<=9223372036854775807:=by omega
   have p6:=bK 6 _ rfl;have p7:=bK 7 _ rfl;have dO:=vK (tot:=kH) hx;have cP:=jak kH y.aLX (k+1);have mN:kH x=if x.aLV=1 then x.aLT.length else 0:=rfl
   have HK:=Lib.hid dO;have HL:=Lib.hid mN;have mM:(qN kH (y.aLX.take k):Int)<=2000000:=by omega
   have d8:x.aLT.length<=2000000\/x.aLV≠1:=by by_cases h:x.aLV=1;left;rw [if_pos h] at mN;omega;exact .inr h
   clear hx bK dE dO mN eN cP;by_cases aJ:x.aLV=1
   ·have hs:(x.aLV==1)=true:=by simpa using aJ
    have rC:x.aLT.length<=2000000:=by rcases d8 with h|h;exact h;exact absurd aJ h
    have HS:=Lib.hid aJ;clear aJ d8
    go_wp2
    go_round
    case rel=>
     refine ⟨k+1,by omega,by go_num,?_⟩
     rw [HK.out,HL.out,if_pos HS.out];go_num
    case measure=>simp [intOf];omega
   ·have hs:(x.aLV==1)=false:=by simpa using aJ
    have HS:=Lib.hid aJ;clear aJ d8
    go_wp2
    go_round
    case rel=>
     refine ⟨k+1,by omega,by go_num,?_⟩
     rw [HK.out,HL.out,if_neg HS.out];rfl
    case measure=>simp [intOf];omega
  ·obtain rfl:k=y.aLX.length:=by omega
   clear dW;rw [aOI]
   go_wp2
   go_loopw [3,5,6] (λn i _ wr=>∃k:Nat,k<=y.aLU.length/\i=.int .i64 k/\n=.int .i64 ((qN kH y.aLX:Int)+qh y (y.aLU.take k).flatten)/\Below (w.alloc (.cells #[.int .i64 y.now,.int .i64 y.seq,.slice C y.aLU.length f,.slice A y.aLX.length c] tYd)).heap.size (w.alloc (.cells #[.int .i64 y.now,.int .i64 y.seq,.slice C y.aLU.length f,.slice A y.aLX.length c] tYd)) wr) (λ_ i _ _=>y.aLU.length-(intOf i).toNat)
   case atStart=>exact ⟨0,by omega,rfl,by simp [qh],Below.refl _ _⟩
   case round=>
    obtain ⟨k,hk,rfl,rfl,a9⟩:=hrel;obtain ⟨wo,rfl⟩:∃wo:World,wo=wr:=⟨_,rfl⟩;have dQ:=kq rM a9;obtain ⟨f6,gB⟩:=jaq a9;have q0:wo.cell? ⟨w.heap.size,0,none⟩=some (.int .i64 y.now):=(f6 _ _ (by simp)).trans (by simp [go_sem])
    have q1:wo.cell? ⟨w.heap.size,1,none⟩=some (.int .i64 y.seq):=(f6 _ _ (by simp)).trans (by simp [go_sem])
    have q2:wo.cell? ⟨w.heap.size,2,none⟩=some (.slice C y.aLU.length f):=(f6 _ _ (by simp)).trans (by simp [go_sem])
    have q3:wo.cell? ⟨w.heap.size,3,none⟩=some (.slice A y.aLX.length c):=(f6 _ _ (by simp)).trans (by simp [go_sem])
    clear f6 gB;by_cases aB:k<y.aLU.length
    ·obtain ⟨es,hx⟩:=jd aB
     obtain ⟨b1,o1,vk1,T2,rfl,-,dE,-,-,aW,bK⟩:=uY k es hx;clear uY;obtain ⟨u,_,U0,U1,rfl,rfl,hu,rfl,rfl⟩:=dE;have p0:w.cell? ⟨b1,o1+k,none⟩=some u:=by simpa using bK 0 _ rfl
     have hfs:=jbM hx
     have mJ:∀j,qh y (y.aLU.take k).flatten+qh y (es.take j)<=2000000:=λj=>by
      have h1:=jlv y es j;have h2:=jh3 y (y.aLU.take k).flatten es;rw [<-hfs] at h2;have h3:=jmv y (y.aLU.take (k+1)).flatten;have h4:(y.aLU.take (k+1)).flatten.length<=(zR y).length:=by unfold zR;rw [vr,vr];exact jak _ _ _
      omega
     obtain ⟨B,d,rfl,o0,gC,eN⟩:=Rep.open_ (size:=4) (enc:=jh) (λ_=>rfl) (by decide) hu
     unfold maxLen at gC;have xG:es.length<=9223372036854775807:=by omega
     have p0':=js dQ p0;have HFS:=Lib.hid hfs;clear hx bK hfs
     go_wp2
     go_loopw [3,6] (λn i wr=>∃j:Nat,j<=es.length/\i=.int .i64 j/\n=.int .i64 ((qN kH y.aLX:Int)+qh y (y.aLU.take k).flatten+qh y (es.take j))/\Below wo.heap.size wo wr) (λ_ i _=>es.length-(intOf i).toNat)
     case atStart=>exact ⟨0,by omega,rfl,by simp [qh],Below.refl _ _⟩
     case round=>
      obtain ⟨j,hj,rfl,rfl,gD⟩:=hrel;have lR:=kq dQ gD;have r2:=js gD q2;have p0'':=js gD p0';by_cases bJ:j<es.length
      ·obtain ⟨x,hx⟩:=jd bJ
       obtain ⟨b2,o2,vk2,T3,rfl,-,cL,-,-,bM,bW⟩:=eN j x hx;clear eN;obtain ⟨rfl,rfl⟩:=jf9 cL;have hsj:=mJ j;have gQ:=jlw (y:=y) hx;have HS:=Lib.hid gQ;have c0:=cell_regrown (jny lR (bW 0 _ rfl));have c1:=cell_regrown (js lR (bW 1 _ rfl));have c2:=cell_regrown (js lR (bW 2 _ rfl));have c3:=cell_regrown (js lR (bW 3 _ rfl));have g0:=cell_regrown (js gD q0);have g1:=cell_regrown (js gD q1);have g2:=cell_regrown r2;have g3:=cell_regrown (js gD q3);have gp:=cell_regrown p0'';have dH:=λ(W:World) (hW:Below wr.heap.size wr W)=>jq3 y x _ _ _ _ W own own ⟨_,rfl,ja2 (up (up ah0 lR) hW) (up (up ah1 lR) hW)⟩ ⟨_,rfl,jx4 _ _ x⟩
       clear hx bW gQ mJ;by_cases gB:jP y x=true
       ·have HF:=Lib.hid gB
        clear gB
        go_wp2
        refine wp_region_quiet_below (by kernel_rfl) (by kernel_rfl) ?_
        repeat (go_big_quiet_step (exact Calls.regrown_of (cb (dH _ (below_regrown wr _ _)) HF.out)))
        refine wpQuiet_nil ?_;intro _ hw';obtain ⟨⟨dq,osq⟩,hw''⟩:=hw';subst hw''
        go_wp2
        go_roundw
        case rel=>
         refine ⟨j+1,by omega,by go_num,?_,kq gD (below_regrown wr dq osq)⟩
         rw [HS.out,if_pos HF.out];rfl
        case measure=>simp [intOf];omega
       ·have oX:jP y x=false:=by simpa using gB
        have HF:=Lib.hid oX;clear gB oX
        go_wp2
        refine wp_region_quiet_below (by kernel_rfl) (by kernel_rfl) ?_
        repeat (go_big_quiet_step (exact Calls.regrown_of (cb (dH _ (below_regrown wr _ _)) HF.out)))
        refine wpQuiet_nil ?_;intro _ hw';obtain ⟨⟨dq,osq⟩,hw''⟩:=hw';subst hw''
        go_wp2
        go_roundw
        case rel=>
         refine ⟨j+1,by omega,by go_num,?_,kq gD (below_regrown wr dq osq)⟩
         rw [HS.out,HF.out];simp;omega
        case measure=>simp [intOf];omega
      ·obtain rfl:j=es.length:=by omega
       clear eN mJ;rw [aOI]
       go_wp2
       go_roundw
       case rel=>
        refine ⟨k+1,by omega,by go_num,?_,kq a9 gD⟩
        rw [HFS.out,jh3];simp;omega
       case measure=>simp [intOf];omega
    ·obtain rfl:k=y.aLU.length:=by omega
     clear uY;rw [aOI];have fP:kw y=(qN kH y.aLX:Int)+qh y y.aLU.flatten:=rfl;have HSL:=Lib.hid fP;clear fP
     go_wp2
     go_ret
     exact ⟨jha HSL.out.symm,dQ⟩
open Go.RowKit Go.Sort Go.BigFrame
theorem cto {w w1:World} {b o:Nat} {v:Value} (hB:Below w.heap.size w w1) (h:w.cell? ⟨b,o,none⟩=some v):w1.cell? ⟨b,o,none⟩=some v:=
 (hB.cell (p:=⟨b,o,none⟩) (World.block_lt_of_cell? w _ h)).trans h
@[go_sem high] theorem equalEd (w:World) (x y:Ed):(Op.equalIn 10000 161 (.agg #[.int .i64 x.src,.int .i64 x.dst]) (.agg #[.int .i64 y.src,.int .i64 y.dst])).run Tryz.prog w=.ok (decide (x=y)) w:=by
  have u3:=Tryz.underlying3;have a3:=Tryz.isAgg3;have z3:=Tryz.sizeOf3;rw [show (10000:Nat)=9999+1 from rfl,run_equalIn_agg w 9999 161 _ _ (by kernel_rfl) (by kernel_rfl)]
  simp only [Program.fieldsOf,Tryz.underlying161];obtain ⟨xsrc,xdst⟩:=x;obtain ⟨ysrc,ydst⟩:=y
  go_simp
  by_cases h0:xsrc=ysrc<;>by_cases h1:xdst=ydst<;>simp [h0,h1]
theorem jtm (l m:List Ed) (a b:Value) (S S':List Nat) (w:World) (own own':Bool) (ha:Rep w own (jv l) a S) (hb:Rep w own' (jv m) b S'):
 Calls Tryz.prog 185 #[a,b] w λe w'=>e=.returned (.bool (decide (l=m)))/\Below w.heap.size w w':=by
 obtain ⟨A,c,rfl,cW,dI,dW⟩:=Rep.open_ (size:=2) (enc:=jR) (λ_=>rfl) (by decide) ha
 obtain ⟨B,d,rfl,o0,gC,eN⟩:=Rep.open_ (size:=2) (enc:=jR) (λ_=>rfl) (by decide) hb
 unfold maxLen at dI gC;have g8:l.length<=9223372036854775807:=by omega
 have oR:m.length<=9223372036854775807:=by omega
 clear ha hb;by_cases aD:l.length=m.length
 ·have HL:=Lib.hid aD
  have aR:((l.length:Int) !=(m.length:Int))=false:=by rw [aD];simp
  clear aD
  go_enter Tryz.func185,Tryz.ntmps185
  go_wp2
  go_loopw [5,13] (λ_ i wr=>∃k:Nat,k<=l.length/\i=.int .i64 k/\l.take k=m.take k/\Below w.heap.size w wr) (λ_ i _=>l.length-(intOf i).toNat)
  case atStart=>exact ⟨0,by omega,rfl,rfl,Below.refl _ _⟩
  case round=>
   obtain ⟨k,hk,rfl,fD,a9⟩:=hrel;have HQ:=Lib.hid fD;clear fD;by_cases aB:k<l.length
   ·have aA:k<m.length:=by have:=HL.out;omega
    obtain ⟨x,hx⟩:=jd aB;obtain ⟨y,hy⟩:=jd aA;obtain ⟨b1,o1,vk1,T1,rfl,-,dE,-,-,aW,bK⟩:=dW k x hx;obtain ⟨b2,o2,vk2,T2,rfl,-,cL,-,-,bM,bW⟩:=eN k y hy;clear dW eN;obtain ⟨rfl,rfl⟩:=jrO dE;obtain ⟨rfl,rfl⟩:=jrO cL;have HX:=Lib.hid hx;have HY:=Lib.hid hy;clear hx hy;have p0:=cell_regrown (cto (b:=b1) (o:=o1+k*2) a9 (bK 0 _ rfl));have q0:=cell_regrown (cto (b:=b2) (o:=o2+k*2) a9 (bW 0 _ rfl));have p1:=cell_regrown (cto (b:=b1) (o:=o1+k*2+1) a9 (bK 1 _ rfl));have q1:=cell_regrown (cto (b:=b2) (o:=o2+k*2+1) a9 (bW 1 _ rfl));clear bK bW dE cL;by_cases uP:x=y
    ·have HXY:=Lib.hid uP
     have hd:decide (x=y)=true:=decide_eq_true uP;clear uP
     go_wp2
     refine wp_region_quiet_below (by kernel_rfl) (by kernel_rfl) ?_
     repeat (go_big_quiet_step (fail))
     refine wpQuiet_nil ?_;intro _ hw';obtain ⟨⟨dq,osq⟩,hw''⟩:=hw';subst hw'';have o4:=a9.trans ((below_regrown wr dq osq).mono a9.size)
     go_wp2
     go_roundw
     case rel=>exact ⟨k+1,by omega,by go_num,jx2 HX.out (HXY.out▸HY.out) HQ.out,o4⟩
     case measure=>simp [intOf];omega
    ·have HXY:=Lib.hid uP
     have hd:decide (x=y)=false:=decide_eq_false uP;clear uP
     go_wp2
     refine wp_region_quiet_below (by kernel_rfl) (by kernel_rfl) ?_
     repeat (go_big_quiet_step (fail))
     refine wpQuiet_nil ?_;intro _ hw';obtain ⟨⟨dq,osq⟩,hw''⟩:=hw';subst hw'';have o4:=a9.trans ((below_regrown wr dq osq).mono a9.size)
     go_wp2
     go_ret
     exact ⟨jY (decide_eq_false (jCO HX.out HY.out HXY.out)).symm,o4⟩
   ·clear dW eN
    go_wp2
    go_ret
    exact ⟨jY (decide_eq_true (jx3 (k:=k) (by omega) (by have:=HL.out;omega) HQ.out)).symm,a9⟩
 ·have aR:((l.length:Int) !=(m.length:Int))=true:=bne_iff_ne.2 (by omega)
  clear dW eN
  go_enter Tryz.func185,Tryz.ntmps185
  go_wp2
  go_ret
  exact ⟨jY (decide_eq_false (λe=>aD (by rw [e]))).symm,Below.refl _ _⟩
theorem jqk (x y:Pl) (a b:Value) (S S':List Nat) (w:World) (own own':Bool) (ha:AggRep w own (ja x) a S) (hb:AggRep w own' (ja y) b S'):
 Calls Tryz.prog 146 #[a,b] w λe w'=>e=.returned (.bool (decide (x=y)))/\Below w.heap.size w w':=by
 obtain ⟨_,rfl,ha⟩:=ha;obtain ⟨_,rfl,hb⟩:=hb;obtain ⟨av0,rfl,ah0⟩:=jdH ha;obtain ⟨bv0,rfl,bh0⟩:=jdH hb;clear ha hb;obtain ⟨xprio,xmost,xwait,xtasks,xedges⟩:=x;obtain ⟨yprio,ymost,ywait,ytasks,yedges⟩:=y
 go_enter Tryz.func146,Tryz.ntmps146
 go_wp2_with (first
  |(go_at_call 185;refine (jtm xedges yedges _ _ _ _ _ _ _ (ah0.below (by repeat (first|exact Below.refl _ _|assumption|refine Below.alloc ?_ (by simp;try omega) _|refine kq ?_ (by assumption))) (aMV _)) (bh0.below (by repeat (first|exact Below.refl _ _|assumption|refine Below.alloc ?_ (by simp;try omega) _|refine kq ?_ (by assumption))) (aMV _))).mono ?_;rintro e w1 ⟨rfl,aW⟩;obtain ⟨cW,gK⟩:=jaq aW))
 all_goals go_ret
 all_goals refine ⟨?_,(by repeat (first|exact Below.refl _ _|assumption|refine Below.alloc ?_ (by simp;try omega) _|refine kq ?_ (by assumption)))⟩
 all_goals (simp_all<;>rfl)
theorem jql (x y:Dd) (a b:Value) (S S':List Nat) (w:World) (own own':Bool) (ha:AggRep w own (jj x) a S) (hb:AggRep w own' (jj y) b S'):
 Calls Tryz.prog 92 #[a,b] w λe w'=>e=.returned (.bool (decide (x=y)))/\Below w.heap.size w w':=by
 obtain ⟨_,rfl,ha⟩:=ha;obtain ⟨_,rfl,hb⟩:=hb;obtain ⟨av0,rfl,ah0⟩:=jrT ha;obtain ⟨bv0,rfl,bh0⟩:=jrT hb;clear ha hb;obtain ⟨xkind,xrun,xplan,xtask,xtri,xworker,xdraw⟩:=x;obtain ⟨ykind,yrun,yplan,ytask,ytri,yworker,ydraw⟩:=y
 go_enter Tryz.func92,Tryz.ntmps92
 go_wp2_with (first
  |(go_at_call 146;refine (jqk xplan yplan _ _ _ _ _ own own' ⟨_,rfl,jB4 (ah0.below (by repeat (first|exact Below.refl _ _|assumption|refine Below.alloc ?_ (by simp;try omega) _|refine kq ?_ (by assumption))) (aMV _))⟩ ⟨_,rfl,jB4 (bh0.below (by repeat (first|exact Below.refl _ _|assumption|refine Below.alloc ?_ (by simp;try omega) _|refine kq ?_ (by assumption))) (aMV _))⟩).mono ?_;rintro e w1 ⟨rfl,aW⟩;obtain ⟨cW,gK⟩:=jaq aW))
 all_goals go_ret
 all_goals refine ⟨?_,(by repeat (first|exact Below.refl _ _|assumption|refine Below.alloc ?_ (by simp;try omega) _|refine kq ?_ (by assumption)))⟩
 all_goals (simp_all<;>rfl)
open Go.RowKit Go.Sort Go.BigFrame
theorem jq1 {y:Yd} (h:jt y<=2000000):0<=kw y/\kw y<=4000000:=by
 have sG:qN kH y.aLX<=2000000:=by have:=jjw y.aLX;simp only [jt,jac] at h;omega
 have cK:(zR y).length<=2000000:=by unfold zR;rw [vr];simp only [jt,jby] at h;omega
 have aJ:=jmv y (zR y);unfold kw;omega
theorem jtl (y:Yd) (p:Pl) (a b:Value) (S S':List Nat) (w:World) (own own':Bool) (ha:AggRep w own (jb y) a S) (hb:AggRep w own' (ja p) b S') (cR:jt y<=2000000):
 Calls Tryz.prog 46 #[a,b] w λe1 w'=>e1=.returned (.bool (zJ y p))/\Below w.heap.size w w':=by
 obtain ⟨_,rfl,ha⟩:=ha;obtain ⟨_,rfl,hb⟩:=hb;obtain ⟨ev,rfl,fX⟩:=jdH hb;obtain ⟨sv,rv,S1,S2,rfl,ah0,ah1,rfl⟩:=zn ha;clear ha hb;obtain ⟨A,c,rfl,cW,dI,-⟩:=Rep.open_ (size:=8) (enc:=jc) (λ_=>rfl) (by decide) ah1
 unfold maxLen at dI;have g8:y.aLX.length<=9223372036854775807:=by omega
 have fP:=jq1 cR
 have dH:∀w',Below w.heap.size w w'->Calls Tryz.prog 21 #[.agg #[.int .i64 y.now,.int .i64 y.seq,sv,.slice A y.aLX.length c]] w' λe w''=>e=.returned (.int .i64 (kw y))/\Below w'.heap.size w' w'':=
  λw' hw=>jl1 y _ _ w' own ⟨_,rfl,ja2 (up ah0 hw) (up ah1 hw)⟩ cR
 have yD:zJ y p=(decide (y.aLX.length<8)&&(decide (0<=p.aLT/\p.aLT<=12)&&(decide (kw y+p.aLT<=40)&&decide (y.seq<=1000000000-1000-p.aLT)))):=rfl;have HB:=Lib.hid yD;clear yD;generalize kw y=s at*;obtain ⟨bo,tX⟩:∃bo,bo=zJ y p:=⟨_,rfl⟩;rw [<-tX];have HRF:Hid (bo=(decide (y.aLX.length<8)&&(decide (0<=p.aLT/\p.aLT<=12)&&(decide (s+p.aLT<=40)&&decide (y.seq<=1000000000-1000-p.aLT))))):=Lib.hid (tX.trans HB.out);clear tX HB;obtain ⟨w2,bS⟩:∃w2,w2=((w.alloc (.cells #[.int .i64 y.now,.int .i64 y.seq,sv,.slice A y.aLX.length c] tYd)).alloc (.cells #[.int .i64 p.aMC,.int .i64 p.aMG,.int .i64 p.aMF,.int .i64 p.aLT,ev] tPl)):=⟨_,rfl⟩;have dQ:Below w.heap.size w w2:=by subst bS;exact upB (upB (Below.refl w.heap.size w) _) _
 have q3:∀(d:Nat) (os:Array Obj),(grow (redrawn w2 d) os).cell? ⟨w.heap.size,3,none⟩=some (.slice A y.aLX.length c):=λd os=>cell_regrown (by subst bS;simp [go_sem]) d os
 have r3:∀(d:Nat) (os:Array Obj),(grow (redrawn w2 d) os).cell? ⟨w.heap.size+1,3,none⟩=some (.int .i64 p.aLT):=λd os=>cell_regrown (by subst bS;simp [go_sem]) d os
 have q0:∀(d:Nat) (os:Array Obj),(grow (redrawn w2 d) os).cell? ⟨w.heap.size,0,none⟩=some (.int .i64 y.now):=λd os=>cell_regrown (by subst bS;simp [go_sem]) d os
 have q1:∀(d:Nat) (os:Array Obj),(grow (redrawn w2 d) os).cell? ⟨w.heap.size,1,none⟩=some (.int .i64 y.seq):=λd os=>cell_regrown (by subst bS;simp [go_sem]) d os
 have q2:∀(d:Nat) (os:Array Obj),(grow (redrawn w2 d) os).cell? ⟨w.heap.size,2,none⟩=some sv:=λd os=>cell_regrown (by subst bS;simp [go_sem]) d os
 by_cases h1:y.aLX.length<8;rotate_left
 ·have g1:decide ((y.aLX.length:Int)<8)=false:=by simp;omega
  have HD:=Lib.hid (show bo=false by rw [HRF.out];simp only [Bool.and_eq_false_iff,aNK];omega)
  clear h1 HRF
  go_enter Tryz.func46,Tryz.ntmps46
  go_wp2
  rw [<-bS];clear bS;refine wp_region_quiet_below (by kernel_rfl) (by kernel_rfl) ?_
  repeat (go_big_quiet_step (first|exact Calls.regrown_of (cb (vO _ _ _ _) HW.out)|exact Calls.regrown_of (dH _ (kq dQ (below_regrown w2 _ _)))))
  refine wpQuiet_nil ?_;intro _ hw';obtain ⟨⟨dq,osq⟩,hw''⟩:=hw';subst hw''
  go_wp2
  go_ret
  exact ⟨jY (by rw [HD.out]),kq dQ (below_regrown w2 dq osq)⟩
 have g1:decide ((y.aLX.length:Int)<8)=true:=by simp;omega
 by_cases h2:0<=p.aLT/\p.aLT<=12;rotate_left
 ·have HD:=Lib.hid (show bo=false by rw [HRF.out];simp only [Bool.and_eq_false_iff,aNK];omega)
  have HW:Hid (inb p.aLT 0 12=false):=vP h2;clear h1 h2 HRF
  go_enter Tryz.func46,Tryz.ntmps46
  go_wp2
  rw [<-bS];clear bS;refine wp_region_quiet_below (by kernel_rfl) (by kernel_rfl) ?_
  repeat (go_big_quiet_step (first|exact Calls.regrown_of (cb (vO _ _ _ _) HW.out)|exact Calls.regrown_of (dH _ (kq dQ (below_regrown w2 _ _)))))
  refine wpQuiet_nil ?_;intro _ hw';obtain ⟨⟨dq,osq⟩,hw''⟩:=hw';subst hw''
  go_wp2
  go_ret
  exact ⟨jY (by rw [HD.out]),kq dQ (below_regrown w2 dq osq)⟩
 have HW:Hid (inb p.aLT 0 12=true):=jbe h2;obtain ⟨h2a,h2b⟩:=h2;by_cases h3:s+p.aLT<=40;rotate_left
 ·have g3:decide (s+p.aLT<=40)=false:=by simp;omega
  have HD:=Lib.hid (show bo=false by rw [HRF.out];simp only [Bool.and_eq_false_iff,aNK];omega)
  clear h1 h3 HRF
  go_enter Tryz.func46,Tryz.ntmps46
  go_wp2
  rw [<-bS];clear bS;refine wp_region_quiet_below (by kernel_rfl) (by kernel_rfl) ?_
  repeat (go_big_quiet_step (first|exact Calls.regrown_of (cb (vO _ _ _ _) HW.out)|exact Calls.regrown_of (dH _ (kq dQ (below_regrown w2 _ _)))))
  refine wpQuiet_nil ?_;intro _ hw';obtain ⟨⟨dq,osq⟩,hw''⟩:=hw';subst hw''
  go_wp2
  go_ret
  exact ⟨jY (by rw [HD.out]),kq dQ (below_regrown w2 dq osq)⟩
 have g3:decide (s+p.aLT<=40)=true:=by simp;omega
 by_cases h4:y.seq<=999999000-p.aLT
 ·have g4:decide (y.seq<=999999000-p.aLT)=true:=by simp;omega
  have HD:=Lib.hid (show bo=true by rw [HRF.out];simp only [aMY,aNC];omega)
  clear h1 h3 h4 HRF
  go_enter Tryz.func46,Tryz.ntmps46
  go_wp2
  rw [<-bS];clear bS;refine wp_region_quiet_below (by kernel_rfl) (by kernel_rfl) ?_
  repeat (go_big_quiet_step (first|exact Calls.regrown_of (cb (vO _ _ _ _) HW.out)|exact Calls.regrown_of (dH _ (kq dQ (below_regrown w2 _ _)))))
  refine wpQuiet_nil ?_;intro _ hw';obtain ⟨⟨dq,osq⟩,hw''⟩:=hw';subst hw''
  go_wp2
  go_ret
  exact ⟨jY (by rw [HD.out]),kq dQ (below_regrown w2 dq osq)⟩
 ·have g4:decide (y.seq<=999999000-p.aLT)=false:=by simp;omega
  have HD:=Lib.hid (show bo=false by rw [HRF.out];simp only [Bool.and_eq_false_iff,aNK];omega)
  clear h1 h3 h4 HRF
  go_enter Tryz.func46,Tryz.ntmps46
  go_wp2
  rw [<-bS];clear bS;refine wp_region_quiet_below (by kernel_rfl) (by kernel_rfl) ?_
  repeat (go_big_quiet_step (first|exact Calls.regrown_of (cb (vO _ _ _ _) HW.out)|exact Calls.regrown_of (dH _ (kq dQ (below_regrown w2 _ _)))))
  refine wpQuiet_nil ?_;intro _ hw';obtain ⟨⟨dq,osq⟩,hw''⟩:=hw';subst hw''
  go_wp2
  go_ret
  exact ⟨jY (by rw [HD.out]),kq dQ (below_regrown w2 dq osq)⟩
theorem jsA (y:Yd) (p:Pl) (a b:Value) (S S':List Nat) (w:World) (own own':Bool) (ha:AggRep w own (jb y) a S) (hb:AggRep w own' (ja p) b S') (cR:jt y<=2000000):
 Calls Tryz.prog 113 #[a,b] w λe1 w'=>e1=.returned (.bool (zJ y p))/\Below w.heap.size w w':=by
 obtain ⟨_,rfl,ha⟩:=ha;obtain ⟨_,rfl,hb⟩:=hb;obtain ⟨ev,rfl,fX⟩:=jdH hb;obtain ⟨sv,rv,S1,S2,rfl,ah0,ah1,rfl⟩:=zn ha;clear ha hb;obtain ⟨A,c,rfl,cW,dI,-⟩:=Rep.open_ (size:=8) (enc:=jc) (λ_=>rfl) (by decide) ah1
 unfold maxLen at dI;have g8:y.aLX.length<=9223372036854775807:=by omega
 have fP:=jq1 cR
 have dH:∀w',Below w.heap.size w w'->Calls Tryz.prog 132 #[.agg #[.int .i64 y.now,.int .i64 y.seq,sv,.slice A y.aLX.length c]] w' λe w''=>e=.returned (.int .i64 (kw y))/\Below w'.heap.size w' w'':=
  λw' hw=>jlD y _ _ w' own ⟨_,rfl,ja2 (up ah0 hw) (up ah1 hw)⟩ cR
 have yD:zJ y p=(decide (y.aLX.length<8)&&(decide (0<=p.aLT/\p.aLT<=12)&&(decide (kw y+p.aLT<=40)&&decide (y.seq<=1000000000-1000-p.aLT)))):=rfl;have HB:=Lib.hid yD;clear yD;generalize kw y=s at*;obtain ⟨bo,tX⟩:∃bo,bo=zJ y p:=⟨_,rfl⟩;rw [<-tX];have HRF:Hid (bo=(decide (y.aLX.length<8)&&(decide (0<=p.aLT/\p.aLT<=12)&&(decide (s+p.aLT<=40)&&decide (y.seq<=1000000000-1000-p.aLT))))):=Lib.hid (tX.trans HB.out);clear tX HB;obtain ⟨w2,bS⟩:∃w2,w2=((w.alloc (.cells #[.int .i64 y.now,.int .i64 y.seq,sv,.slice A y.aLX.length c] tYd)).alloc (.cells #[.int .i64 p.aMC,.int .i64 p.aMG,.int .i64 p.aMF,.int .i64 p.aLT,ev] tPl)):=⟨_,rfl⟩;have dQ:Below w.heap.size w w2:=by subst bS;exact upB (upB (Below.refl w.heap.size w) _) _
 have q3:∀(d:Nat) (os:Array Obj),(grow (redrawn w2 d) os).cell? ⟨w.heap.size,3,none⟩=some (.slice A y.aLX.length c):=λd os=>cell_regrown (by subst bS;simp [go_sem]) d os
 have r3:∀(d:Nat) (os:Array Obj),(grow (redrawn w2 d) os).cell? ⟨w.heap.size+1,3,none⟩=some (.int .i64 p.aLT):=λd os=>cell_regrown (by subst bS;simp [go_sem]) d os
 have q0:∀(d:Nat) (os:Array Obj),(grow (redrawn w2 d) os).cell? ⟨w.heap.size,0,none⟩=some (.int .i64 y.now):=λd os=>cell_regrown (by subst bS;simp [go_sem]) d os
 have q1:∀(d:Nat) (os:Array Obj),(grow (redrawn w2 d) os).cell? ⟨w.heap.size,1,none⟩=some (.int .i64 y.seq):=λd os=>cell_regrown (by subst bS;simp [go_sem]) d os
 have q2:∀(d:Nat) (os:Array Obj),(grow (redrawn w2 d) os).cell? ⟨w.heap.size,2,none⟩=some sv:=λd os=>cell_regrown (by subst bS;simp [go_sem]) d os
 by_cases h1:y.aLX.length<8;rotate_left
 ·have g1:decide ((y.aLX.length:Int)<8)=false:=by simp;omega
  have HD:=Lib.hid (show bo=false by rw [HRF.out];simp only [Bool.and_eq_false_iff,aNK];omega)
  clear h1 HRF
  go_enter Tryz.func113,Tryz.ntmps113
  go_wp2
  rw [<-bS];clear bS;refine wp_region_quiet_below (by kernel_rfl) (by kernel_rfl) ?_
  repeat (go_big_quiet_step (first|exact Calls.regrown_of (cb (zU _ _ _ _) HW.out)|exact Calls.regrown_of (dH _ (kq dQ (below_regrown w2 _ _)))))
  refine wpQuiet_nil ?_;intro _ hw';obtain ⟨⟨dq,osq⟩,hw''⟩:=hw';subst hw''
  go_wp2
  go_ret
  exact ⟨jY (by rw [HD.out]),kq dQ (below_regrown w2 dq osq)⟩
 have g1:decide ((y.aLX.length:Int)<8)=true:=by simp;omega
 by_cases h2:0<=p.aLT/\p.aLT<=12;rotate_left
 ·have HD:=Lib.hid (show bo=false by rw [HRF.out];simp only [Bool.and_eq_false_iff,aNK];omega)
  have HW:Hid (inb p.aLT 0 12=false):=vP h2;clear h1 h2 HRF
  go_enter Tryz.func113,Tryz.ntmps113
  go_wp2
  rw [<-bS];clear bS;refine wp_region_quiet_below (by kernel_rfl) (by kernel_rfl) ?_
  repeat (go_big_quiet_step (first|exact Calls.regrown_of (cb (zU _ _ _ _) HW.out)|exact Calls.regrown_of (dH _ (kq dQ (below_regrown w2 _ _)))))
  refine wpQuiet_nil ?_;intro _ hw';obtain ⟨⟨dq,osq⟩,hw''⟩:=hw';subst hw''
  go_wp2
  go_ret
  exact ⟨jY (by rw [HD.out]),kq dQ (below_regrown w2 dq osq)⟩
 have HW:Hid (inb p.aLT 0 12=true):=jbe h2;obtain ⟨h2a,h2b⟩:=h2;by_cases h3:s+p.aLT<=40;rotate_left
 ·have g3:decide (s+p.aLT<=40)=false:=by simp;omega
  have HD:=Lib.hid (show bo=false by rw [HRF.out];simp only [Bool.and_eq_false_iff,aNK];omega)
  clear h1 h3 HRF
  go_enter Tryz.func113,Tryz.ntmps113
  go_wp2
  rw [<-bS];clear bS;refine wp_region_quiet_below (by kernel_rfl) (by kernel_rfl) ?_
  repeat (go_big_quiet_step (first|exact Calls.regrown_of (cb (zU _ _ _ _) HW.out)|exact Calls.regrown_of (dH _ (kq dQ (below_regrown w2 _ _)))))
  refine wpQuiet_nil ?_;intro _ hw';obtain ⟨⟨dq,osq⟩,hw''⟩:=hw';subst hw''
  go_wp2
  go_ret
  exact ⟨jY (by rw [HD.out]),kq dQ (below_regrown w2 dq osq)⟩
 have g3:decide (s+p.aLT<=40)=true:=by simp;omega
 by_cases h4:y.seq<=999999000-p.aLT
 ·have g4:decide (y.seq<=999999000-p.aLT)=true:=by simp;omega
  have HD:=Lib.hid (show bo=true by rw [HRF.out];simp only [aMY,aNC];omega)
  clear h1 h3 h4 HRF
  go_enter Tryz.func113,Tryz.ntmps113
  go_wp2
  rw [<-bS];clear bS;refine wp_region_quiet_below (by kernel_rfl) (by kernel_rfl) ?_
  repeat (go_big_quiet_step (first|exact Calls.regrown_of (cb (zU _ _ _ _) HW.out)|exact Calls.regrown_of (dH _ (kq dQ (below_regrown w2 _ _)))))
  refine wpQuiet_nil ?_;intro _ hw';obtain ⟨⟨dq,osq⟩,hw''⟩:=hw';subst hw''
  go_wp2
  go_ret
  exact ⟨jY (by rw [HD.out]),kq dQ (below_regrown w2 dq osq)⟩
 ·have g4:decide (y.seq<=999999000-p.aLT)=false:=by simp;omega
  have HD:=Lib.hid (show bo=false by rw [HRF.out];simp only [Bool.and_eq_false_iff,aNK];omega)
  clear h1 h3 h4 HRF
  go_enter Tryz.func113,Tryz.ntmps113
  go_wp2
  rw [<-bS];clear bS;refine wp_region_quiet_below (by kernel_rfl) (by kernel_rfl) ?_
  repeat (go_big_quiet_step (first|exact Calls.regrown_of (cb (zU _ _ _ _) HW.out)|exact Calls.regrown_of (dH _ (kq dQ (below_regrown w2 _ _)))))
  refine wpQuiet_nil ?_;intro _ hw';obtain ⟨⟨dq,osq⟩,hw''⟩:=hw';subst hw''
  go_wp2
  go_ret
  exact ⟨jY (by rw [HD.out]),kq dQ (below_regrown w2 dq osq)⟩
open Go.RowKit Go.Sort Go.BigFrame
theorem jxN (y:Yd) (id aMA tri:Int) (a:Value) (S:List Nat) (w:World) (own:Bool) (ha:AggRep w own (jb y) a S):
 Calls Tryz.prog 53 #[a,.int .i64 id,.int .i64 aMA,.int .i64 tri] w λe1 w'=>e1=.returned (.bool (qw y id aMA tri))/\Below w.heap.size w w':=by
 obtain ⟨_,rfl,ha⟩:=ha;obtain ⟨sv,rv,S1,S2,rfl,ah0,ah1,rfl⟩:=zn ha;clear ha;rcases zd y id aMA with ⟨hr,ht⟩|⟨k,r,hr,hx,⟨d7,ht⟩|⟨j,t,hj,lW,ht⟩⟩
 ·have HR:=Lib.hid hr
  have HF:Hid (qw y id aMA tri=false):=by unfold qw;rw [ht];rfl
  clear hr ht
  go_enter Tryz.func53,Tryz.ntmps53
  go_wp2_with (go_at_call 25;refine (ci (jbg y id _ _ _ own ⟨_,rfl,ja2 (upA ah0 _) (upA ah1 _)⟩) HR.out).mono ?_;rintro e1 w1 ⟨rfl,aW⟩;obtain ⟨cW,gK⟩:=jaq aW)
  go_ret
  exact ⟨jY (by rw [HF.out]),kq ((Below.refl _ _).alloc (by simp) _) aW⟩
 all_goals
  have HR:=Lib.hid hr;obtain ⟨A,c,rfl,cW,dI,dW⟩:=Rep.open_ (size:=8) (enc:=jc) (λ_=>rfl) (by decide) ah1
  have hk:k<y.aLX.length:=(aMI.1 hx).1;unfold maxLen at dI;have g8:y.aLX.length<=9223372036854775807:=by omega
  obtain ⟨b1,o1,vk1,T1,rfl,-,dE,-,-,tZ,bK⟩:=dW k r hx;clear dW;obtain ⟨v0,v1,U0,U1,rfl,-,gA,-⟩:=jay dE;have p7:=bK 7 _ rfl;clear bK dE;obtain ⟨B,d,rfl,o0,gC,eN⟩:=Rep.open_ (size:=4) (enc:=jk) (λ_=>rfl) (by decide) gA
  unfold maxLen at gC;have oR:r.aLT.length<=9223372036854775807:=by omega
  have cD:decide ((k:Int)>=0)=true:=by simp
  have hk1:decide ((k:Int)<0)=false:=by simp
  clear hr hx
 ·clear eN
  have HF:Hid (qw y id aMA tri=false):=by unfold qw;rw [ht];rfl
  have HW:Hid (inb aMA 0 ((r.aLT.length:Int)-1)=false):=vP d7;clear ht d7
  go_enter Tryz.func53,Tryz.ntmps53
  go_wp2_with fail
  refine (ci (jbg y id _ _ _ own ⟨_,rfl,ja2 (upA ah0 _) (upA ah1 _)⟩) HR.out).mono ?_;rintro e1 w1 ⟨rfl,aW⟩;obtain ⟨cW,gK⟩:=jaq aW;have cU:Below w.heap.size w w1:=kq ((Below.refl _ _).alloc (by simp) _) aW
  have p7':=js cU p7;have q3:w1.cell? ⟨w.heap.size,3,none⟩=some (.slice (some ⟨b1,o1,none⟩) y.aLX.length c):=(cW _ _ (by simp)).trans (by simp [go_sem])
  go_wp2_with (go_at_call 62;refine (cb (vO _ _ _ _) HW.out).mono ?_;rintro e2 w2 ⟨rfl,bM⟩;obtain ⟨dI,nH⟩:=jaq bM)
  go_ret
  exact ⟨jY (by rw [HF.out]),kq cU bM⟩
 ·obtain ⟨b2,o2,vk2,T2,rfl,-,cL,-,-,tY,bW⟩:=eN j t lW
  clear eN;obtain ⟨rfl,rfl⟩:=ji8 cL;have p0:w.cell? ⟨b2,o2+j*4,none⟩=some (.int .i64 t.aLV):=bW 0 _ rfl;have p1:=bW 1 _ rfl;have p2:=bW 2 _ rfl;have p3:=bW 3 _ rfl;have bJ:j<r.aLT.length:=(aMI.1 lW).1;clear bW cL lW;subst hj;have HW:Hid (inb (j:Int) 0 ((r.aLT.length:Int)-1)=true):=jbe (by omega)
  by_cases aJ:t.aLV=3
  ·have hs:(t.aLV==3)=true:=by simpa using aJ
   by_cases cO:t.tri=tri
   all_goals
    first|(have fI:(t.tri==tri)=true:=by simpa using cO)|(have fI:(t.tri==tri)=false:=by simpa using cO)
    have HF:=Lib.hid (show qw y id j tri=(t.tri==tri) by unfold qw;rw [ht];simp [hs])
    clear ht aJ cO
    go_enter Tryz.func53,Tryz.ntmps53
    go_wp2_with fail
    refine (ci (jbg y id _ _ _ own ⟨_,rfl,ja2 (upA ah0 _) (upA ah1 _)⟩) HR.out).mono ?_;rintro e1 w1 ⟨rfl,aW⟩;obtain ⟨cW,gK⟩:=jaq aW;have cU:Below w.heap.size w w1:=kq ((Below.refl _ _).alloc (by simp) _) aW
    have p7':=js cU p7;have q3:w1.cell? ⟨w.heap.size,3,none⟩=some (.slice (some ⟨b1,o1,none⟩) y.aLX.length c):=(cW _ _ (by simp)).trans (by simp [go_sem])
    go_wp2_with fail
    refine (cb (vO _ _ _ _) HW.out).mono ?_;rintro e2 w2 ⟨rfl,bM⟩;obtain ⟨dI,nH⟩:=jaq bM
    replace p7':=js bM p7'
    replace q3:=js bM q3
    have p0':=js bM (js cU p0);have p1':=js bM (js cU p1);have p2':=js bM (js cU p2);have p3':=js bM (js cU p3)
    go_wp2
    go_ret
    exact ⟨jY (by rw [HF.out,fI]),by repeat (first|(with_reducible exact kq cU bM)|((with_reducible refine Below.alloc ?_ ?_ _);rotate_left;focus (exact (kq cU bM).size)))⟩
  ·have hs:(t.aLV==3)=false:=by simpa using aJ
   have HF:=Lib.hid (show qw y id j tri=false by unfold qw;rw [ht];simp [hs])
   clear ht aJ
   go_enter Tryz.func53,Tryz.ntmps53
   go_wp2_with fail
   refine (ci (jbg y id _ _ _ own ⟨_,rfl,ja2 (upA ah0 _) (upA ah1 _)⟩) HR.out).mono ?_;rintro e1 w1 ⟨rfl,aW⟩;obtain ⟨cW,gK⟩:=jaq aW;have cU:Below w.heap.size w w1:=kq ((Below.refl _ _).alloc (by simp) _) aW
   have p7':=js cU p7;have q3:w1.cell? ⟨w.heap.size,3,none⟩=some (.slice (some ⟨b1,o1,none⟩) y.aLX.length c):=(cW _ _ (by simp)).trans (by simp [go_sem])
   go_wp2_with fail
   refine (cb (vO _ _ _ _) HW.out).mono ?_;rintro e2 w2 ⟨rfl,bM⟩;obtain ⟨dI,nH⟩:=jaq bM
   replace p7':=js bM p7'
   replace q3:=js bM q3
   have p0':=js bM (js cU p0);have p1':=js bM (js cU p1);have p2':=js bM (js cU p2);have p3':=js bM (js cU p3)
   go_wp2
   go_ret
   exact ⟨jY (by rw [HF.out]),by repeat (first|(with_reducible exact kq cU bM)|((with_reducible refine Below.alloc ?_ ?_ _);rotate_left;focus (exact (kq cU bM).size)))⟩
theorem jxa (y:Yd) (id aMA tri:Int) (a:Value) (S:List Nat) (w:World) (own:Bool) (ha:AggRep w own (jb y) a S):
 Calls Tryz.prog 200 #[a,.int .i64 id,.int .i64 aMA,.int .i64 tri] w λe1 w'=>e1=.returned (.bool (qw y id aMA tri))/\Below w.heap.size w w':=by
 obtain ⟨_,rfl,ha⟩:=ha;obtain ⟨sv,rv,S1,S2,rfl,ah0,ah1,rfl⟩:=zn ha;clear ha;rcases zd y id aMA with ⟨hr,ht⟩|⟨k,r,hr,hx,⟨d7,ht⟩|⟨j,t,hj,lW,ht⟩⟩
 ·have HR:=Lib.hid hr
  have HF:Hid (qw y id aMA tri=false):=by unfold qw;rw [ht];rfl
  clear hr ht
  go_enter Tryz.func200,Tryz.ntmps200
  go_wp2_with (go_at_call 26;refine (ci (jbb y id _ _ _ own ⟨_,rfl,ja2 (upA ah0 _) (upA ah1 _)⟩) HR.out).mono ?_;rintro e1 w1 ⟨rfl,aW⟩;obtain ⟨cW,gK⟩:=jaq aW)
  go_ret
  exact ⟨jY (by rw [HF.out]),kq ((Below.refl _ _).alloc (by simp) _) aW⟩
 all_goals
  have HR:=Lib.hid hr;obtain ⟨A,c,rfl,cW,dI,dW⟩:=Rep.open_ (size:=8) (enc:=jc) (λ_=>rfl) (by decide) ah1
  have hk:k<y.aLX.length:=(aMI.1 hx).1;unfold maxLen at dI;have g8:y.aLX.length<=9223372036854775807:=by omega
  obtain ⟨b1,o1,vk1,T1,rfl,-,dE,-,-,tZ,bK⟩:=dW k r hx;clear dW;obtain ⟨v0,v1,U0,U1,rfl,-,gA,-⟩:=jay dE;have p7:=bK 7 _ rfl;clear bK dE;obtain ⟨B,d,rfl,o0,gC,eN⟩:=Rep.open_ (size:=4) (enc:=jk) (λ_=>rfl) (by decide) gA
  unfold maxLen at gC;have oR:r.aLT.length<=9223372036854775807:=by omega
  have cD:decide ((k:Int)>=0)=true:=by simp
  have hk1:decide ((k:Int)<0)=false:=by simp
  clear hr hx
 ·clear eN
  have HF:Hid (qw y id aMA tri=false):=by unfold qw;rw [ht];rfl
  have HW:Hid (inb aMA 0 ((r.aLT.length:Int)-1)=false):=vP d7;clear ht d7
  go_enter Tryz.func200,Tryz.ntmps200
  go_wp2_with fail
  refine (ci (jbb y id _ _ _ own ⟨_,rfl,ja2 (upA ah0 _) (upA ah1 _)⟩) HR.out).mono ?_;rintro e1 w1 ⟨rfl,aW⟩;obtain ⟨cW,gK⟩:=jaq aW;have cU:Below w.heap.size w w1:=kq ((Below.refl _ _).alloc (by simp) _) aW
  have p7':=js cU p7;have q3:w1.cell? ⟨w.heap.size,3,none⟩=some (.slice (some ⟨b1,o1,none⟩) y.aLX.length c):=(cW _ _ (by simp)).trans (by simp [go_sem])
  go_wp2_with (go_at_call 68;refine (cb (zU _ _ _ _) HW.out).mono ?_;rintro e2 w2 ⟨rfl,bM⟩;obtain ⟨dI,nH⟩:=jaq bM)
  go_ret
  exact ⟨jY (by rw [HF.out]),kq cU bM⟩
 ·obtain ⟨b2,o2,vk2,T2,rfl,-,cL,-,-,tY,bW⟩:=eN j t lW
  clear eN;obtain ⟨rfl,rfl⟩:=ji8 cL;have p0:w.cell? ⟨b2,o2+j*4,none⟩=some (.int .i64 t.aLV):=bW 0 _ rfl;have p1:=bW 1 _ rfl;have p2:=bW 2 _ rfl;have p3:=bW 3 _ rfl;have bJ:j<r.aLT.length:=(aMI.1 lW).1;clear bW cL lW;subst hj;have HW:Hid (inb (j:Int) 0 ((r.aLT.length:Int)-1)=true):=jbe (by omega)
  by_cases aJ:t.aLV=3
  ·have hs:(t.aLV==3)=true:=by simpa using aJ
   by_cases cO:t.tri=tri
   all_goals
    first|(have fI:(t.tri==tri)=true:=by simpa using cO)|(have fI:(t.tri==tri)=false:=by simpa using cO)
    have HF:=Lib.hid (show qw y id j tri=(t.tri==tri) by unfold qw;rw [ht];simp [hs])
    clear ht aJ cO
    go_enter Tryz.func200,Tryz.ntmps200
    go_wp2_with fail
    refine (ci (jbb y id _ _ _ own ⟨_,rfl,ja2 (upA ah0 _) (upA ah1 _)⟩) HR.out).mono ?_;rintro e1 w1 ⟨rfl,aW⟩;obtain ⟨cW,gK⟩:=jaq aW;have cU:Below w.heap.size w w1:=kq ((Below.refl _ _).alloc (by simp) _) aW
    have p7':=js cU p7;have q3:w1.cell? ⟨w.heap.size,3,none⟩=some (.slice (some ⟨b1,o1,none⟩) y.aLX.length c):=(cW _ _ (by simp)).trans (by simp [go_sem])
    go_wp2_with fail
    refine (cb (zU _ _ _ _) HW.out).mono ?_;rintro e2 w2 ⟨rfl,bM⟩;obtain ⟨dI,nH⟩:=jaq bM
    replace p7':=js bM p7'
    replace q3:=js bM q3
    have p0':=js bM (js cU p0);have p1':=js bM (js cU p1);have p2':=js bM (js cU p2);have p3':=js bM (js cU p3)
    go_wp2
    go_ret
    exact ⟨jY (by rw [HF.out,fI]),by repeat (first|(with_reducible exact kq cU bM)|((with_reducible refine Below.alloc ?_ ?_ _);rotate_left;focus (exact (kq cU bM).size)))⟩
  ·have hs:(t.aLV==3)=false:=by simpa using aJ
   have HF:=Lib.hid (show qw y id j tri=false by unfold qw;rw [ht];simp [hs])
   clear ht aJ
   go_enter Tryz.func200,Tryz.ntmps200
   go_wp2_with fail
   refine (ci (jbb y id _ _ _ own ⟨_,rfl,ja2 (upA ah0 _) (upA ah1 _)⟩) HR.out).mono ?_;rintro e1 w1 ⟨rfl,aW⟩;obtain ⟨cW,gK⟩:=jaq aW;have cU:Below w.heap.size w w1:=kq ((Below.refl _ _).alloc (by simp) _) aW
   have p7':=js cU p7;have q3:w1.cell? ⟨w.heap.size,3,none⟩=some (.slice (some ⟨b1,o1,none⟩) y.aLX.length c):=(cW _ _ (by simp)).trans (by simp [go_sem])
   go_wp2_with fail
   refine (cb (zU _ _ _ _) HW.out).mono ?_;rintro e2 w2 ⟨rfl,bM⟩;obtain ⟨dI,nH⟩:=jaq bM
   replace p7':=js bM p7'
   replace q3:=js bM q3
   have p0':=js bM (js cU p0);have p1':=js bM (js cU p1);have p2':=js bM (js cU p2);have p3':=js bM (js cU p3)
   go_wp2
   go_ret
   exact ⟨jY (by rw [HF.out]),by repeat (first|(with_reducible exact kq cU bM)|((with_reducible refine Below.alloc ?_ ?_ _);rotate_left;focus (exact (kq cU bM).size)))⟩
abbrev tIs:TypeId:=29
def qW (l:List (List Int)):D:=.sl 1 tIs (l.flatMap λes=>[je es])
section
variable {P:Program} {β:Nat} {s:St}
theorem jta (l:List (List Int)):(qW l).len=l.length:=zZ (enc:=λes=>[je es]) (λ_=>rfl) (by decide) _ _
theorem jqA {l:List (List Int)} {k:Nat} {x:List Int} (h:l[k]?=some x):(qW l).elem k=[je x]:=vQ (enc:=λes=>[je es]) (λ_=>rfl) h
theorem jul (l:List (List Int)):(qW l).isSl=true:=(rfl)
theorem jt9 (l:List (List Int)):(qW l).size=1:=(rfl)
theorem js1 (l:List (List Int)) (g:Nat) (η:jm):(qW l).obj g η=[(g,.loose (qW l) η)]:=(rfl)
theorem jsT (l:List (List Int)) (g c:Nat) (p:List Nat) (η:jm):(qW l).toOwn g c p η=.h g c p (η p):=(rfl)
theorem jpc (l:List (List Int)):(qW l).cells=l.flatMap (λes=>[je es]):=(rfl)
theorem jsr (l:List (List Int)) (e:Nat) (k:List D->Prop):slK (qW l) e 1 k=(tIs=e/\k (l.flatMap (λes=>[je es]))):=by rw [show qW l=.sl 1 tIs (l.flatMap (λes=>[je es])) from rfl,jwI];simp
theorem jtx (l:List (List Int)):(l.flatMap (λes=>[je es])).length/1=l.length:=by rw [jG (enc:=λes=>[je es]) (size:=1) (λ_=>rfl)];exact aNN _ (by decide)
theorem jww {l:List (List Int)} {k:Nat} {x:List Int} (h:l[k]?=some x):((l.flatMap (λes=>[je es])).drop (k*1)).take 1=[je x]:=jqA h
theorem jvD {l:List (List Int)} {k:Nat} (h:k<l.length):k*1+1<=(l.flatMap (λes=>[je es])).length:=by rw [jG (enc:=λes=>[je es]) (size:=1) (λ_=>rfl)];omega
attribute [go_sem] jta jul jt9 js1 jsT jpc jsr jtx
end
def jaz (now id:Int) (t:Tk) (k:Nat):Option (List Int):=if (t.aLV==3&&decide (t.til<=now\/t.til-1=now))=true then some [id,k,t.tri] else none
def jag (now:Int) (r:Rn):Nat->List Tk->List (List Int)
 |_,[]=>[]
 |k,t::ts=>(jaz now r.id t k).toList++jag now r (k+1) ts
def kC (y:Yd):List (List Int):=y.aLX.flatMap λr=>jag y.now r 0 r.aLT
open Go.RowKit Go.Sort Go.BigFrame
open Go.RowKit Go.Sort Go.BigFrame
def c4 (l:List En):Nat:=4*l.length
open Go.RowKit Go.Sort Go.BigFrame
open Go.RowKit Go.Sort Go.BigFrame
theorem jlX (now:Int) (r:Rn) (x:Tk):∀(ts:List Tk) (k:Nat),jag now r k (ts++[x])=jag now r k ts++(jaz now r.id x (k+ts.length)).toList
 |[],k=>by simp [jag]
 |t::ts,k=>by
  rw [aOS,jag,jag,jlX now r x ts (k+1),aNA]
  congr 3
  simp only [aNG];congr 1;omega
theorem jlW {now:Int} {r:Rn} {ts:List Tk} {k:Nat} {x:Tk} (h:ts[k]?=some x):jag now r 0 (ts.take (k+1))=jag now r 0 (ts.take k)++(jaz now r.id x k).toList:=by
 have hk:k<ts.length:=(aMI.1 h).1;rw [aMT,h];have:=jlX now r x (ts.take k) 0;rw [aMP,aNZ (by omega),aOK] at this
 exact this
theorem jfT (now:Int) (r:Rn):∀(ts:List Tk) (k:Nat),(jag now r k ts).length<=ts.length
 |[],k=>by simp [jag]
 |t::ts,k=>by
  have:=jfT now r ts (k+1)
  have h2:(jaz now r.id t k).toList.length<=1:=by
   unfold jaz;split<;>simp
  rw [jag,aMR,aNG];omega
def jj3 (now:Int) (r:Rn):List (List Int):=jag now r 0 r.aLT
theorem jrx (y:Yd):kC y=y.aLX.flatMap (jj3 y.now):=rfl
theorem joF {now:Int} {l:List Rn} {k:Nat} {r:Rn} (h:l[k]?=some r):(l.take (k+1)).flatMap (jj3 now)=(l.take k).flatMap (jj3 now)++jj3 now r:=by
 rw [aMT,h];simp
theorem jvp (now:Int) (l:List Rn):(l.flatMap (jj3 now)).length<=qN kQ l:=by
 induction l with
 |nil=>simp
 |cons r l ih=>
  have:=jfT now r r.aLT 0;simp only [aNL,aMR,jj3,qN,aNQ,aOW,kQ] at ih⊢;omega
open Go.RowKit Go.Sort Go.BigFrame
def newYd:Yd:=⟨0,1,List.replicate 4 [],[]⟩
theorem jtk (w:World):Calls Tryz.prog 28 #[] w (jwG w (jb newYd)):=by
 go_enter Tryz.func28,Tryz.ntmps28
 go_wp2_with (at_make;refine jju (enc:=(λes=>[ji es])) rfl _ _ rfl jBj ([]:List En) zEnS .i64 .i64 4 4 4 rfl rfl rfl rfl (by omega) (by unfold maxLen;omega) ?_;intro w1 A1 dE aW;obtain ⟨cW,gK⟩:=jaq aW;(have wF:=aW.size);simp at wF;(have bK:=(by omega:w.heap.size<w1.heap.size)))
 refine bodyPost_ret (v:=.agg #[.int .i64 0,.int .i64 1,.slice A1 4 4,.slice none 0 0]) (by simp [results,Tryz.results28,go_sem,cW]) rfl ?_
 refine ⟨_,[w.heap.size+1],rfl,⟨_,rfl,ja2 (y:=newYd) (S1:=[w.heap.size+1]) (S2:=[]) ?_ ?_⟩,?_,?_⟩
 ·have aBF:Rep w1 true (ku newYd.aLU) (.slice A1 4 4) [w.heap.size+1]:=by have h:=dE;simp at h;exact h
  repeat (first|(with_reducible exact aBF)|((with_reducible refine jna ?_ ?_);rotate_left;focus (intro b hb;simp at hb⊢;omega)))
 ·exact Rep.nil_ _ _ _
 ·exact ⟨by simp,by simp⟩
 ·repeat (first|(with_reducible exact Below.refl _ _)|(with_reducible assumption)|((with_reducible refine Below.alloc ?_ ?_ _);rotate_left;focus (simp;try omega))|((with_reducible refine Below.setCell ?_ ?_ _);rotate_left;focus (simp;try omega))|(with_reducible refine kq ?_ (by assumption)))
theorem jlO {S:List Nat} {w w1 w':World} (ho:Only S w1 w') (hb:Below w.heap.size w w1) {b:Nat} (h:b<w.heap.size) (hS:b∉S):(∀o,w'.cell? ⟨b,o,none⟩=w.cell? ⟨b,o,none⟩)/\(∀o,w'.frozen? ⟨b,o,none⟩=w.frozen? ⟨b,o,none⟩):=by
 have e:w'.heap[b]?=w.heap[b]?:=(ho.block b (Nat.lt_of_lt_of_le h hb.size) hS).trans (hb.block b h);exact ⟨λo=>World.cell?_of_block (w:=w) (a:=⟨b,o,none⟩) e,λo=>World.frozen?_of_block (w:=w) (a:=⟨b,o,none⟩) e⟩
theorem juR (w:World):Rep (w.alloc (.cells #[] tEn)) true (ji []) (.slice (some ⟨w.heap.size,0,none⟩) 0 0) [w.heap.size]:=
 Rep.of_own (size:=4) (enc:=jh) (xs:=[]) (World.ownsRow_made w #[] 0 (aNE _) (by unfold maxLen;omega) rfl) RepL.nil_
theorem jxw (w:World) {o:Obj} {x:Value} {t:TypeId}:∀ad,(some ⟨w.heap.size+1,0,none⟩:Option Addr)=some ad->∀j u,[x][j]?=some u->((w.alloc o).alloc (.cells #[x] t)).cell? (ad.add j)=some u:=by
 intro ad h j u hu;cases h
 obtain rfl:j=0:=by
  have:=(aMI.1 hu).1;simpa using this
 simp at hu;subst hu;simp [go_sem,Addr.add]
set_option maxRecDepth 4000 in
theorem jlC (w:World):Calls Tryz.prog 33 #[] w (jwG w (jb newYd)):=by
 go_enter Tryz.func33,Tryz.ntmps33
 go_wp2
 go_loopw [2] (λi wr=>∃(k:Nat) (sv:Value) (S:List Nat),k<=4/\i=.int .i64 k/\Rep wr true (ku (List.replicate k [])) sv S/\Fresh (w.heap.size+2) S/\Below w.heap.size w wr/\w.heap.size+2<=wr.heap.size/\
  wr.cell? ⟨w.heap.size+1,0,none⟩=some (.int .i64 0)/\wr.cell? ⟨w.heap.size+1,1,none⟩=some (.int .i64 1)/\wr.cell? ⟨w.heap.size+1,2,none⟩=some sv/\wr.cell? ⟨w.heap.size+1,3,none⟩=some (.slice none 0 0)/\wr.frozen? ⟨w.heap.size+1,2,none⟩=false/\
  (∃u,wr.cell? ⟨w.heap.size,0,none⟩=some u)/\(∃u,wr.cell? ⟨w.heap.size,1,none⟩=some u)/\(∃u,wr.cell? ⟨w.heap.size,2,none⟩=some u)/\(∃u,wr.cell? ⟨w.heap.size,3,none⟩=some u)/\
  wr.frozen? ⟨w.heap.size,0,none⟩=false/\wr.frozen? ⟨w.heap.size,1,none⟩=false/\wr.frozen? ⟨w.heap.size,2,none⟩=false/\wr.frozen? ⟨w.heap.size,3,none⟩=false) (λi _=>4-(intOf i).toNat)
 case atStart=>
  refine ⟨0,_,[],by omega,rfl,Rep.nil_ _ _ _,Fresh.nil _,?_,by simp,?_⟩
  ·repeat (first|(with_reducible exact Below.refl _ _)|(with_reducible assumption)|((with_reducible refine Below.alloc ?_ ?_ _);rotate_left;focus (simp;try omega))|((with_reducible refine Below.setCell ?_ ?_ _);rotate_left;focus (simp;try omega)))
  ·simp [go_sem]
 case round=>
  obtain ⟨k,sv,S,hk,rfl,bG,hF,a9,cR,c0,c1,c2,c3,f2,⟨u0,r0⟩,⟨u1,r1⟩,⟨u2,r2⟩,⟨u3,r3⟩,g0,g1,g2,g3⟩:=hrel;by_cases aB:k<4
  ·have aCX:w.heap.size+1∉S:=λh=>by have:=hF.2 _ h;omega
   have pX:w.heap.size∉S:=λh=>by have:=hF.2 _ h;omega
   obtain ⟨A0,n0,m0,rfl⟩:=Rep.form bG
   go_wp2_with ((with_reducible refine jps (.tmp 9) (.tmp 11) ?_);refine jbt (enc:=(λes=>[ji es])) (xs:=List.replicate k ([]:List En)) (ys:=[[]]) rfl _ _ rfl jBj (λ_=>rfl) rfl (upA (upA bG _) _) (some ⟨wr.heap.size+1,0,none⟩) 1 1 [.slice (some ⟨wr.heap.size,0,none⟩) 0 0] rfl (RepL.cons_ (upA (juR wr) _) RepL.nil_) rfl (by simp) (jxw wr) jts (w.heap.size+2) (by simp;omega) (by simpa using Fresh.join hF (Fresh.one wr.heap.size wr.heap.size (aMV _)) cR (λs hs=>Rep.lt _ bG s hs)) (by unfold maxLen;simp;omega) (by simp;omega) ?_;intro v' w' S' eM uJ fQ _;obtain ⟨A1,n1,m1,rfl⟩:=Rep.form eM;obtain ⟨hd,rG⟩:=jlO fQ (upB (upB (Below.refl wr.heap.size wr) _) _) (by omega) aCX;obtain ⟨he,fE⟩:=jlO fQ (upB (upB (Below.refl wr.heap.size wr) _) _) (by omega) pX;(have hz:=fQ.size);simp at hz;(have wF:=(by omega:w.heap.size+1<w'.heap.size)))
   go_roundw
   case rel=>
    refine ⟨k+1,.slice A1 n1 m1,S',by omega,by go_num,?_,uJ,?_,by simp;omega,?_⟩
    ·refine jna ?_ (λb hb=>by have:=uJ.2 b hb;simp;omega)
     rw [List.replicate_succ'];exact eM
    ·exact ((upB (upB a9 _) _).trans (fQ.below (λs hs=>by have:=hF.2 s hs;omega) (by simp;omega))).setCell (by simp) _
    ·simp [go_sem,hd,rG,he,fE,c0,c1,c2,c3,f2,r0,r1,r2,r3,g0,g1,g2,g3]
   case measure=>simp [intOf];omega
  ·obtain rfl:k=4:=by omega
   obtain ⟨A0,n0,m0,rfl⟩:=Rep.form bG
   go_wp2
   refine bodyPost_ret (v:=.agg #[.int .i64 0,.int .i64 1,.slice A0 n0 m0,.slice none 0 0]) (by simp [results,Tryz.results33,go_sem,r0,r1,r2,r3]) rfl ?_
   refine ⟨_,S++[],rfl,⟨_,rfl,ja2 (y:=newYd) ?_ (Rep.nil_ _ _ _)⟩,?_,?_⟩
   ·have wS:Rep wr true (ku newYd.aLU) (.slice A0 n0 m0) S:=bG
    repeat (first|(with_reducible exact wS)|((with_reducible refine jna ?_ ?_);rotate_left;focus (intro b hb;have:=hF.2 b hb;simp;try omega)))
   ·rw [aNI];exact hF.mono (by omega)
   ·repeat (first|(with_reducible assumption)|((with_reducible refine Below.setCell ?_ ?_ _);rotate_left;focus (simp;try omega)))
