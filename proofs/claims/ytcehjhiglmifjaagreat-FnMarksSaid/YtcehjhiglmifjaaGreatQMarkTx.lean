/- The law FnMarks holds for every input. No condition. -/
import Derived.Test.YtcehjhiglmifjaaGreatQDo
import Derived.Below
import Derived.OpenShut
set_option linter.all false
set_option maxHeartbeats 16000000
set_option maxRecDepth 100000
namespace Go.Proofs.YtcehjhiglmifjaaGreat
open Go.RowKit Go.Sort
def jd4:C:=iS [iA 3 (.box 27 4 (.t 1)),iA 4 (.mov (.c (.string ⟨⟨[]⟩⟩)))] (iS [aT 6 4 3,iA 7 (iK 39 [6]),aM 5 7] (.seq (iS [aM 8 0,iA 9 (.call 62 [.t 8,oI 0,oI 1000000000]),aU 10 9,aM 11 10,iB 12 11 false (iM 5),iB 13 11 false (.bin .eql 9 (.t 12) (.c (.string ⟨⟨[]⟩⟩))),iA 14 (iY 11 (oT) (.t 13)),aM 15 14,iB 16 15 false (iM 5),iB 17 15 false (.len true (.t 16)),iB 18 15 false (iQ .add 3 17 8),iB 19 15 false (iQ .gtr 3 18 60000),iA 20 (iY 15 (oT) (.t 19))] (iD 20 (iS [iA 4 (.mov (.c (.string ⟨⟨[]⟩⟩)))] .ret) .skip)) (iS [aM 21 0,iA 22 (iK 97 [21]),aM 23 5,iA 24 (iK 98 [23]),iA 25 (iK 97 [24]),aP 26 .add 9 22 25,aM 27 5,aP 28 .add 9 26 27,aM 4 28] .ret)))
theorem jg8:fnC Tryz.prog Tryz.f36=some (jd4,[.t 4],29):=by kernel_rfl
theorem jdp (q:Int) (y:Yd) (ht:jn y<=2000000):jW Tryz.prog 36 [.c (.val (.int .i64 q)),.agg (jc y)] (.c (.val (.string (jaA q y)))):=by
 refine pf_ jg8 ?_;unfold jd4;simp only [go_sem,jc];intro b3;refine jm (jdn y ht) λη=>?_
 simp only [go_sem];have cE:=jsJ y;have hm:jaA q y=if (0<=q/\q<=1000000000)/\(qS y).size≠0/\(qS y).size<=59992 then jcm q++jcm (jrq (qS y))++qS y else ⟨⟨[]⟩⟩:=rfl
 generalize qS y=T at*;have h5:=jtN q;have h7:=jtN (jrq T);have m1:(jcm q).size+(jcm (jrq T)).size<=maxLen:=zy;have m2:(jcm q).size+(jcm (jrq T)).size+T.size<=maxLen:=zy;refine jm (jw q 0 1000000000) λη=>?_
 simp only [go_sem];cases h1:decide (0<=q/\q<=1000000000)
 ·have hb:jaA q y=⟨⟨[]⟩⟩:=by rw [hm,if_neg (λh=>of_decide_eq_false h1 h.1)]
  simp only [go_sem,hb]
 have cW:=aOY h1;by_cases h0:T.size=0
 ·have hb:jaA q y=⟨⟨[]⟩⟩:=by rw [hm,if_neg (by omega)]
  simp only [go_sem,str0,h0,hb]
 have hw:IntKind.i64.wrap ((T.size:Int)+8)=((T.size+8:Nat):Int):=vF;have h6:¬(60000:Int)<((T.size+8:Nat):Int):=by omega
 have hb:jaA q y=jcm q++jcm (jrq T)++T:=by rw [hm,if_pos ⟨cW,h0,by omega⟩]
 simp only [go_sem,str0,h0,hw,h6];refine jm (jgq q) λη=>?_
 simp only [go_sem];refine jm (ji8 T (by omega)) λη=>?_
 simp only [go_sem];refine jm (jgq (jrq T)) λη=>?_
 simp only [go_sem];simp only [go_sem,m1,m2,hb]
theorem jhJ (n:Nat):jq0 (n:Int)=UInt8.ofNat (n%256):=by
 have e:((n:Int)%256).toNat=n%256:=by omega
 unfold jq0;rw [e]
theorem jyl {v:Int} (h:0<=v/\v<4294967296):jgF (jmo v)=v:=by
 obtain ⟨n,rfl⟩:=Int.eq_ofNat_of_zero_le h.1;have e1:(n:Int)/16777216=((n/16777216:Nat):Int):=by omega
 have e2:(n:Int)/65536=((n/65536:Nat):Int):=by omega
 have e3:(n:Int)/256=((n/256:Nat):Int):=by omega
 rw [jmo,e1,e2,e3,jhJ,jhJ,jhJ,jhJ];simp only [jgF,List.foldl];have t:∀m:Nat,(UInt8.ofNat (m%256)).toNat=m%256:=λm=>by simp
 rw [t,t,t,t];omega
noncomputable def jdv (t:ByteArray):Yd×Int×Bool:=
 if (vM t 0).2=false\/t.size<8 then (ydZ,0,false)
 else if (jb6 (t.extract 8 t.size)).2=false\/jaA (vM t 0).1 (jb6 (t.extract 8 t.size)).1≠t then (ydZ,0,false)
 else ((jb6 (t.extract 8 t.size)).1,(vM t 0).1,true)
theorem jAy {t:ByteArray} {y:Yd} (h:jl1 t y):qS y=t/\t.size≠0:=by
 have h1:qS y=t:=by rw [qS,if_pos (zS h.ok)];exact h.txt.symm
 refine ⟨h1,?_⟩;rw [h.txt,jhR,jb7,aOU,aOU,jhS];obtain ⟨v,e1,e2,e3⟩:=jsL (h.nums y.now (by simp [jb7]))
 rw [e3,aNR];have:=aQZ.2 (jhU v);omega
theorem jBy {a b:ByteArray} (h:a.data.toList=b.data.toList):a=b:=by
 cases a;cases b;congr 1;exact Array.toList_inj.1 h
theorem jCs (a b:ByteArray):(a++b).data.toList=a.data.toList++b.data.toList:=by simp
theorem jym {v:Int} (h:0<=v/\v<4294967296):(jcm v).data.toList=jmo v:=by rw [jcm,if_pos (by omega)]
def jd2:C:=iS [iA 2 wAM,aN 3 0,aO 4 false] (iS [aM 9 0,iA 10 (.call 96 [.t 9,oI 0]),aM 8 10,aE 11 8 0,aE 12 8 1,aM 5 11,aM 6 12] (.seq (iS [aM 13 6,aU 14 13,aM 15 14,iB 16 15 false (iM 0),iB 17 15 false (.len true (.t 16)),iB 18 15 false (iQ .lss 3 17 8),iA 19 (iY 15 (oT) (.t 18))] (iD 19 (iS [iA 20 (wAW []),wAA 2 20,aN 3 0,aO 4 false] .ret) .skip)) (iS [aM 22 0,iA 23 (.sl 0 (.t 22) (some (oI 8)) none),iA 24 (iK 40 [23]),aM 21 24,aE 25 21 0,aE 26 21 1,iA 7 wAM,wAA 7 25,aM 6 26] (.seq (iS [aM 27 6,aU 28 27,aM 29 28,iB 30 29 false (iM 5),iB 31 29 false (iT 4 7),iB 32 29 false (iK 36 [30,31]),iB 33 29 false (iM 0),iB 34 29 false (iP .neq 9 32 33),iA 35 (iY 29 (oT) (.t 34))] (iD 35 (iS [iA 36 (wAW []),wAA 2 36,aN 3 0,aO 4 false] .ret) .skip)) (iS [aT 37 4 7,aM 38 5,wAA 2 37,aM 3 38,aO 4 true] .ret)))))
theorem jg6:fnC Tryz.prog Tryz.f35=some (jd2,[.cell 2 true 4,.t 3,.t 4],39):=by kernel_rfl
theorem jk5 (t:ByteArray) (ht:t.size<=1048576):jW Tryz.prog 35 [.c (.val (.string t))] (.tup [(true,jc (jdv t).1),(false,[.val (.int .i64 (jdv t).2.1)]),(false,[.val (.bool (jdv t).2.2)])]):=by
 refine pf_ jg6 ?_;unfold jd2;have gX:8<=t.size->(t.extract 8 t.size).size<=1048576:=λh=>by rw [ByteArray.size_extract];omega
 simp only [go_sem];intro b2;refine jm (joi t 0 (by omega) (by omega) (by omega)) λη=>?_
 simp only [go_sem];cases hk:(vM t 0).2
 ·have hr:jdv t=(ydZ,0,false):=by rw [jdv,if_pos (.inl hk)]
  rw [hr];simp only [go_sem,jc];simp only [qF]
  apply ji
  simp only [go_sem,jy,true_or,jbf,jbe,jJ,jz]
 by_cases h8:(t.size:Int)<8
 ·have hr:jdv t=(ydZ,0,false):=by rw [jdv,if_pos (.inr (by omega))]
  rw [hr];simp only [go_sem,h8,jc];simp only [qF]
  apply ji
  simp only [go_sem,jy,true_or,jbf,jbe,jJ,jz]
 have h8n:8<=t.size:=by omega
 have tT:=jv5 (t.extract 8 t.size)
 have hI:jdv t=if (jb6 (t.extract 8 t.size)).2=false\/jaA (vM t 0).1 (jb6 (t.extract 8 t.size)).1≠t then (ydZ,0,false) else ((jb6 (t.extract 8 t.size)).1,(vM t 0).1,true):=by
  rw [jdv,if_neg];rintro (h|h)
  ·rw [hk] at h;cases h
  ·omega
 simp only [go_sem,h8,h8n,aOC];refine jm (jjz (t.extract 8 t.size) (gX h8n)) λy0=>?_
 simp only [go_sem,jc];intro b7;generalize (vM t 0).1=q at*;rw [hI];generalize (jb6 (t.extract 8 t.size)).1=y at*;cases hg:(jb6 (t.extract 8 t.size)).2
 ·rw [if_pos (.inl rfl)]
  simp only [go_sem];simp only [qF]
  apply ji
  simp only [go_sem,jy,true_or,jbf,jbe,jJ,jz]
 simp only [go_sem];refine jm (jdp q y (by omega)) λη=>?_
 simp only [go_sem];by_cases he:jaA q y=t
 ·rw [if_neg (by simp [he])]
  have eZ:decide (jaA q y=t)=true:=decide_eq_true he;simp only [go_sem,jub,eZ];simp only [qF]
  apply ji
  simp only [go_sem,jy,true_or,jbf,jbe,jJ,jz]
 ·rw [if_pos (.inr he)]
  have eZ:decide (jaA q y=t)=false:=decide_eq_false he;simp only [go_sem,jub,eZ];simp only [qF]
  apply ji
  simp only [go_sem,jy,true_or,jbf,jbe,jJ,jz]
noncomputable def jo4 (y:Yd) (l:List Nt):Yd:=l.foldl (λz n=>doY z n.aNO) y
theorem jFO {y:Yd} {l:List Nt} {k:Nat} {n:Nt} (h:l[k]?=some n):jo4 y (l.take (k+1))=doY (jo4 y (l.take k)) n.aNO:=by
 rw [aOA,h];simp [jo4]
theorem jh3:∀(l:List Nt) (y:Yd),jn y<=1100000->jn (jo4 y l)<=1100000
 |[],_,h=>h
 |n::l,y,h=>jh3 l (doY y n.aNO) (jtW y n.aNO h)
theorem jGi {l:List Nt} {k:Nat} {n:Nt} (h:l[k]?=some n) (ht:jcv l<=2000000):jbq n.aNO<=2000000:=by
 have h1:=vd (tot:=jpg) h;have h2:=zm jpg l (k+1);simp only [jcv] at ht;have h3:jpg n=jbq n.aNO:=rfl;omega
def jhB:C:=iS [iA 2 (.box 27 4 (.t 0)),iA 4 wAM] (iS [aT 8 4 2,iA 9 (iK 61 [8]),iA 5 wAM,wAA 5 9] (.seq (iS [aM 10 1,aG 11 10,aN 12 0] (.blk 0 (.loop (iS [aP 13 .lss 3 12 11] (.seq (iD 13 .skip (.exit 0)) (.seq (.blk 1 (iS [aI 14 12 10 12,aT 15 12 14,iA 7 wAU,wAL 7 15] (.reg [aT 17 4 5,aF 18 1 7,aT 19 11 18,iA 20 (iK 29 [17,19]),aM 16 20,aE 21 16 0,aE 22 16 1,wAA 5 21]))) (.reg [aQ 23 .add 3 12 1,aM 12 23]))))))) (iS [aT 24 4 5,wAA 4 24] .ret)))
theorem jj1:fnC Tryz.prog Tryz.f37=some (jhB,[.cell 4 true 4],25):=by kernel_rfl
theorem jcf (y:Yd) (l:List Nt) (ht:jn y<=1100000) (hd:jcv l<=2000000):jW Tryz.prog 37 [.agg (jc y),.c (ql l)] (.agg (jc (jo4 y l))):=by
 refine pf_ jj1 ?_;unfold jhB;have dW:jn y<=2000000:=by omega
 have hl:l.length<=2000000:=aPC (aQR _ _) hd;simp only [go_sem,jc];intro b2 b4;refine jm (jY y dW) λbD=>?_
 simp only [go_sem,jc];intro b5;refine qY (λi:Nat×jf×jf=>St.of [(4,Bx 400 b4),(5,Bx 500 b5),(10,Ro (ql l)),(11,Ni l.length),(12,Ni i.1)] [(400,ZYd b4 tYd),(500,kb b5 tYd (jo4 y (l.take i.1)).now (jo4 y (l.take i.1)).seq (jo4 y (l.take i.1)).aNC i.2.1 (jo4 y (l.take i.1)).aNE i.2.2)]) (λi=>i.1<=l.length) (λi=>l.length-i.1) (0,bD 2,bD 3) (jt [400,500] (by simp only [go_sem,aOW,show jo4 y []=y from rfl]<;>trivial)) ?_
 rintro ⟨n,f2,f3⟩ hn;dsimp only at hn;have hz:=jh3 (l.take n) y ht;by_cases aB:n<l.length
 ·have aA:(n:Int)<l.length:=by omega
  have bJ:=qX n;obtain ⟨d,hx⟩:=ja aB;have hw:=kx n;have hF:=jFO (y:=y) hx;have tE:=jGi hx hd;generalize jo4 y (l.take n)=z at*;simp only [go_sem,aB,aA,bJ,zP hx,qL,jR,jd,aOU,aOQ];intro b7;refine jG (jp0 z d.aNO (by omega) tE) (by simp only [go_sem,jc,jR,jd,aOU,aOQ]) λrB=>?_
  simp only [go_sem,jc,aOU,aOQ];simp only [go_sem,hw];exact qf (n+1,rB 2,rB 3) (jt [400,500] (by simp only [go_sem,hF,jM]<;>trivial))
 ·have aA:¬(n:Int)<l.length:=by omega
  obtain rfl:n=l.length:=by omega
  rw [aPP];simp only [go_sem,aA]
def zC:Int->List Dd->List Nt
 |_,[]=>[]
 |j,d::l=>⟨j+1,d⟩::zC (j+1) l
theorem jtp:∀(l:List Dd) (j:Int),(zC j l).length=l.length
 |[],_=>rfl
 |d::l,j=>by simp [zC,jtp l]
theorem jie:∀(l:List Dd) (j:Int),(zC j l).map (·.aNO)=l
 |[],_=>rfl
 |a::l,j=>by rw [zC,aPB,jie l]
theorem jxO {y:Yd} {q:Int} (hO:jl1 (qS y) y) (hq:0<=q/\q<=1000000000):jdv (jaA q y)=(y,q,true)/\(jaA q y).size<=15008:=by
 obtain ⟨-,hz⟩:=jAy hO;have cE:=jsJ y;have hm:jaA q y=jcm q++jcm (jrq (qS y))++qS y:=by rw [jaA,if_pos ⟨hq,hz,by omega⟩]
 have eC:=jBI (qS y)
 have hl:(jaA q y).data.toList=jmo q++(jmo (jrq (qS y))++(qS y).data.toList):=by
  rw [hm,jCs,jCs,jym (by omega),jym eC,aOB]
 have cP:(jaA q y).size=8+(qS y).size:=by
  have h1:(jaA q y).data.toList.length=(jaA q y).size:=by rw [aQB];rfl
  have h2:(qS y).data.toList.length=(qS y).size:=by rw [aQB];rfl
  rw [<-h1,<-h2,hl];simp [jmo];omega
 have h0:vM (jaA q y) 0=(q,true):=by
  rw [vM,if_pos (by omega)]
  have:(((jaA q y).data.toList.drop (0:Int).toNat).take 4)=jmo q:=by rw [hl];rfl
  rw [this,jyl (by omega)]
 have he:(jaA q y).extract 8 (jaA q y).size=qS y:=by
  refine jBy ?_;rw [ByteArray.data_extract,Array.toList_extract,List.extract_eq_take_drop,aNU,hl]
  ·rfl
  ·rw [aOI,aQB];exact aOC _
 have hR:=jzD hO;refine ⟨?_,by omega⟩
 unfold jdv;rw [h0,he,hR,if_neg,if_neg]
 ·rintro (h|h)
  ·cases h
  ·exact h rfl
 ·rintro (h|h)
  ·cases h
  ·omega
theorem jnW (y:Yd) (l:List Nt):jo4 y l=doF y (l.map (·.aNO)):=by
 simp [jo4,doF,List.foldl_map]
theorem jDt (y:Yd) (l:List Dd) (j:Int):jo4 y (zC j l)=doF y l:=by rw [jnW,jie]
theorem jAo (y:Yd) (l:List Dd) (j:Int) (k:Nat):jo4 (jo4 y ((zC j l).take k)) ((zC j l).drop k)=doF y l:=by
 rw [jnW,jnW,<-jEl,<-aPZ,aPF,jie]
theorem jpk:∀(l:List Dd) (j:Int),0<=j->j+l.length<=1000000000->jdb (zC j l) j=zC j l
 |[],_,_,_=>rfl
 |d::l,j,h0,h=>by
  rw [aOD] at h
  push_cast at h
  have w:IntKind.i64.wrap (j+1-1)=j:=by rw [kS (by omega) (by omega)];omega
  rw [zC,jdb,if_neg (by dsimp only;omega),if_neg (by dsimp only;rw [w];simp)]
  rw [jpk l (j+1) (by omega) (by omega)]
theorem jmM:∀(l:List Dd) (k:Nat) (j:Int),0<=j->j+l.length<=1000000000->k<=l.length->jdb (zC j l) (j+k)=(zC j l).drop k
 |l,0,j,h0,h,_=>by
  have e:j+((0:Nat):Int)=j:=by omega
  rw [e,jpk l j h0 h];rfl
 |[],k+1,_,_,_,hk=>by simp at hk
 |d::l,k+1,j,h0,h,hk=>by
  rw [aOD] at h hk
  push_cast at h
  rw [zC,jdb,if_pos (by dsimp only;push_cast;omega),List.drop_succ_cons]
  have:=jmM l k (j+1) (by omega) (by omega) (by omega)
  rw [<-this]
  congr 1;push_cast;omega
open Go.RowKit Go.Sort Go.BigFrame
theorem jEu (c:List UInt8):prioI (dY c):=jls c _ .new (λe he=>by simp [newYd] at he)
theorem jzB {y:Yd} (hI:YdI y) (hp:prioI y) (hq:y.seq<=1000000000):jl1 (qS y) y:=by
 have aR:=hI.ok hq;exact ⟨aR,jCA hI hp hq,by rw [qS,if_pos (zS aR)]⟩
theorem jgr:∀(l:List Dd) (j:Int),(∀d∈l,d.aNB.aNF.length<=9)->jcv (zC j l)<=40*l.length
 |[],_,_=>by simp [zC,jcv,qh]
 |d::l,j,h=>by
  have ih:=jgr l (j+1) λx hx=>h x (by simp [hx])
  have hd:=h d (by simp)
  simp only [zC,jcv,qh,aPB,aQD,aOD,jpg,jbq,jc4] at ih⊢;omega
theorem jur (l:List Nt) (a b:Nat):(ql l).sub a b=ql ((l.drop a).take (b-a)):=jnI (enc:=qL) jyB l a b
theorem jyh {w:World} {sz ty k j:Nat} {p:List Nat} {cs:List D} {e:D} {u:Value} (h:j≠k):hdr w (j::p) (.sl sz ty (cs.set k e)) u=hdr w (j::p) (.sl sz ty cs) u:=by
 cases u with
 |slice a n c=>
  cases a with
  |none=>rfl
  |some a=>simp only [hdr];rw [aOX (Ne.symm h)]
 |_=>rfl
theorem jqJ {B:Nat} {w:World} {ob:Ob} {S:List Nat} {c k sz tyo:Nat} {ds0:List D} {e:D} {η:jf} (h:ORel B w ob S) (ho:ob.own c=some (.sl sz tyo ds0,η)) (hk:ds0[k]?=some e):
 ∃v Sk,Rep w true e v Sk/\(e.isSl=true->η [k]=v)/\(∀x,e=.val x->v=x)/\(∀b∈Sk,b∈S)/\(S.Nodup->Sk.Nodup)/\∀e' Sk',Rep w true e' v Sk'->∃aC S',ORel B w (ob.putOwn c (.sl sz tyo (ds0.set k e')) aC) S'/\aC []=η []/\(e'.isSl=true->aC [k]=v)/\(∀j p,j≠k->aC (j::p)=η (j::p))/\∃R,S.Perm (R++Sk)/\S'.Perm (R++Sk'):=by
 obtain ⟨u,SA,Sd,SC,e1,a1,a2,a3,a4⟩:=jid h ho;obtain ⟨vs,T,S',bG,bR,rfl⟩:=a2;obtain ⟨v,SA',Sk,SC',b1,rfl,b3,b4⟩:=jei bR hk
 have fV:∀X:List Nat,(SA++(T++(SA'++X++SC'))++SC).Perm ((SA++(T++(SA'++[]++SC'))++SC)++X):=λX=>by
  have e1:SA++(T++(SA'++X++SC'))++SC=(SA++(T++SA'))++(X++(SC'++SC)):=by simp
  have e2:(SA++(T++(SA'++[]++SC'))++SC)++X=(SA++(T++SA'))++((SC'++SC)++X):=by simp
  rw [e1,e2];exact aQG _ aQH
 refine ⟨v,Sk,b3,λhs=>?_,λx hx=>?_,λb hb=>by rw [e1];simp [hb],λaW=>?_,λe' Sk' hr=>?_⟩
 ·rw [a3]
  rcases kX bG with ⟨_,rfl⟩|⟨gg,nn,cc,rfl,_,_,bK,_⟩
  ·simp at b1
  ·simp only [hdr,hk,aPH,bK k v b1,aNZ]
   exact zt hs
 ·subst hx;exact b3.1
 ·rw [e1] at aW
  exact (aNY.1 ((fV Sk).nodup_iff.1 aW)).2.1
 ·have bE:Rep w true (.sl sz tyo (ds0.set k e')) u (T++(SA'++Sk'++SC')):=⟨vs,T,_,bG,b4 _ _ hr,rfl⟩
  refine ⟨λp=>hdr w p (.sl sz tyo (ds0.set k e')) u,_,a4 _ _ _ rfl bE (λ_=>rfl),by rw [a3];rfl,λhs=>?_,λj p hj=>by rw [a3];exact jyh hj,_,by rw [e1];exact fV Sk,fV Sk'⟩
  rcases kX bG with ⟨_,rfl⟩|⟨gg,nn,cc,rfl,_,_,bK,_⟩
  ·simp at b1
  ·have dG:=(aNP.1 hk).1
   simp only [hdr,aNX dG,aPH,bK k v b1,aNZ];exact zt hs
section
variable {s:St} {K:St->Prop}
theorem jCF (g c k g2:Nat) {sz tyo size ty:Nat} {ds0 cs:List D} {η:jf} (ho:(s.o g).own c=some (.sl sz tyo ds0,η)) (hk:ds0[k]?=some (.sl size ty cs)) (h2:s.o g2=.none) (aJ:g2≠g)
 (hK:∀aS aC,aC []=η []->aS []=η [k]->(η [k]).oneCell'=true->(∀j p,j≠k->aC (j::p)=η (j::p))->WkK ((s.setO g ((s.o g).putOwn c (.sl sz tyo (ds0.set k (.val (η [k])))) aC)).setO g2 (.loose (.sl size ty cs) aS)) K):WkK s K:=by
 intro B N w0 w a F h;obtain ⟨v,Sk,a1,a2,_,a4,a5,a6⟩:=jqJ (h.ob g) ho hk;have hv:=a2 rfl;obtain ⟨aC,S',b1,b2,_,b5,R,b3,b4⟩:=a6 (.val v) [] ⟨rfl,rfl⟩;rw [aOP] at b4;have aW:=b3.nodup_iff.1 (h.fr g).1;have bA:∀b∈S',b∈F g:=λb hb=>b3.mem_iff.2 (aNT.2 (.inl (b4.mem_iff.1 hb)))
 have t1:=h.setO (g:=g) b1 ⟨b4.nodup_iff.2 (aNY.1 aW).1,λb hb=>(h.fr g).2 b (bA b hb)⟩ (λg' cU b hb hh=>h.dj g' g cU b hh (bA b hb))
 have t2:=t1.setO (g:=g2) (ob:=.loose (.sl size ty cs) (λp=>hdr w p (.sl size ty cs) v)) (S:=Sk) ⟨rfl,v,a1,λ_=>rfl⟩ ⟨(aNY.1 aW).2.1,λb hb=>(h.fr g).2 b (a4 b hb)⟩ (λg' _ b hb=>by
  split
  ·exact λhh=>(aNY.1 aW).2.2 b (b4.mem_iff.1 hh) b hb rfl
  ·rename_i uH
   exact λhh=>h.dj g' g uH b hh (a4 b hb))
 have:=hK (λp=>hdr w p (.sl size ty cs) v) aC b2 (by rw [hv];rfl) (by rw [hv];exact jkH (vR a1)) b5
 rw [hv] at this;exact this _ _ _ _ _ _ t2
theorem jwa (g c k g2:Nat) {sz tyo size ty:Nat} {ds0 cs:List D} {e:D} {η aS:jf} (ho:(s.o g).own c=some (.sl sz tyo ds0,η)) (hk:ds0[k]?=some e) (he:e=.val (aS [])) (h2:s.o g2=.loose (.sl size ty cs) aS) (aJ:g2≠g)
 (hK:∀aC,aC []=η []->aC [k]=aS []->(∀j p,j≠k->aC (j::p)=η (j::p))->WkK ((s.setO g2 .none).setO g ((s.o g).putOwn c (.sl sz tyo (ds0.set k (.sl size ty cs))) aC)) K):WkK s K:=by
 intro B N w0 w a F h;have h3:=h.ob g2;rw [h2] at h3;obtain ⟨_,u,k2,k3⟩:=h3;have eu:aS []=u:=by rw [k3];rfl
 rw [eu] at he;obtain ⟨v,Sk,a1,a2,a3,a4,a5,a6⟩:=jqJ (h.ob g) ho hk;have y6:v=u:=a3 u he;obtain ⟨aC,S',b1,b2,b6,b5,R,b3,b4⟩:=a6 (.sl size ty cs) (F g2) (y6▸k2);have t1:=h.setO (g:=g2) (ob:=.none) (S:=[]) rfl (Fresh.nil _) (by simp)
 have aW:=b3.nodup_iff.1 (h.fr g).1;have hR:∀b∈R,b∈F g:=λb hb=>b3.mem_iff.2 (aNT.2 (.inl hb))
 have uE:(R++F g2).Nodup:=aNY.2 ⟨(aNY.1 aW).1,(h.fr g2).1,λx hx y hy e=>h.dj g g2 (λe=>aJ e.symm) x (hR x hx) (e▸hy)⟩
 refine hK aC b2 (by rw [b6 rfl,y6,eu]) b5 _ _ _ _ _ _ (t1.setO (g:=g) (ob:=(s.o g).putOwn c (.sl sz tyo (ds0.set k (.sl size ty cs))) aC) b1 ⟨b4.nodup_iff.2 uE,λx hx=>?_⟩ (λg' cU x hx=>?_))
 ·rcases aNT.1 (b4.mem_iff.1 hx) with hx|hx
  ·exact (h.fr g).2 x (hR x hx)
  ·exact (h.fr g2).2 x hx
 ·split
  ·simp
  ·rename_i lD
   intro hh;rcases aNT.1 (b4.mem_iff.1 hx) with hx|hx
   ·exact h.dj g' g cU x hh (hR x hx)
   ·exact h.dj g' g2 lD x hh hx
theorem jEQ (g:Nat) {size ty:Nat} {cs:List D} {η:jf} (ho:s.o g=.loose (.sl size ty cs) η) (hn:η []=.slice none 0 0) (hK:cs=[]->WkK s K):WkK s K:=by
 intro B N w0 w a F h;have h3:=h.ob g;rw [ho] at h3;obtain ⟨_,u,k2,k3⟩:=h3;have eu:η []=u:=by rw [k3];rfl
 rw [hn] at eu;subst eu;refine hK ?_ _ _ _ _ _ _ h;obtain ⟨vs,T,S',bG,bR,_⟩:=k2;rcases kX bG with ⟨_,rfl⟩|⟨gg,nn,c2,e2,_⟩
 ·exact aON (RepL.length _ bR).symm
 ·cases e2
end
abbrev ddC (d:Dd) (c:D):List D:=[.val (.int .i64 d.aNK),.val (.int .i64 d.run),.val (.int .i64 d.aNB.aNI),.val (.int .i64 d.aNB.aNN),.val (.int .i64 d.aNB.aNM),.val (.int .i64 d.aNB.aNA),c,.val (.int .i64 d.aNH),.val (.int .i64 d.tri),.val (.int .i64 d.aNG),.val (.int .i64 d.aNJ)]
abbrev ntC (q:Int) (d:Dd) (c:D):List D:=.val (.int .i64 q)::ddC d c
abbrev jk9 (x:Value):D:=jre (some (2,tEd)) x
def ddR:List Dd->List D->List D
 |d::l,c::cs=>ddC d c++ddR l cs
 |_,_=>[]
def ntR:Int->List Dd->List D->List D
 |q,d::l,c::cs=>ntC (q+1) d c++ntR (q+1) l cs
 |_,_,_=>[]
theorem jEq (cs:List D):ddR [] cs=[]:=by cases cs<;>rfl
theorem jxI (q:Int) (cs:List D):ntR q [] cs=[]:=by cases cs<;>rfl
theorem jsy:∀{l:List Dd} {cs:List D},l.length=cs.length->(ddR l cs).length=l.length*11
 |[],_,_=>by rw [jEq];rfl
 |_::_,[],h=>by simp at h
 |d::l,c::cs,h=>by
  rw [ddR,aNR,jsy (by simpa using h)]
  simp only [aOD,aOR];omega
theorem jxJ:∀{q:Int} {l:List Dd} {cs:List D},l.length=cs.length->(ntR q l cs).length=l.length*12
 |_,[],_,_=>by rw [jxI];rfl
 |_,_::_,[],h=>by simp at h
 |q,d::l,c::cs,h=>by
  rw [ntR,aNR,jxJ (by simpa using h)]
  simp only [aOD,aOR];omega
theorem jCm:∀{l:List Dd} {cs:List D} {k:Nat} {d:Dd} {c:D},l[k]?=some d->cs[k]?=some c->((ddR l cs).drop (k*11)).take 11=ddC d c
 |[],_,_,_,_,h,_=>by simp at h
 |_::_,[],_,_,_,_,h=>by simp at h
 |e::l,x::cs,0,d,c,h,h'=>by
  simp at h h';subst h;subst h';rfl
 |e::l,x::cs,k+1,d,c,h,h'=>by
  have:=jCm (l:=l) (cs:=cs) (k:=k) (d:=d) (c:=c) (by simpa using h) (by simpa using h')
  rw [ddR,show (k+1)*11=(ddC e x).length+k*11 by simp only [aOD,aOR];omega,List.drop_length_add_append]
  exact this
theorem jts:∀{l:List Dd} {cs:List D} (q:Int) (d:Dd) (c:D),l.length=cs.length->ntR q (l++[d]) (cs++[c])=ntR q l cs++ntC (q+l.length+1) d c
 |[],[],q,d,c,_=>by simp [ntR]
 |[],_::_,_,_,_,h=>by simp at h
 |_::_,[],_,_,_,h=>by simp at h
 |e::l,x::cs,q,d,c,h=>by
  rw [aOU,aOU,ntR,jts (q+1) d c (by simpa using h),ntR,aOB,aOD]
  rw [show q+1+(l.length:Int)+1=q+((l.length+1:Nat):Int)+1 by push_cast;omega]
def CutF:List Dd->List Value->(Nat->Ob)->Prop
 |[],[],fam=>∀j,fam j=.none
 |d::l,x::xs,fam=>(∃η,η []=x/\fam 0=.loose (.sl 2 tEd (d.aNB.aNF.flatMap jK)) η)/\x.oneCell'=true/\CutF l xs λj=>fam (j+1)
 |_,_,_=>False
theorem CutF.len:∀{l:List Dd} {xs:List Value} {fam:Nat->Ob},CutF l xs fam->xs.length=l.length
 |[],[],_,_=>rfl
 |_::_,_::_,_,h=>by rw [aOD,aOD,h.2.2.len]
 |[],_::_,_,h=>h.elim
 |_::_,[],_,h=>h.elim
theorem CutF.one:∀{l:List Dd} {xs:List Value} {fam:Nat->Ob},CutF l xs fam->∀x∈xs,x.oneCell'=true
 |[],[],_,_=>by simp
 |_::_,_::_,_,h=>λx hx=>by
  rcases aOK.1 hx with rfl|hx
  ·exact h.2.1
  ·exact h.2.2.one x hx
 |[],_::_,_,h=>h.elim
 |_::_,[],_,h=>h.elim
theorem jwb {K:St->Prop} (g:Nat):∀(l:List Dd) (pre:List D) (b:Nat) (s:St) (η:jf),s.o g=.loose (.sl 11 tDd (pre++l.flatMap jR)) η->g<b->(∀j,b<=j->s.o j=.none)->
 (∀(xs:List Value) (fam:Nat->Ob) (aC:jf),CutF l xs fam->aC []=η []->WkK ⟨s.t,λj=>if b<=j then fam (j-b) else if j=g then .loose (.sl 11 tDd (pre++ddR l (xs.map .val))) aC else s.o j⟩ K)->WkK s K
 |[],pre,b,s,η,ho,hg,hn,hK=>by
  have:=hK [] (λ_=>.none) η (λ_=>rfl) rfl
  have e:(⟨s.t,λj=>if b<=j then Ob.none else if j=g then .loose (.sl 11 tDd (pre++ddR [] (List.map .val []))) η else s.o j⟩:St)=s:=by
   have:(λj=>if b<=j then Ob.none else if j=g then .loose (.sl 11 tDd (pre++ddR [] (List.map .val []))) η else s.o j)=s.o:=by
    funext j
    by_cases h1:b<=j
    ·rw [if_pos h1,hn j h1]
    ·rw [if_neg h1]
     by_cases h2:j=g
     ·subst h2;rw [if_pos rfl];exact ho.symm
     ·rw [if_neg h2]
   rw [this]
  rwa [e] at this
 |d::l,pre,b,s,η,ho,hg,hn,hK=>by
  rw [aOM] at ho;refine jc1 g 0 (pre.length+6) b (η:=η) (sz:=11) (tyo:=tDd) (cs:=d.aNB.aNF.flatMap jK) (by rw [ho];rfl) (by rw [jcl];rfl) (hn b (aOC b)) (by omega) λbC dA pC iH lY=>?_
  rw [<-iH] at lY⊢;rw [ho,jfD 6 (by rw [aNR,jqF];omega),aQN _ _ (by rw [jqF];omega)]
  obtain ⟨s2,cZ⟩:∃s2,(s.setO g (Ob.putOwn (.loose (.sl 11 tDd (pre++(jR d++l.flatMap jR))) η) 0 (.sl 11 tDd (pre++((jR d).set 6 (.val (bC []))++l.flatMap jR))) dA)).setO b (.loose (.sl 2 tEd (d.aNB.aNF.flatMap jK)) bC)=s2:=⟨_,rfl⟩;rw [cZ]
  have q0:s2.o g=.loose (.sl 11 tDd ((pre++ddC d (.val (bC [])))++l.flatMap jR)) dA:=by
   rw [<-cZ,aOB];show (if g=b then _ else if g=g then _ else _)=_
   rw [if_neg (by omega),if_pos rfl];rfl
  have q1:s2.o b=.loose (.sl 2 tEd (d.aNB.aNF.flatMap jK)) bC:=by
   rw [<-cZ];show (if b=b then _ else _)=_
   rw [if_pos rfl]
  have q3:∀j,j≠g->j≠b->s2.o j=s.o j:=λj n1 n2=>by
   rw [<-cZ];show (if j=b then _ else if j=g then _ else s.o j)=_
   rw [if_neg n2,if_neg n1]
  have qt:s2.t=s.t:=by rw [<-cZ];rfl
  refine jwb g l _ (b+1) s2 dA q0 (by omega) (λj hj=>by rw [q3 j (by omega) (by omega)];exact hn j (by omega)) λxs fam aC eT hη=>?_
  have:=hK (bC []::xs) (λj=>if j=0 then .loose (.sl 2 tEd (d.aNB.aNF.flatMap jK)) bC else fam (j-1)) aC ⟨⟨bC,rfl,rfl⟩,lY,eT⟩ (hη.trans pC)
  have e:(λj=>if b+1<=j then fam (j-(b+1)) else if j=g then .loose (.sl 11 tDd (pre++ddC d (.val (bC []))++ddR l (xs.map .val))) aC else s2.o j)=(λj=>if b<=j then (if j-b=0 then Ob.loose (.sl 2 tEd (d.aNB.aNF.flatMap jK)) bC else fam (j-b-1)) else if j=g then .loose (.sl 11 tDd (pre++ddR (d::l) ((bC []::xs).map .val))) aC else s.o j):=by
   funext j
   by_cases c1:b+1<=j
   ·rw [if_pos c1,if_pos (by omega),if_neg (by omega),show j-(b+1)=j-b-1 by omega]
   ·rw [if_neg c1]
    by_cases c2:j=b
    ·subst c2;rw [if_neg (by omega),if_pos (aOC _),if_pos (by omega),q1]
    ·by_cases c4:j=g
     ·subst c4;rw [if_pos rfl,if_neg (by omega),if_pos rfl,aOB];rfl
     ·rw [if_neg c4,if_neg (by omega),if_neg c4,q3 j c4 c2]
  rw [qt,e];exact this
def Lent:List Dd->Nat->jf->List D->Prop
 |[],_,_,[]=>True
 |d::l,k,η,c::cs=>(c=.sl 2 tEd (d.aNB.aNF.flatMap jK)\/c=.val (η [k+7]))/\Lent l (k+12) η cs
 |_,_,_,_=>False
theorem Lent.len:∀{l:List Dd} {k:Nat} {η:jf} {cs:List D},Lent l k η cs->l.length=cs.length
 |[],_,_,[],_=>rfl
 |_::_,_,_,_::_,h=>by rw [aOD,aOD,h.2.len]
 |[],_,_,_::_,h=>h.elim
 |_::_,_,_,[],h=>h.elim
theorem jyQ (pre:List D) (d:Dd) (c e:D) (rest:List D):(pre++(ddC d c++rest)).set (pre.length+6) e=pre++(ddC d e++rest):=by
 rw [jfD 6 (by simp),aQN _ _ (by simp)];rfl
theorem jxK (pre:List D) (q:Int) (d:Dd) (c e:D) (rest:List D):(pre++(ntC q d c++rest)).set (pre.length+7) e=pre++(ntC q d e++rest):=by
 rw [jfD 7 (by simp),aQN _ _ (by simp)];rfl
theorem jnx {K:St->Prop} (gL gN:Nat) (rY:gL≠gN):∀(l:List Dd) (xs:List Value) (fam:Nat->Ob) (b:Nat) (preL preN:List D) (q:Int) (s:St) (bX eN:jf),CutF l xs fam->s.o gL=.loose (.sl 11 tDd (preL++ddR l (xs.map .val))) bX->s.o gN=.loose (.sl 12 tNt (preN++ntR q l (xs.map jk9))) eN->gL<b->gN<b->(∀j,b<=j->s.o j=fam (j-b))->
 (∀(dZ fH:jf) (cs:List D),Lent l preN.length fH cs->(∀j p,j<preN.length->fH (j::p)=eN (j::p))->dZ []=bX []->fH []=eN []->WkK ⟨s.t,λj=>if b<=j then .none else if j=gL then .loose (.sl 11 tDd (preL++ddR l cs)) dZ else if j=gN then .loose (.sl 12 tNt (preN++(zC q l).flatMap qL)) fH else s.o j⟩ K)->WkK s K
 |[],[],fam,b,preL,preN,q,s,bX,eN,hf,hL,hN,rR,lD,hn,hK=>by
  have:=hK bX eN [] trivial (λ_ _ _=>rfl) rfl rfl
  have e:(⟨s.t,λj=>if b<=j then Ob.none else if j=gL then .loose (.sl 11 tDd (preL++ddR [] [])) bX else if j=gN then .loose (.sl 12 tNt (preN++(zC q []).flatMap qL)) eN else s.o j⟩:St)=s:=by
   have:(λj=>if b<=j then Ob.none else if j=gL then .loose (.sl 11 tDd (preL++ddR [] [])) bX else if j=gN then .loose (.sl 12 tNt (preN++(zC q []).flatMap qL)) eN else s.o j)=s.o:=by
    funext j
    by_cases h1:b<=j
    ·rw [if_pos h1,hn j h1,hf]
    ·rw [if_neg h1]
     by_cases h2:j=gL
     ·subst h2;rw [if_pos rfl];exact hL.symm
     ·rw [if_neg h2]
      by_cases h3:j=gN
      ·subst h3;rw [if_pos rfl];exact hN.symm
      ·rw [if_neg h3]
   rw [this]
  rwa [e] at this
 |[],_::_,_,_,_,_,_,_,_,_,hf,_,_,_,_,_,_=>hf.elim
 |_::_,[],_,_,_,_,_,_,_,_,hf,_,_,_,_,_,_=>hf.elim
 |d::l,x::xs,fam,b,preL,preN,q,s,bX,eN,⟨⟨η,hx,f0⟩,eX,eT⟩,hL,hN,rR,lD,hn,hK=>by
  have n7:s.o b=.loose (.sl 2 tEd (d.aNB.aNF.flatMap jK)) η:=by rw [hn b (aOC b),aRD,f0]
  have wG:s.o gL=.loose (.sl 11 tDd (preL++(ddC d (.val x)++ddR l (xs.map .val)))) bX:=hL;have tH:s.o gN=.loose (.sl 12 tNt (preN++(ntC (q+1) d (jk9 x)++ntR (q+1) l (xs.map jk9)))) eN:=hN;by_cases lO:x=.slice none 0 0
  ·refine jEQ b n7 (by rw [hx,lO]) λfE=>?_
   refine qi gL 0 (preL.length+6) b (η:=bX) (aS:=η) (sz:=11) (tyo:=tDd) (cs:=d.aNB.aNF.flatMap jK) (by rw [wG];rfl) (by rw [jcl];rfl) (.inl (by rw [hx])) n7 (by omega) λdA pC=>?_
   rw [wG,jyQ];obtain ⟨s2,cZ⟩:∃s2,(s.setO b .none).setO gL (Ob.putOwn (.loose (.sl 11 tDd (preL++(ddC d (.val x)++ddR l (xs.map .val)))) bX) 0 (.sl 11 tDd (preL++(ddC d (.sl 2 tEd (d.aNB.aNF.flatMap jK))++ddR l (xs.map .val)))) dA)=s2:=⟨_,rfl⟩;rw [cZ]
   have q0:s2.o gL=.loose (.sl 11 tDd ((preL++ddC d (.sl 2 tEd (d.aNB.aNF.flatMap jK)))++ddR l (xs.map .val))) dA:=by
    rw [<-cZ,aOB];show (if gL=gL then _ else _)=_
    rw [if_pos rfl];rfl
   have q3:∀j,j≠gL->j≠b->s2.o j=s.o j:=λj n1 n2=>by
    rw [<-cZ];show (if j=gL then _ else if j=b then _ else s.o j)=_
    rw [if_neg n1,if_neg n2]
   have q1:s2.o gN=.loose (.sl 12 tNt ((preN++ntC (q+1) d (jk9 x))++ntR (q+1) l (xs.map jk9))) eN:=by
    rw [q3 gN (Ne.symm rY) (by omega),tH,aOB]
   have qb:s2.o b=.none:=by
    rw [<-cZ];show (if b=gL then _ else if b=b then _ else _)=_
    rw [if_neg (by omega),if_pos rfl]
   have qt:s2.t=s.t:=by rw [<-cZ];rfl
   have bG:jk9 x=.sl 2 tEd (d.aNB.aNF.flatMap jK):=by rw [lO,fE];rfl
   refine jnx gL gN rY l xs _ (b+1) _ _ (q+1) s2 dA eN eT q0 q1 (by omega) (by omega) (λj hj=>by rw [q3 j (by omega) (by omega),hn j (by omega),show j-b=j-(b+1)+1 by omega]) λdZ fH cs hl hh e1 e2=>?_
   have aD:(preN++ntC (q+1) d (jk9 x)).length=preN.length+12:=by simp
   rw [aD] at hl hh;have:=hK dZ fH (.sl 2 tEd (d.aNB.aNF.flatMap jK)::cs) ⟨.inl rfl,hl⟩ (λj p hj=>hh j p (by omega)) (e1.trans pC) e2
   have e:(λj=>if b+1<=j then Ob.none else if j=gL then .loose (.sl 11 tDd (preL++ddC d (.sl 2 tEd (d.aNB.aNF.flatMap jK))++ddR l cs)) dZ else if j=gN then .loose (.sl 12 tNt (preN++ntC (q+1) d (jk9 x)++(zC (q+1) l).flatMap qL)) fH else s2.o j)=(λj=>if b<=j then Ob.none else if j=gL then .loose (.sl 11 tDd (preL++ddR (d::l) (.sl 2 tEd (d.aNB.aNF.flatMap jK)::cs))) dZ else if j=gN then .loose (.sl 12 tNt (preN++(zC q (d::l)).flatMap qL)) fH else s.o j):=by
    funext j
    by_cases c1:b+1<=j
    ·rw [if_pos c1,if_pos (by omega)]
    ·rw [if_neg c1]
     by_cases c2:j=b
     ·subst c2;rw [if_neg (by omega),if_neg (by omega),if_pos (aOC _),qb]
     ·rw [if_neg (show¬b<=j by omega)]
      by_cases c4:j=gL
      ·rw [if_pos c4,if_pos c4,aOB];rfl
      ·rw [if_neg c4,if_neg c4]
       by_cases c5:j=gN
       ·rw [if_pos c5,if_pos c5,aOB,bG];rfl
       ·rw [if_neg c5,if_neg c5,q3 j c4 c2]
   rw [qt,e];exact this
  ·have rE:jk9 x=.val x:=by
    unfold jk9 jre;split
    ·rename_i e1;exact absurd rfl lO
    ·rfl
   rw [rE] at tH;refine jwa gN 0 (preN.length+7) b (η:=eN) (aS:=η) (sz:=12) (tyo:=tNt) (cs:=d.aNB.aNF.flatMap jK) (e:=.val x) (by rw [tH];rfl) (by rw [jcl];rfl) (by rw [hx]) n7 (by omega) λdA pC iH lY=>?_
   rw [tH,jxK];obtain ⟨s2,cZ⟩:∃s2,(s.setO b .none).setO gN (Ob.putOwn (.loose (.sl 12 tNt (preN++(ntC (q+1) d (.val x)++ntR (q+1) l (xs.map jk9)))) eN) 0 (.sl 12 tNt (preN++(ntC (q+1) d (.sl 2 tEd (d.aNB.aNF.flatMap jK))++ntR (q+1) l (xs.map jk9)))) dA)=s2:=⟨_,rfl⟩;rw [cZ]
   have q0:s2.o gN=.loose (.sl 12 tNt ((preN++ntC (q+1) d (.sl 2 tEd (d.aNB.aNF.flatMap jK)))++ntR (q+1) l (xs.map jk9))) dA:=by
    rw [<-cZ,aOB];show (if gN=gN then _ else _)=_
    rw [if_pos rfl];rfl
   have q3:∀j,j≠gN->j≠b->s2.o j=s.o j:=λj n1 n2=>by
    rw [<-cZ];show (if j=gN then _ else if j=b then _ else s.o j)=_
    rw [if_neg n1,if_neg n2]
   have q1:s2.o gL=.loose (.sl 11 tDd ((preL++ddC d (.val x))++ddR l (xs.map .val))) bX:=by
    rw [q3 gL rY (by omega),wG,aOB]
   have qb:s2.o b=.none:=by
    rw [<-cZ];show (if b=gN then _ else if b=b then _ else _)=_
    rw [if_neg (by omega),if_pos rfl]
   have qt:s2.t=s.t:=by rw [<-cZ];rfl
   refine jnx gL gN rY l xs _ (b+1) _ _ (q+1) s2 bX dA eT q1 q0 (by omega) (by omega) (λj hj=>by rw [q3 j (by omega) (by omega),hn j (by omega),show j-b=j-(b+1)+1 by omega]) λdZ fH cs hl hh e1 e2=>?_
   have aD:(preN++ntC (q+1) d (.sl 2 tEd (d.aNB.aNF.flatMap jK))).length=preN.length+12:=by simp
   rw [aD] at hl hh;have:=hK dZ fH (.val x::cs) ⟨.inr (by rw [hh (preN.length+7) [] (by omega),iH,hx]),hl⟩ (λj p hj=>by rw [hh j p (by omega),lY j p (by omega)]) e1 (e2.trans pC)
   have e:(λj=>if b+1<=j then Ob.none else if j=gL then .loose (.sl 11 tDd (preL++ddC d (.val x)++ddR l cs)) dZ else if j=gN then .loose (.sl 12 tNt (preN++ntC (q+1) d (.sl 2 tEd (d.aNB.aNF.flatMap jK))++(zC (q+1) l).flatMap qL)) fH else s2.o j)=(λj=>if b<=j then Ob.none else if j=gL then .loose (.sl 11 tDd (preL++ddR (d::l) (.val x::cs))) dZ else if j=gN then .loose (.sl 12 tNt (preN++(zC q (d::l)).flatMap qL)) fH else s.o j):=by
    funext j
    by_cases c1:b+1<=j
    ·rw [if_pos c1,if_pos (by omega)]
    ·rw [if_neg c1]
     by_cases c2:j=b
     ·subst c2;rw [if_neg (by omega),if_neg (by omega),if_pos (aOC _),qb]
     ·rw [if_neg (show¬b<=j by omega)]
      by_cases c4:j=gL
      ·rw [if_pos c4,if_pos c4,aOB];rfl
      ·rw [if_neg c4,if_neg c4]
       by_cases c5:j=gN
       ·rw [if_pos c5,if_pos c5,aOB];rfl
       ·rw [if_neg c5,if_neg c5,q3 j c5 c2]
   rw [qt,e];exact this
theorem jrh {K:St->Prop} (gL gN g2:Nat) (rY:gL≠gN) (yX:g2≠gL) (yW:g2≠gN):∀(l:List Dd) (cs preL preN:List D) (q:Int) (s:St) (bX eN:jf),Lent l preN.length eN cs->s.o gL=.loose (.sl 11 tDd (preL++ddR l cs)) bX->s.o gN=.loose (.sl 12 tNt (preN++(zC q l).flatMap qL)) eN->s.o g2=.none->
 (∀(dZ:jf) (ob:Ob),dZ []=bX []->WkK ⟨s.t,λj=>if j=gL then .loose (.sl 11 tDd (preL++l.flatMap jR)) dZ else if j=gN then ob else s.o j⟩ K)->WkK s K
 |[],[],preL,preN,q,s,bX,eN,_,hL,hN,hn,hK=>by
  have:=hK bX (s.o gN) rfl
  have e:(⟨s.t,λj=>if j=gL then .loose (.sl 11 tDd (preL++List.flatMap jR [])) bX else if j=gN then s.o gN else s.o j⟩:St)=s:=by
   have:(λj=>if j=gL then .loose (.sl 11 tDd (preL++List.flatMap jR [])) bX else if j=gN then s.o gN else s.o j)=s.o:=by
    funext j
    by_cases h2:j=gL
    ·subst h2;rw [if_pos rfl];exact hL.symm
    ·rw [if_neg h2]
     by_cases h3:j=gN
     ·subst h3;rw [if_pos rfl]
     ·rw [if_neg h3]
   rw [this]
  rwa [e] at this
 |[],_::_,_,_,_,_,_,_,h,_,_,_,_=>h.elim
 |_::_,[],_,_,_,_,_,_,h,_,_,_,_=>h.elim
 |d::l,c::cs,preL,preN,q,s,bX,eN,⟨hc,hl⟩,hL,hN,hn,hK=>by
  have wG:s.o gL=.loose (.sl 11 tDd (preL++(ddC d c++ddR l cs))) bX:=hL;have tH:s.o gN=.loose (.sl 12 tNt (preN++(ntC (q+1) d (.sl 2 tEd (d.aNB.aNF.flatMap jK))++(zC (q+1) l).flatMap qL))) eN:=hN;rcases hc with rfl|rfl
  ·have aD:(preN++ntC (q+1) d (.sl 2 tEd (d.aNB.aNF.flatMap jK))).length=preN.length+12:=by simp
   refine jrh gL gN g2 rY yX yW l cs (preL++jR d) (preN++ntC (q+1) d (.sl 2 tEd (d.aNB.aNF.flatMap jK))) (q+1) s bX eN (by rw [aD];exact hl) (by rw [wG,aOB];rfl) (by rw [tH,aOB]) hn λdZ ob e1=>?_
   have:=hK dZ ob e1;rw [aOM,<-aOB] at this;exact this
  ·refine jCF gN 0 (preN.length+7) g2 (η:=eN) (sz:=12) (tyo:=tNt) (cs:=d.aNB.aNF.flatMap jK) (by rw [tH];rfl) (by rw [jcl];rfl) hn yW λbC dA _ iH lY hA4=>?_
   rw [tH,jxK];obtain ⟨s1,eO⟩:∃s1,(s.setO gN (Ob.putOwn (.loose (.sl 12 tNt (preN++(ntC (q+1) d (.sl 2 tEd (d.aNB.aNF.flatMap jK))++(zC (q+1) l).flatMap qL))) eN) 0 (.sl 12 tNt (preN++(ntC (q+1) d (.val (eN [preN.length+7]))++(zC (q+1) l).flatMap qL))) dA)).setO g2 (.loose (.sl 2 tEd (d.aNB.aNF.flatMap jK)) bC)=s1:=⟨_,rfl⟩;rw [eO]
   have p0:s1.o gN=.loose (.sl 12 tNt ((preN++ntC (q+1) d (.val (eN [preN.length+7])))++(zC (q+1) l).flatMap qL)) dA:=by
    rw [<-eO,aOB];show (if gN=g2 then _ else if gN=gN then _ else _)=_
    rw [if_neg (Ne.symm yW),if_pos rfl];rfl
   have p1:s1.o g2=.loose (.sl 2 tEd (d.aNB.aNF.flatMap jK)) bC:=by
    rw [<-eO];show (if g2=g2 then _ else _)=_
    rw [if_pos rfl]
   have p3:∀j,j≠gN->j≠g2->s1.o j=s.o j:=λj n1 n2=>by
    rw [<-eO];show (if j=g2 then _ else if j=gN then _ else s.o j)=_
    rw [if_neg n2,if_neg n1]
   have pL:s1.o gL=.loose (.sl 11 tDd (preL++(ddC d (.val (eN [preN.length+7]))++ddR l cs))) bX:=by rw [p3 gL rY (Ne.symm yX)];exact wG
   refine qi gL 0 (preL.length+6) g2 (η:=bX) (aS:=bC) (sz:=11) (tyo:=tDd) (cs:=d.aNB.aNF.flatMap jK) (by rw [pL];rfl) (by rw [jcl];rfl) (.inl (by rw [iH])) p1 yX λgJ sA=>?_
   rw [pL,jyQ];obtain ⟨s2,cZ⟩:∃s2,(s1.setO g2 .none).setO gL (Ob.putOwn (.loose (.sl 11 tDd (preL++(ddC d (.val (eN [preN.length+7]))++ddR l cs))) bX) 0 (.sl 11 tDd (preL++(ddC d (.sl 2 tEd (d.aNB.aNF.flatMap jK))++ddR l cs))) gJ)=s2:=⟨_,rfl⟩;rw [cZ]
   have r0:s2.o gL=.loose (.sl 11 tDd ((preL++jR d)++ddR l cs)) gJ:=by
    rw [<-cZ,aOB];show (if gL=gL then _ else _)=_
    rw [if_pos rfl];rfl
   have r3:∀j,j≠gL->j≠g2->s2.o j=s1.o j:=λj n1 n2=>by
    rw [<-cZ];show (if j=gL then _ else if j=g2 then _ else s1.o j)=_
    rw [if_neg n1,if_neg n2]
   have r2:s2.o g2=.none:=by
    rw [<-cZ];show (if g2=gL then _ else if g2=g2 then _ else _)=_
    rw [if_neg yX,if_pos rfl]
   have rN:=(r3 gN (Ne.symm rY) (Ne.symm yW)).trans p0;have rt:s2.t=s.t:=by rw [<-cZ,<-eO];rfl
   have aD:(preN++ntC (q+1) d (.val (eN [preN.length+7]))).length=preN.length+12:=by simp
   have nD:∀{l:List Dd} {cs:List D} (k:Nat),preN.length+12<=k->Lent l k eN cs->Lent l k dA cs:=by
    intro l
    induction l with
    |nil=>intro cs k _ h;cases cs<;>exact h
    |cons e l ih=>
     intro cs k hk h;cases cs with
     |nil=>exact h
     |cons x cs=>exact ⟨by rw [hA4 (k+7) [] (by omega)];exact h.1,ih (k+12) (by omega) h.2⟩
   refine jrh gL gN g2 rY yX yW l cs _ _ (q+1) s2 gJ dA (by rw [aD];exact nD _ (aOC _) hl) r0 rN r2 λdZ ob e1=>?_
   have:=hK dZ ob (e1.trans sA)
   have e:(λj=>if j=gL then .loose (.sl 11 tDd (preL++jR d++l.flatMap jR)) dZ else if j=gN then ob else s2.o j)=(λj=>if j=gL then .loose (.sl 11 tDd (preL++(d::l).flatMap jR)) dZ else if j=gN then ob else s.o j):=by
    funext j
    by_cases c4:j=gL
    ·rw [if_pos c4,if_pos c4,aOB];rfl
    ·rw [if_neg c4,if_neg c4]
     by_cases c5:j=gN
     ·rw [if_pos c5,if_pos c5]
     ·rw [if_neg c5,if_neg c5]
      by_cases c6:j=g2
      ·rw [c6,r2,hn]
      ·rw [r3 j c4 c6,p3 j c5 c6]
   rw [rt,e];exact this
theorem jp5:∀(l:List Dd) (j:Int) (k:Nat),(zC j l).take k=zC j (l.take k)
 |[],_,_=>by simp [zC]
 |d::l,j,0=>rfl
 |d::l,j,k+1=>by simp [zC,jp5 l (j+1) k]
theorem jp6:∀(l:List Dd) (j:Int) (k:Nat),(zC j l).drop k=zC (j+k) (l.drop k)
 |[],_,_=>by simp [zC]
 |d::l,j,0=>by simp
 |d::l,j,k+1=>by
  rw [zC,List.drop_succ_cons,List.drop_succ_cons,jp6 l (j+1) k]
  congr 1;push_cast;omega
def jfp:C:=iS [aO 2 false] (.seq (iS [aM 18 0,iA 19 (iK 11 [18])] (iD 19 (iS [aO 2 true] .ret) .skip)) (iS [aM 20 0,iA 21 (iK 12 [20]),iA 3 wAM,wAA 3 21] (iS [aM 22 0,iA 23 (iK 12 [22]),iA 4 wAM,wAA 4 23] (iS [aM 24 0,iA 25 (iK 27 [24]),aM 5 25] (iS [aM 26 0,iA 27 (iK 13 [26]),aM 6 27] (.seq (.dreg (tA 0 29 (iM 6) (tA 1 30 (.ia 1 (.t 29) (oI 0)) (tA 2 31 (iL 30) (tA 3 32 (iT 4 3) (tC 33 (iK 36 [31,32]) [] (tC 34 (iK 35 [33]) [] (tA 6 28 (iM 34) (tA 7 35 (iE 28 0) (tA 8 36 (iE 28 1) (tA 9 37 (iE 28 2) (tC 7 wAM [9,8,7,6,3,2,1,0] (.alt (wAA 7 35) [9,8] (tA 12 8 (iM 36) (tA 13 9 (iM 37) .done)) .stop) .stop))))) (tC 7 wAM [3,2,1,0] (tC 34 (iK 35 [33]) [] (tA 6 28 (iM 34) (tA 7 35 (iE 28 0) (tA 8 36 (iE 28 1) (tA 9 37 (iE 28 2) (.alt (wAA 7 35) [9,8] (tA 12 8 (iM 36) (tA 13 9 (iM 37) .done)) .stop))))) .stop) .stop)) (tC 7 wAM [3,2,1,0] (tC 33 (iK 36 [31,32]) [] (tC 34 (iK 35 [33]) [] (tA 6 28 (iM 34) (tA 7 35 (iE 28 0) (tA 8 36 (iE 28 1) (tA 9 37 (iE 28 2) (.alt (wAA 7 35) [9,8] (tA 12 8 (iM 36) (tA 13 9 (iM 37) .done)) .stop))))) .stop) .stop) .stop))))))) (.seq (iS [aM 38 9,aU 39 38,aM 40 39,iB 41 40 false (iM 8),iB 42 40 false (iM 6),iB 43 40 false (.ia 1 (.t 42) (oI 0)),iB 44 40 false (iL 43),iB 45 40 false (iP .neq 3 41 44),iA 46 (iY 40 (oT) (.t 45)),aM 47 46,iB 48 47 false (iT 4 7),iB 49 47 false (iT 4 4),iB 50 47 false (iK 17 [48,49]),iB 51 47 false (iU 50),iA 52 (iY 47 (oT) (.t 51))] (iD 52 (iS [aO 2 false] .ret) .skip)) (iS [iA 53 (.bsl 70 12 0 [] []),aM 10 53] (.seq (iS [aN 11 0] (.blk 0 (.loop (.seq (iS [aM 54 11,aM 55 5,aG 56 55,aP 57 .lss 3 54 56] (iD 57 .skip (.exit 0))) (.seq (.blk 1 (.reg [aM 60 10,aM 61 11,aQ 62 .add 3 61 1,aM 63 5,aM 64 11,aI 65 11 63 64,aT 66 11 65,iA 67 (wAZ [(0,1,.t 62),(1,11,.t 66)]),iA 68 (wA9 [(0,12,.t 67)]),iA 69 (.app 70 12 112 (.t 60) (.t 68)),aM 10 69])) (.reg [aM 58 11,aQ 59 .add 3 58 1,aM 11 59])))))) (iS [aM 70 6,iA 71 (.ia 1 (.t 70) (oI 1)),aL 72 71,aM 73 5,aG 74 73,aQ 75 .add 3 74 1,aP 76 .rem 3 72 75,aM 12 76] (iS [iA 77 (.call 28 []),aM 78 10,iA 79 (iK 37 [77,78]),iA 13 wAM,wAA 13 79] (.seq (.dreg (tA 1 81 (iM 10) (tA 2 82 (iM 12) (tA 3 83 (.sl 12 (.t 81) none (some (.t 82))) (tC 80 (.call 28 []) [3,2,1] (tC 84 (iK 37 [80,83]) [] (tC 14 wAM [3,2,1] (.alt (wAA 14 84) [] .done .stop) .stop) (tC 14 wAM [3,2,1] (tC 84 (iK 37 [80,83]) [] (.alt (wAA 14 84) [] .done .stop) .stop) .stop)) (tC 14 wAM [3,2,1] (tC 80 (.call 28 []) [3,2,1] (tC 84 (iK 37 [80,83]) [] (.alt (wAA 14 84) [] .done .stop) .stop) .stop) .stop)))))) (iS [aM 85 10,aM 86 12,iA 87 (iK 38 [85,86]),aM 15 87] (iS [iA 89 (.call 33 []),aM 90 5,iA 91 (iK 32 [89,90]),aM 88 91,aE 92 88 0,aE 93 88 1,iA 16 wAM,wAA 16 92,aM 17 93] (.seq (.dreg (tA 0 94 (iM 15) (tA 1 95 (iG 94) (tA 2 96 (iM 5) (tA 3 97 (iG 96) (tA 4 98 (iM 12) (tA 5 99 (iP .sub 3 97 98) (tA 6 100 (iP .eql 3 95 99) (tA 7 101 (iM 100) (tB 8 102 101 true (iT 4 14) (tB 9 103 101 true (iM 15) (tB 11 105 101 true (iT 4 16) (.alt (iB 104 101 true (iK 37 [102,103])) [11] (.alt (iB 106 101 true (iK 17 [104,105])) [] (tA 13 107 (iY 101 (.t 106) (oF)) (tA 14 108 (iM 107) (tB 15 109 108 true (iT 4 13) (tB 16 110 108 true (iT 4 16) (.alt (iB 111 108 true (iK 17 [109,110])) [] (tA 18 112 (iY 108 (.t 111) (oF)) (tA 19 2 (iM 112) .done)) .stop))))) .stop) .stop))))))))))))) .ret)))))))))))))))
theorem jiL:fnC Tryz.prog Tryz.f5=some (jfp,[.t 2],113):=by kernel_rfl
theorem juW (c:List UInt8):jW Tryz.prog 5 [.c (ja9 c)] (.c (.val (.bool true))):=by
 refine vr [[1,1,1,1,1,1],[1,1,1,1,1,1,1],[1,1,1,1,1,1,1,1,1,1],[1,1,1,1,1,1,1,1,1,1,1,1],[1,1,1,1,1,1,1,1,1,1,1,1,1],[1,1,1,1,1,1,1,1,1,1,1,1,1,1],[1,1,1,1,1,1,1,1,1,0,1],[1,1,1,1,1,1,1,1,1,0,1,0,0,1,1]] Tryz.func5 jiL (by simp) ?_
 unfold jfp;simp only [C.ghs,C.ghAt,List.foldr];simp only [go_sem];have fS:(ja9 c).toRo=.ro (ja9 c):=rfl;refine jG (p_big c) (by simp only [go_sem,fS]) λfB=>?_
 simp only [go_sem,fS];by_cases rT:(1048576:Int)<(c.length:Int)
 ·simp only [go_sem,rT]
 have hc:c.length<=1048576:=by omega
 simp only [go_sem,rT];obtain ⟨hI,hq⟩:=dY_I c;have xI:=jEu c;have pD:=jkZ c hc;change jW _ _ _ (.agg (jc (dY c))) at pD;obtain ⟨aJG,yH⟩:=dD_ok c;have pL:=jjx c hc;obtain ⟨q0,sP,hq0⟩:=jpN c (k:=0) (by decide)
 obtain ⟨q1,pQ,gC⟩:=jpN c (k:=1) (by decide)
 have pP:=jia c hc;generalize dY c=y at*;generalize dD c=l at*;generalize jkW c=ps at*;have aR:=hI.ok (by omega)
 have aFC:=aR.small;have ht:jn y<=2000000:=by omega
 have hO:=jzB hI xI (by omega)
 obtain ⟨sA,dO⟩:=jxO hO (q:=(q0:Int)) ⟨by omega,by omega⟩
 have pM:=jdp (q0:Int) y ht;have pR:=jk5 (jaA (q0:Int) y) (by omega)
 rw [sA] at pR;generalize jaA (q0:Int) y=tx at*;have cB:=(aNP.1 sP).1;have oV:=(aNP.1 pQ).1;have a0:=jq sP;have i0:=jp cB;have a1:=jq pQ;have i1:=jp oV;simp only [Nat.zero_mul,Nat.one_mul,List.drop_zero,aPH,Nat.reduceAdd] at a0 i0 a1 i1;refine jG (pD) (by simp only [go_sem,fS]) λeH=>?_
 simp only [go_sem,fS];simp only [go_sem,jc];intro b3;refine jG (pD) (by simp only [go_sem,fS]) λaS=>?_
 simp only [go_sem,fS];simp only [go_sem,jc];intro b4;refine jG (pL) (by simp only [go_sem,fS]) λcI=>?_
 simp only [go_sem,fS];refine jm pP λdP=>?_
 simp only [go_sem];refine kv (WkK.of ?_);refine jdf (λk:Nat×jf×jf=>St.of [(4,Bx 400 b4),(5,Hd 2500 (cI 0)),(6,Hd 2700 (dP 0)),(7,Bx 700 k.1),(8,Ni q0),(9,.c (.v (.bool true)))] [(400,kb b4 tYd y.now y.seq y.aNC (aS 2) y.aNE (aS 3)),(2500,.loose (qJ l) (cI 0)),(2700,.loose (jb ps) (dP 0)),(700,kb k.1 tYd y.now y.seq y.aNC k.2.1 y.aNE k.2.2)]) ?_ ?_
 ·simp only [go_sem,cB,a0,i0]
  repeat' first
  |refine And.intro ?_ ?_
  |intro _
  |((refine jG pM (by simp only [go_sem,jc];done) λ_=>?_)<;>simp only [go_sem])
  |((refine jG pR (by simp only [go_sem];done) λ_=>?_)<;>simp only [go_sem,jc])
  all_goals exact ⟨(_,_,_),jt [400,2500,2700,700]⟩
 rintro ⟨b7,g2,g3⟩;simp only [go_sem,cB,a0,i0,aQP];refine jm (jfJ y ht) λbP=>?_
 simp only [go_sem];intro n8;refine kv ?_;generalize cI 0=bX at*;refine WkK.wk (s':=St.of [(5,Hd 2500 bX),(6,Hd 2700 (dP 0)),(10,Hd 5300 n8),(11,Ni 0)] [(2500,.loose (qJ l) bX),(2700,.loose (jb ps) (dP 0)),(5300,.loose (.sl 12 tNt []) n8)]) (jt [2500,2700,5300]) ?_
 refine jwb 2500 l [] 1000000000000 _ bX rfl (by decide) (λj hj=>by
  show (if j=2500 then _ else if j=2700 then _ else if j=5300 then _ else Ob.none)=Ob.none
  rw [if_neg (by omega),if_neg (by omega),if_neg (by omega)]) λxs fam aC eT hη=>?_
 rw [aOQ]
 refine WkK.wk (jc0 [some 2500,some 2700,some 5300] (T:=[(5,Hd 2500 aC),(6,Hd 2700 (dP 0)),(10,Hd 5300 n8),(11,Ni 0)]) (O:=[(2500,.loose (.sl 11 tDd (ddR l (xs.map .val))) aC),(2700,.loose (jb ps) (dP 0)),(5300,.loose (.sl 12 tNt []) n8)]) (b:=1000000000000) (fam:=fam) (by simp only [go_sem,hη]<;>trivial) (λj hj=>by
  show (if 1000000000000<=j then _ else _)=_
  rw [if_pos hj]) (by decide)) ?_
 refine WkK.of ?_;simp only [go_sem]
 refine kg (λi:Nat×jf=>St.ofF [(5,Hd 2500 aC),(6,Hd 2700 (dP 0)),(10,Hd 5300 i.2),(11,Ni i.1)] [(2500,.loose (.sl 11 tDd (ddR l (xs.map .val))) aC),(2700,.loose (jb ps) (dP 0)),(5300,.loose (.sl 12 tNt (ntR 0 (l.take i.1) ((xs.take i.1).map jk9))) i.2)] 1000000000000 fam) (λi=>i.1<=l.length) (λi=>l.length-i.1) (0,n8) (aOL _) (jc0 [some 2500,some 2700,some 5300] (by simp only [go_sem,aOW,List.map_nil,jxI]<;>trivial) (λj hj=>by
  simp only [go_sem];rw [if_pos hj]) (by decide)) ?_
 rintro ⟨i,eN⟩ hi;dsimp only at hi;have f8:=eT.len;have bR:(ddR l (xs.map .val)).length=l.length*11:=jsy (by rw [aPA,f8])
 have sX:(D.sl 11 tDd (ddR l (xs.map .val))).len=l.length:=by
  simp only [D.len,D.cells,D.size,bR];omega
 by_cases aB:i<l.length
 ·have aA:(i:Int)<(l.length:Int):=by omega
  have f6:=qX i;obtain ⟨d,hd⟩:=ja aB;obtain ⟨x,hx⟩:=ja (show i<xs.length by omega)
  have fP:=jCm hd (c:=.val x) (cs:=xs.map .val) (by rw [aQK,hx];rfl)
  have bW:i*11+11<=(ddR l (xs.map .val)).length:=by rw [bR];omega
  have hxo:=eT.one x (aNQ hx);have hw:=kx i
  have fX:(ntR 0 (l.take i) ((xs.take i).map jk9)).length/12=i:=by
   rw [jxJ (by rw [aPA,aNV,aNV,f8]),aNV];omega
  simp only [go_sem,sX,aA,aB,f6,fP,bW,hw,hxo];intro aAV;have dI:(ntR 0 (l.take i) ((xs.take i).map jk9)).length/12+1<=maxLen:=by rw [fX];unfold maxLen;omega
  have eB:((ntR 0 (l.take i) ((xs.take i).map jk9)).length/12+1)*112<=140737488355328:=by rw [fX];omega
  have fR:ntR 0 (l.take (i+1)) ((xs.take (i+1)).map jk9)=ntR 0 (l.take i) ((xs.take i).map jk9)++ntC (((i+1:Nat):Int)) d (jk9 x):=by
   rw [aOA,hd,Option.toList_some,aOA (l:=xs),hx,Option.toList_some,aPZ,aPB,List.map_nil,jts 0 d (jk9 x) (by rw [aPA,aNV,aNV,f8]),aNV,aPD (by omega)]
   rw [show (0:Int)+(i:Int)+1=((i+1:Nat):Int) by push_cast;omega]
  have hOO:∀eG:jf,∀j,1000000000000<=j->∀s:St,s=s:=λ_ _ _ _=>rfl
  refine jo2 (λeG=>St.ofF [(5,Hd 2500 aC),(6,Hd 2700 (dP 0)),(10,Hd 5300 eG),(11,Ni i)] [(2500,.loose (.sl 11 tDd (ddR l (xs.map .val))) aC),(2700,.loose (jb ps) (dP 0)),(5300,.loose (.sl 12 tNt (ntR 0 (l.take (i+1)) ((xs.take (i+1)).map jk9))) eG)] 1000000000000 fam) dI eB ?_
   (λeG=>jc0 [some 2500,some 2700,some 6900] (by rw [fR];simp only [go_sem]<;>trivial) (λj hj=>by
    simp only [go_sem]
    repeat rw [if_neg (by omega)]
    rw [if_pos hj]) (by decide))
   (λeG=>jc0 [some 2500,some 2700,some 6900] (by rw [fR];simp only [go_sem]<;>trivial) (λj hj=>by
    simp only [go_sem]
    repeat rw [if_neg (by omega)]
    rw [if_pos hj]) (by decide)) ?_
  ·simp only [jic _ hxo,jkn];rfl
  intro eG;refine WkK.of ?_;simp only [go_sem,hw]
  exact ⟨(i+1,eG),aB,jc0 [some 2500,some 2700,some 5300] (by simp only [go_sem]<;>trivial) (λj hj=>by
   simp only [go_sem];rw [if_pos hj]) (by decide),by dsimp only;omega⟩
 ·have aA:¬(i:Int)<(l.length:Int):=by omega
  obtain rfl:i=l.length:=by omega
  rw [show xs.take l.length=xs from aNU (by omega),aPP]
  simp only [go_sem,sX,aA];refine kv ?_
  refine WkK.wk (jc0 [some 2500,some 2700,some 5300] (T:=[(5,Hd 2500 aC),(6,Hd 2700 (dP 0)),(10,Hd 5300 eN)]) (O:=[(2500,.loose (.sl 11 tDd (ddR l (xs.map .val))) aC),(2700,.loose (jb ps) (dP 0)),(5300,.loose (.sl 12 tNt (ntR 0 l (xs.map jk9))) eN)]) (b:=1000000000000) (fam:=fam) (by simp only [go_sem]<;>trivial) (λj hj=>by
   simp only [go_sem];rw [if_pos hj]) (by decide)) ?_
  refine jnx 2500 5300 (by decide) l xs fam 1000000000000 [] [] 0 _ aC eN eT rfl rfl (by decide) (by decide) (λj hj=>by
   simp only [go_sem];rw [if_pos hj]) λiR iJ cs sW _ rZ hN2=>?_
  have cV:(ddR l cs).length=l.length*11:=jsy sW.len
  have xT:(D.sl 11 tDd (ddR l cs)).len=l.length:=by
   simp only [D.len,D.cells,D.size,cV];omega
  refine WkK.wk (s':=St.of [(5,Hd 2500 iR),(6,Hd 2700 (dP 0)),(10,Hd 5300 iJ)] [(2500,.loose (.sl 11 tDd (ddR l cs)) iR),(2700,.loose (jb ps) (dP 0)),(5300,.loose (ql (zC 0 l)) iJ)]) (jt [2500,2700,5300] (by simp only [go_sem,rZ,hN2]<;>trivial)) ?_
  refine WkK.of ?_
  obtain ⟨K,hK,hKl⟩:∃K:Nat,((q1:Int)).tmod ((l.length:Int)+1)=(K:Int)/\K<=l.length:=by
   rw [aPT (by omega)]
   have h1:=Int.emod_nonneg (q1:Int) (show ((l.length:Int)+1)≠0 by omega)
   have h2:=Int.emod_lt_of_pos (q1:Int) (show 0<((l.length:Int)+1) by omega)
   exact ⟨((q1:Int)%((l.length:Int)+1)).toNat,by omega,by omega⟩
  have e9:IntKind.i64.wrap ((l.length:Int)+1)=(l.length:Int)+1:=vF;have aJ:¬((l.length:Int)+1=0):=by omega
  have hwK:IntKind.i64.wrap ((l.length:Int)-(K:Int))=((l.length-K:Nat):Int):=by rw [kS (by omega) (by omega)];omega
  simp only [go_sem,xT,oV,a1,i1,e9,hK,aJ];have hN:jn newYd<=1100000:=by decide
  have dB:ji0 l<=2000000:=by have:=jqH l λd hd=>(yH d hd).2;omega
  have wY:jcv (zC 0 l)<=2000000:=by have:=jgr l 0 λd hd=>(yH d hd).2;omega
  have dV:jcv ((zC 0 l).take K)<=2000000:=by
   rw [jp5];have:=jgr (l.take K) 0 λd hd=>(yH d (aQM hd)).2
   rw [aNV] at this;omega
  have oD:jcv ((zC 0 l).drop K)<=2000000:=by
   rw [jp6];have:=jgr (l.drop K) (0+K) λd hd=>(yH d (aQT hd)).2
   rw [aOI] at this;omega
  have hFI:=(jEm l YdI.new).2
  have hsY:jn (doF newYd l)<=2000000:=by
   have h1:=((jEm l YdI.new).1.ok (by have h2:newYd.seq=1:=rfl;omega)).small
   omega
  have hsH:=jh3 ((zC 0 l).take K) newYd hN;have e1:=jDt newYd l 0;have e2:=jAo newYd l 0 K;have e3:=jmM l K 0 (by omega) (by omega) hKl
  rw [Int.zero_add] at e3;have hNl:=jtp l 0;have hRl:((zC 0 l).drop K).length=l.length-K:=by rw [aOI,hNl]
  have pA:=jcf newYd (zC 0 l) hN wY;have pH:=jcf newYd ((zC 0 l).take K) hN dV;have pG:=jcf (jo4 newYd ((zC 0 l).take K)) ((zC 0 l).drop K) hsH oD;have pS:=jpY (zC 0 l) (K:Int) wY;have pB:=jpR newYd l hN dB;rw [e1] at pA;rw [e2] at pG;rw [e3] at pS;generalize doF newYd l=Y at*;generalize jo6 newYd l=RS at*;generalize jo4 newYd ((zC 0 l).take K)=H at*;refine jm jdo λsE=>?_
  simp only [go_sem];refine jm pA λpJ=>?_
  simp only [go_sem,jc];intro b13;refine kv ?_;refine WkK.wk (s':=St.of [(5,Hd 2500 iR),(10,Hd 5300 iJ),(12,Ni K),(13,Bx 1300 b13)] [(2500,.loose (.sl 11 tDd (ddR l cs)) iR),(5300,.loose (ql (zC 0 l)) iJ),(1300,kb b13 tYd Y.now Y.seq Y.aNC (pJ 2) Y.aNE (pJ 3))]) (jt [2500,5300,1300]) ?_;refine WkK.of ?_;have pF:(0:Int)<=(K:Int):=by omega
  have hKn:K<=(zC 0 l).length:=by omega
  refine jdf (λk:Nat×jf×jf=>St.of [(5,Hd 2500 iR),(10,Hd 5300 iJ),(12,Ni K),(13,Bx 1300 b13),(14,Bx 1400 k.1)] [(2500,.loose (.sl 11 tDd (ddR l cs)) iR),(5300,.loose (ql (zC 0 l)) iJ),(1300,kb b13 tYd Y.now Y.seq Y.aNC (pJ 2) Y.aNE (pJ 3)),(1400,kb k.1 tYd H.now H.seq H.aNC k.2.1 H.aNE k.2.2)]) ?_ ?_
  ·simp only [go_sem,hKn,pF,aNW,aOL]
   repeat' first
   |refine And.intro ?_ ?_
   |intro _
   |((refine jG jdo (by simp only [go_sem];done) λ_=>?_)<;>simp only [go_sem,jc])
   |((refine jG pH (by simp only [go_sem,jc,true_and,and_true];exact ⟨ql (zC 0 l),iJ,ql (zC 0 l),by simp only [go_sem],rfl,rfl,rfl,rfl,by decide,by rw [jm5];omega,by rw [jur];simp⟩) λ_=>?_)<;>simp only [go_sem,jc])
   all_goals exact ⟨(_,_,_),jt [2500,5300,1300,1400]⟩
  rintro ⟨b14,g4,g5⟩;simp only [go_sem];refine jm pS λpI=>?_
  simp only [go_sem];generalize hRR:(zC 0 l).drop K=R at*;refine kv ?_;refine WkK.wk (s':=St.of [(5,Hd 2500 iR),(12,Ni K),(13,Bx 1300 b13),(14,Bx 1400 b14),(15,Hd 8700 (pI 0))] [(2500,.loose (.sl 11 tDd (ddR l cs)) iR),(5300,.loose (ql (zC 0 l)) iJ),(1300,kb b13 tYd Y.now Y.seq Y.aNC (pJ 2) Y.aNE (pJ 3)),(1400,kb b14 tYd H.now H.seq H.aNC g4 H.aNE g5),(8700,.loose (ql R) (pI 0))]) (jt [2500,5300,1300,1400,8700]) ?_;refine jrh 2500 5300 777 (by decide) (by decide) (by decide) l cs [] [] 0 _ iR iJ sW rfl rfl rfl λwJ ob yT=>?_
  rw [aOQ];refine WkK.wk (s':=St.of [(5,Hd 2500 wJ),(12,Ni K),(13,Bx 1300 b13),(14,Bx 1400 b14),(15,Hd 8700 (pI 0))] [(2500,.loose (qJ l) wJ),(1300,kb b13 tYd Y.now Y.seq Y.aNC (pJ 2) Y.aNE (pJ 3)),(1400,kb b14 tYd H.now H.seq H.aNC g4 H.aNE g5),(8700,.loose (ql R) (pI 0))]) (jt [2500,1300,1400,8700] (by simp only [go_sem,yT]<;>trivial)) ?_
  refine WkK.of ?_;simp only [go_sem];refine jm jkX λwI=>?_
  simp only [go_sem];refine jm pB ληu=>?_
  simp only [go_sem,jc];intro b16;have eQ:((R.length:Int)==((l.length-K:Nat):Int))=true:=by rw [hRl];simp
  simp only [go_sem,hwK,eQ];refine jm pG λu7=>?_
  simp only [go_sem,jc];refine jm (jfJ Y hsY) λbC=>?_
  simp only [go_sem];refine jm (jfJ Y hsY) λcO=>?_
  simp only [go_sem]
open Go.RowKit Go.ChangeShapes Go.WideShapes Go.Deep Go.ChangeAt
theorem rByte:ReadsAs Tryz.prog 5 (λu:UInt8=>[qe u]) (λ_=>True):=by
 intro H enc w base spare lT n cs y hy;obtain ⟨i,rfl,_,hw⟩:=DataW.trod_int (k:=.u8) (by kernel_rfl) hy
 have hi:0<=i/\i<=255:=by simpa [Lit.wf,IntKind.min,IntKind.max,IntKind.signed,IntKind.bits] using hw
 refine ⟨UInt8.ofNat i.toNat,trivial,[],?_⟩
 have he:((UInt8.ofNat i.toNat).toNat:Int)=i:=by
  rw [UInt8.toNat_ofNat'];omega
 have hb:qe (UInt8.ofNat i.toNat)=D.val (.int .u8 i):=by simp only [qe];rw [he]
 dsimp only;rw [hb];exact RepL.val_ RepL.nil_
theorem jFU:ReadsAs Tryz.prog 22 (λl=>[ja9 l]) (λl=>∀e∈l,True):=by
 have h:=jAq (size:=1) (ty:=5) (P:=Tryz.prog) (t:=22) (e:=5) (by kernel_rfl) rByte (by kernel_rfl) (λ_=>rfl) (by decide)
 refine h.map id (λl=>?_) (λ_ h=>h)
 have e:l.flatMap (λu=>[qe u])=l.map qe:=by
  induction l with
  |nil=>rfl
  |cons x l ih=>simp only [aOM,aPB,ih];rfl
 simp only [ja9,id];rw [e]
open Go.ChangeShapes Go.WideShapes Go.ChangeAt Go.RowKit
theorem own:ownKnob Tryz.prog.godebug=none:=by kernel_rfl
theorem laid:laidOutB Tryz.prog=true:=by kernel_rfl
section
variable {H:Type} {enc:TypeId×Value->H} {P:Program}
theorem juU {f:Func} {s:ChangeSpec} {apart jU rW again:Bool} {W W':World} {args:Array Value} {v:Value} {ds gs:List (DataW H)} {before pa pv:List MemPlace}
 (hW:DataW.Whole enc P f.params.toList s.vars apart W args.toList ds gs before)
 (rI:∀(b:Nat) (sp:Nat->Bool) (hd:Bool),DataW.TrodAll enc P W' b sp hd f.resultTypes.toList (v.resultList f.resultTypes.size) (s.fn H (ds++gs)).results [])
 (cM:∀sp:Nat->Bool,(∀p∈before,sp p.block=true)->DataW.TrodAll enc P W' 0 sp true f.params.toList args.toList (s.fn H (ds++gs)).args pa)
 (sI:∀sp:Nat->Bool,(∀p∈before,sp p.block=true)->DataW.TrodVars enc P W' sp s.vars (s.fn H (ds++gs)).vars pv)
 (sO:before=pa++pv) (hb:Below W.heap.size W W')
 (aR:∀(j:Nat) (t:TypeId) (r:Value),f.resultTypes[j]?=some t->(v.resultList f.resultTypes.size)[j]?=some r->Value.okWide P W' .any 0 t r):
 s.post enc P f apart jU rW again W args v W':=by
 have aB:∀p∈before,p.block<W.heap.size:=λp hp=>hW.lt p hp
 have oL:∀p∈before,(λb=>decide (b<W.heap.size)) p.block=true:=λp hp=>by simpa using aB p hp
 refine ⟨ds,gs,before,[],pa,pv,hW,rI _ _ _,cM _ oL,sI _ oL,World.keptBut_mono (λp hp=>⟨hp,?_⟩) (hb.frame (· ∈before)),λ_=>?_⟩
 ·rw [sO,aNT] at hp
  exact Or.inr hp
 ·obtain ⟨_,_,_,_,_,hz,hn⟩:=hW
  refine ⟨aR,_,_,([]++pa)++pv,⟨[]++pa,pv,trodAll_append (cM _ (λ_ _=>rfl)) (rI _ _ _),sI _ (λ_ _=>rfl),rfl,?_,?_⟩,?_⟩
  ·intro b off hp
   have bW:MemPlace.cell b off∈before:=by rw [sO];simpa using hp
   rw [hb.frozen (aB _ bW)];exact hz b off bW
  ·intro ha
   have:=hn ha;rw [sO] at this;simpa using this
  ·intro p hp _
   rw [sO];simpa using hp
theorem jzm {t:TypeId} (hl:laidOutB P=true) (hr:P.readableRec t=true) (bG:t<P.types.size) {W W':World} {v:Value} {d:DataW H} {ps:List MemPlace} {sp:Nat->Bool}
 (h:DataW.Trod enc P W 0 (λ_=>true) true t v d ps) (hb:Below W.heap.size W W') (aB:∀x∈ps,x.block<W.heap.size) (lM:∀x∈ps,sp x.block=true):
 DataW.Trod enc P W' 0 sp true t v d ps:=
 WideElems.Trod_stays hl hr bG h (λx hx=>hb.same (aB x hx)) (λx hx=>lM x hx)
end
theorem jDD {H:Type} {enc:TypeId×Value->H} {P:Program} {t e:TypeId} {α:Type} {E:α->D} {X:α->Prop} (nY:ReadsAs P t (λx=>[E x]) X) (ht:P.underlying t=some (.slice e))
 {W:World} {v:Value} {d:DataW H} {p:List MemPlace} {base:Nat} {spare:Nat->Bool} {lT:Bool} {r:_root_.Go.Reach} {b0:Nat} (hv:Value.okWide P W r b0 t v) (h:DataW.Trod enc P W base spare lT t v d p):
 ∃x,X x/\∃S,Rep W false (E x) v S:=by
 obtain ⟨a,len,cap,rfl⟩:=okWide_slice ht hv;obtain ⟨fuel,hf⟩:=h;obtain ⟨x,hx,S,hr⟩:=nY _ _ _ _ _ _ _ _ _ hf;obtain ⟨u,us,S1,S2,h1,rfl,h2,rfl,rfl⟩:=hr;have cW:[Value.slice a len cap]=[u]:=h1;cases cW;exact ⟨x,hx,S1,h2⟩
theorem jxY {P:Program} {f:FuncId} {vs:List View} {args:List Value} {w:World} (h:jW P f vs (.c (.val (.bool true)))) (hv:jab w vs args):
 Calls P f args.toArray w λe w'=>e=.returned (.bool true)/\Below w.heap.size w w':=
 (h.2 w args hv).mono λe w' ⟨v,S,he,hr,_,hb⟩=>⟨by rw [he,show v=_ from hr.1],hb⟩
end Go.Proofs.YtcehjhiglmifjaaGreat
namespace Go.Proofs.YtcehjhiglmifjaaGreat.lawMarks
open Go.ChangeShapes Go.WideShapes Go.ChangeAt Go.RowKit
set_option maxRecDepth 100000 in
theorem lifted (os:Os) (started:os.Started) (H:Type) (enc:TypeId×Value->H):
 ReturnsInHanded {} Tryz.checked os 5 .any (Rows.fnMarksSpec.pre6 enc Tryz.prog Tryz.f5 Rows.fnMarksRow.domain false) (Rows.fnMarksSpec.post enc Tryz.prog Tryz.f5 false true false false):=by
 refine returnsInHanded_of_change (C:=Tryz.checked) own started (by kernel_rfl) Tryz.func5
  (ChangeSpec.witness6 (enc:=enc) (C:=Tryz.checked) false ⟨#[],#[.slice none 0 0],[]⟩ 8 (by kernel_rfl) (by kernel_rfl) (by kernel_rfl) (by kernel_rfl)) ?_
 intro W base args ds gs before sJ hW aJV _;have rE:∀(j:Nat) t v,Tryz.f5.params[j]?=some t->args[j]?=some v->Value.okWide Tryz.prog W .any base t v:=sJ;have hW':=hW;obtain ⟨p,q,hA0,hV,rfl,s8,aW⟩:=hW;have hA:DataW.TrodAll enc Tryz.prog W 0 (λ_=>true) true Tryz.f5.params.toList args.toList ds p:=hA0
 rw [Tryz.params5] at hA rE;obtain ⟨v0,vs0,d0,ds0,p0,q0,cM,rfl,rfl,h0,r0⟩:=trodAll_cons hA;obtain ⟨rfl,rfl,rfl⟩:=trodAll_nil r0;obtain rfl:args=#[v0]:=by cases args;simp_all
 obtain ⟨rfl,rfl⟩:=trodVars_none hV;obtain ⟨b0,-,S0,wS⟩:=jDD jFU Tryz.underlying22 (rE 0 _ v0 rfl rfl) h0;clear hA0 sJ;simp only [aOP] at hW';refine (jxY (args:=[v0]) (juW b0) ⟨_,_,rfl,⟨_,wS⟩,rfl⟩).mono λe W' ⟨he,hb⟩=>?_
 subst he;have aCO:∀x∈p0,x.block<W.heap.size:=λx hx=>hW'.lt x (by simp [hx])
 exact ⟨_,rfl,juU (pa:=(p0++[])) (pv:=[]) hW' (λ_ _ _=>trodAll_mk1 (shut_bool Tryz.underlying4 _)) (λsp lM=>(trodAll_cons_mk (jzm laid (by kernel_rfl) (aOY (by kernel_rfl)) h0 hb aCO (λx hx=>lM x (by simp [hx]))) trodAll_mk0)) (λ_ _=>rfl) (by simp) hb (ok_one (by kernel_rfl) rfl (okWide_bool_mk Tryz.underlying4 _))⟩
theorem proved:Rows.FnMarksSaid:=
 OpenClaim.holds_of_wide 5 Tryz.f5 rfl rfl rfl rfl rfl rfl rfl ⟨rfl,rfl,rfl,rfl,rfl⟩ rfl rfl rfl rfl rfl (by as_aux_lemma=>kernel_rfl) Tryz.func5 (by unfold joinedFacts;(repeat' (with_reducible refine Bool.and_eq_true_iff.mpr ⟨?_,?_⟩));all_goals (as_aux_lemma=>kernel_rfl))
  (aOY (by as_aux_lemma=>kernel_rfl)) (by unfold Func.isWrapper;first|(rw [if_pos (by decide+kernel)];kernel_rfl)|(rw [if_neg (by decide+kernel)];exact ⟨rfl,rfl⟩))
  (λos started H enc _=>lifted os started H enc)
end Go.Proofs.YtcehjhiglmifjaaGreat.lawMarks
