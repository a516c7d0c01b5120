/- Parts. -/
import Derived.Test.YtcehjhiglmifjaaGreatQSub
set_option linter.all false
set_option maxHeartbeats 8000000
set_option maxRecDepth 100000
namespace Go.Proofs.YtcehjhiglmifjaaGreat
open Go.RowKit Go.Sort
theorem jx8 {P:Program} {f:FuncId} {args:List AV} {o:Nat->Ob} {R:AV->(Nat->Ob)->Prop} (h:Inl P f args o λav o'=>WkK (.only o') λs'=>R av s'.o):Inl P f args o R:=
 ⟨h.1,λB w F xs h1 h2=>(h.2 B w F xs h1 h2).mono λe w' ⟨v,av,o',F',k1,k2,k3,k4⟩=>by
  obtain ⟨s',F2,k5,k6⟩:=k4 _ _ _ _ _ _ k2;exact ⟨v,av,s'.o,F2,k1,⟨k5.below,k5.hB,k5.df,k5.sz,λ_=>trivial,k5.ob,k5.fr,k5.dj⟩,k3,k6⟩⟩
def frP (was:List Tk) (v:Int):Bool:=!decide (v∈qV 2 was)
theorem jAG {s:Int} {ts:List Tk} {j:Nat}:(j:Int)∈qV s ts↔j<ts.length/\(stT ts (j:Int)==s)=true:=by
 simp only [qV,zi,aPS,aPM,aQX];constructor
 ·rintro ⟨i,h,he⟩
  obtain rfl:i=j:=by omega
  exact h
 ·exact λh=>⟨j,h,rfl⟩
theorem jGF (was ts:List Tk):(qV 2 ts).filter (frP was)=zj was ts ts.length:=by
 simp only [qV,zi,zj,List.filter_map,List.filter_filter]
 congr 1
 refine List.filter_congr λj _=>?_
 have h:frP was (j:Int)=!(decide (j<was.length)&&(stT was (j:Int)==2)):=by
  simp only [frP,jAG]
  congr 1
  cases (stT was (j:Int)==2)<;>simp
 simp only [Function.comp,h,jrf];rw [Bool.and_comm]
theorem jD9 {l:List Int} {k:Nat} {v:Int} (p:Int->Bool) (h:l[k]?=some v):(l.take (k+1)).filter p=(l.take k).filter p++(if p v then [v] else []):=by
 rw [aOA,h,aQA];cases hp:p v<;>simp [hp]
def jhw:C:=iS [aM 10 0,aF 11 0 10,aF 12 3 11,aL 13 12,aM 14 1,aI 15 8 13 14,aT 16 8 15,iA 17 (.call 47 [.t 16,oI 2]),aM 6 17] (iS [aM 18 2,aM 19 0,aF 20 0 19,aF 21 3 20,aL 22 21,aM 23 1,aI 24 8 22 23,iA 25 (.callv (.t 18) [.t 24])] (iS [iA 7 (.mov (.c (.slice none 0 0)))] (.seq (iS [aM 26 0,aF 27 0 26,aF 28 3 27,aL 29 28,aM 30 1,aI 31 8 29 30,aT 32 8 31,iA 33 (.call 47 [.t 32,oI 2]),aG 34 33,aN 35 0] (.blk 0 (.loop (iS [aP 36 .lss 3 35 34] (.seq (iD 36 .skip (.exit 0)) (.seq (.blk 1 (iS [aI 37 1 33 35,aL 38 37,aM 9 38] (iS [aM 39 6,aM 40 9,iA 41 (iK 80 [39,40]),aU 42 41] (iD 42 (.reg [aM 43 7,aM 44 9,iA 45 (wA1 [(0,1,.t 44)]),iA 46 (wBA 43 45),aM 7 46]) .skip)))) (.reg [aQ 47 .add 3 35 1,aM 35 47]))))))) (.reg [aM 48 0,aM 49 0,aF 50 0 49,aF 51 3 50,aL 52 51,aM 53 1,aI 54 8 52 53,aT 55 8 54,aM 56 7,iA 57 (iK 111 [48,55,56])]))))
theorem jjW:fnC Tryz.prog Tryz.f116=some (jhw,[],58):=by kernel_rfl
theorem jet {k b:Nat} {y:Yd} {r r2:Rn} {f:FuncId} {caps:List A0} {H:Ob} (hr:y.aNE[k]?=some r) (nD:r2.aNA.length=r.aNA.length) (aCS:r.aNA.length<=12) (h4:y.aNC.length=4) (hq:1<=y.seq/\y.seq<=4000000000) (ht:jn y<=2000000)
 (hc:jzy Tryz.prog f caps H k y r2) {o:Nat->Ob} {e2 e3:jf} (mX:o 90=kb b tYd y.now y.seq y.aNC e2 y.aNE e3) (nR:o 91=H):
 Inl Tryz.prog 116 [Bx 90 b,Ni k,.fn f caps] o λav o'=>av=.tup []/\(∃e2' e3',o' 90=kb b tYd (kN y k r2).now (kN y k r2).seq (kN y k r2).aNC e2' (kN y k r2).aNE e3')/\o' 91=H/\o' 92=o 92/\o' 93=o 93/\o' 94=o 94/\o' 95=o 95/\o' 96=o 96:=by
 refine jx8 ?_;refine jlf (β:=5000000) [[1,0],[1,1,1,1]] Tryz.func116 jjW (by simp) ?_
 unfold jhw;simp only [C.ghs,C.ghAt,List.foldr];have hk:=(aNP.1 hr).1;have bJ:=qX k;simp only [go_sem,mX,aOO,hk,bJ,jmz hr,jih hr,je,jd];refine jG (qB r 2 (by omega)) (by simp only [go_sem,mX,je,jd,zw hr,zu hr]) λtK=>?_
 simp only [go_sem];refine kv ?_;refine WkK.wk (s':=St.of [(0,Bx 90 b),(1,Ni k),(2,.fn f caps),(6,Hd 97 (tK 0))] [(90,kb b tYd y.now y.seq y.aNC e2 y.aNE e3),(91,o 91),(92,o 92),(93,o 93),(94,o 94),(95,o 95),(96,o 96),(97,.loose (jb (qV 2 r.aNA)) (tK 0))]) (jt [90,91,92,93,94,95,96,500001700] (by simp only [go_sem,mX,jM,jpm]<;>trivial)) ?_
 refine WkK.of ?_;simp only [go_sem,aOO,hk,bJ];refine jw1 (f:=f) (caps:=caps) (by simp only [go_sem]) (hc _ b e2 e3 (by simp only [go_sem]) (by simp only [go_sem];exact nR)) ?_
 rintro _ o1 ⟨rfl,j90,j91,j92,j93,j94,j95,j96,j97⟩ η;simp only [go_sem] at j92 j93 j94 j95 j96 j97;have cR:(y.aNE.set k r2)[k]?=some r2:=aNX hk;have pW:k<(y.aNE.set k r2).length:=by rw [aOE];exact hk
 simp only [go_sem,j90,aOO,pW,bJ,jmz cR,jih cR,je,jd];refine jG (qB r2 2 (by omega)) (by simp only [go_sem,j90,je,jd,zw cR,zu cR]) λsF=>?_
 simp only [go_sem]
 have nC:∀v:Int,v∈qV 2 r2.aNA->0<=v:=λv hv=>by
  simp only [qV,zi,aPS] at hv;obtain ⟨a,_,rfl⟩:=hv;omega
 have hfn:=jGF r.aNA r2.aNA;have p9:(qV 2 r2.aNA).length<=12:=aPC (vx _ _ _) (by omega)
 have hBl:(qV 2 r.aNA).length<=12:=aPC (vx _ _ _) aCS;generalize qV 2 r2.aNA=L2 at*;refine qY (λi:Nat×jf=>St.of [(0,Bx 90 b),(1,Ni k),(6,Hd 97 (tK 0)),(7,Hd 7 i.2),(33,Hd 33 (sF 0)),(34,Ni L2.length),(35,Ni i.1)] [(90,kb b tYd y.now y.seq y.aNC e2 (y.aNE.set k r2) e3),(91,H),(92,o 92),(93,o 93),(94,o 94),(95,o 95),(96,o 96),(97,.loose (jb (qV 2 r.aNA)) (tK 0)),(7,.loose (jb ((L2.take i.1).filter (frP r.aNA))) i.2),(33,.loose (jb L2) (sF 0))]) (λi=>i.1<=L2.length) (λi=>L2.length-i.1) (0,jbL) (ze [some 90,some 91,some 92,some 93,some 94,some 95,some 96,some 97,none,some 500003300] (by simp only [go_sem,j90,j91,j92,j93,j94,j95,j96,j97,aOW,List.filter_nil,jM]<;>trivial)) ?_
 rintro ⟨i,bF⟩ hi;dsimp only at hi;by_cases aB:i<L2.length
 ·have aA:(i:Int)<L2.length:=by omega
  obtain ⟨v,hv⟩:=ja aB;have hw:=kx i;have fC:=jD9 (frP r.aNA) hv;have hFl:((L2.take i).filter (frP r.aNA)).length<=12:=aPC (aOT _ _) (by rw [aNV];omega)
  generalize (L2.take i).filter (frP r.aNA)=F at*;have m1:F.length+1<=maxLen:=zy;have m2:(F.length+1)*8<=140737488355328:=by omega
  simp only [go_sem,aA,aB,jq hv,jp aB];refine jm (jk8 (qV 2 r.aNA) v (by omega)) λη=>?_
  simp only [go_sem];cases hd:decide (v∈qV 2 r.aNA)
  ·have hp:frP r.aNA v=true:=by rw [frP,hd];rfl
   rw [hp,if_pos rfl] at fC;simp only [go_sem,m1,m2,kT,hw];intro eH l6;exact qf (i+1,l6) (jt [90,91,92,93,94,95,96,97,500004600,33] (by simp only [go_sem,fC,jM]<;>trivial))
  ·have hp:frP r.aNA v=false:=by rw [frP,hd];rfl
   rw [hp,if_neg (by decide),aOP] at fC
   simp only [go_sem,hw];exact qf (i+1,bF) (jt [90,91,92,93,94,95,96,97,7,33] (by simp only [go_sem,fC,jM]<;>trivial))
 have aA:¬(i:Int)<L2.length:=by omega
 rw [aNU (by omega),hfn]
 simp only [go_sem,aA];refine kv ?_;have hR:jE (y.aNE.set k r2)=.sl 8 tRn (jcb y.aNE k (je r2)):=(jnS hk).symm;have hid:(zj r.aNA r2.aNA r2.aNA.length).length<=12:=aPC (jen _ _ _) (by omega)
 have uV:kN y k r2=⟨y.now,(zk r2.aNB.aNI r2.id (zj r.aNA r2.aNA r2.aNA.length) ((y.aNC[shN r2.id]?).getD default,y.seq)).2,y.aNC.set (shN r2.id) (zk r2.aNB.aNI r2.id (zj r.aNA r2.aNA r2.aNA.length) ((y.aNC[shN r2.id]?).getD default,y.seq)).1,y.aNE.set k r2⟩:=by rw [kN,hr,aNZ];rfl
 generalize zj r.aNA r2.aNA r2.aNA.length=ids at*;refine WkK.wk (s':=St.of [(0,Bx 90 b),(1,Ni k),(7,Hd 97 bF)] [(90,vv b tYd y.now y.seq y.aNC e2 (jE (y.aNE.set k r2)) e3),(91,H),(92,o 92),(93,o 93),(94,o 94),(95,o 95),(96,o 96),(97,.loose (jb ids) bF)]) (jt [90,91,92,93,94,95,96,7] (by simp only [go_sem,jM]<;>trivial)) ?_
 rw [hR];refine jc1 90 3 (k*8+5) 98 (η:=e3) (cs:=r2.aNB.aNF.flatMap jK) rfl (jbd hk 5 (by simp [je,jd])) rfl (by decide) λbC dA pC iH lY=>?_
 rw [jay hk 5 (by simp [je,jd])]
 refine jc1 90 3 (k*8+7) 99 (η:=dA) (cs:=r2.aNA.flatMap jH) rfl (jbd hk 7 (by simp [je,jd])) rfl (by decide) λcO gJ sA dO mF=>?_
 rw [jay hk 7 (by simp [je,jd])]
 rw [<-iH,<-dO];rw [<-iH] at lY;rw [<-dO] at mF;have hV:((je r2).set 5 (.val (bC []))).set 7 (.val (cO []))=rnV r2 (bC []) (cO []):=rfl;rw [hV];obtain ⟨dR,pZ⟩:∃dR,D.sl 8 tRn (jcb y.aNE k (rnV r2 (bC []) (cO [])))=dR:=⟨_,rfl⟩;refine WkK.wk (s':=St.of [(0,Bx 90 b),(1,Ni k),(7,Hd 97 bF)] [(90,vv b tYd y.now y.seq y.aNC e2 (.sl 8 tRn (jcb y.aNE k (rnV r2 (bC []) (cO [])))) gJ),(91,H),(92,o 92),(93,o 93),(94,o 94),(95,o 95),(96,o 96),(97,.loose (jb ids) bF),(98,.loose (js r2.aNB.aNF) bC),(99,.loose (jx r2.aNA) cO)]) (jt [90,91,92,93,94,95,96,97,98,99] (by simp only [go_sem,jM,js,jx]<;>trivial)) ?_
 refine WkK.of ?_;have lR:(jcb y.aNE k (rnV r2 (bC []) (cO []))).length=y.aNE.length*8:=jkk hk rfl;have mV:((jcb y.aNE k (rnV r2 (bC []) (cO []))).drop (k*8)).take 8=rnV r2 (bC []) (cO []):=jxc hk rfl;have wC:k*8+8<=y.aNE.length*8:=by omega
 have fN:(D.sl 8 tRn (jcb y.aNE k (rnV r2 (bC []) (cO [])))).len=y.aNE.length:=jpD hk rfl;simp only [go_sem,lR,fN,mV,wC,hk,bJ,aOO];refine kZ (qo (β:=8000000) Tryz.func111 jdC (by simp) ?_)
 unfold jdT;simp only [go_sem,lY,mF];intro b74;refine jm (jeX r2.id) λη=>?_
 simp only [go_sem];obtain ⟨fR,rG⟩:=jC0 r2.id;rw [fR];rw [uV];generalize shN r2.id=n at*;have hn:n<y.aNC.length:=by omega
 have lZ:=qX n;obtain ⟨l,hl⟩:=ja hn;have eQ:=zo ht (aNQ hl);rw [hl,aNZ];rw [pZ];refine qY (λi:Nat×jf=>St.of [(0,Bx 90 b),(4,Bx 4 b74),(6,Ni n),(12,Hd 97 bF),(13,Ni ids.length),(14,Ni i.1)] [(90,vv b tYd y.now (zk r2.aNB.aNI r2.id (ids.take i.1) (l,y.seq)).2 (y.aNC.set n (zk r2.aNB.aNI r2.id (ids.take i.1) (l,y.seq)).1) i.2 dR gJ),(91,H),(92,o 92),(93,o 93),(94,o 94),(95,o 95),(96,o 96),(97,.loose (jb ids) bF),(98,.loose (js r2.aNB.aNF) bC),(99,.loose (jx r2.aNA) cO),(4,jra b74 tRn r2 (bC []) (cO []))]) (λi=>i.1<=ids.length) (λi=>ids.length-i.1) (0,e2) (jt [90,91,92,93,94,95,96,97,98,99,800000400] (by simp only [go_sem,aOW,jgy,jax hl,jM]<;>trivial)) ?_
 rintro ⟨i,η⟩ hi;dsimp only at hi;have tX:=zZ r2.aNB.aNI r2.id (ids.take i) (l,y.seq);have cE:=jer r2.aNB.aNI r2.id (ids.take i) (l,y.seq);have fX:(ids.take i).length=i:=by rw [aNV];omega
 dsimp only at tX cE;by_cases aB:i<ids.length
 ·have aA:(i:Int)<ids.length:=by omega
  have f6:=qX i;obtain ⟨x,hx⟩:=ja aB;have eJ:=jgw r2.aNB.aNI r2.id (ids.take i) x (l,y.seq);have cH:ids.take (i+1)=ids.take i++[x]:=by rw [aOA,hx];rfl
  rw [<-cH] at eJ;have hw:=kx i;have bV:IntKind.i64.wrap ((zk r2.aNB.aNI r2.id (ids.take i) (l,y.seq)).2+1)=(zk r2.aNB.aNI r2.id (ids.take i) (l,y.seq)).2+1:=vF;generalize wF:zk r2.aNB.aNI r2.id (ids.take i) (l,y.seq)=P at*;obtain ⟨sh,eD⟩:∃s,y.aNC.set n P.1=s:=⟨_,rfl⟩;have lX:sh[n]?=some P.1:=by rw [<-eD];exact aNX hn
  have fW:n<sh.length:=by rw [<-eD,aOE];exact hn
  have gZ:∀L,sh.set n L=y.aNC.set n L:=λL=>by rw [<-eD,aPE]
  have gS:n+1<=(sh.flatMap λes=>[jg es]).length:=by have:=jaD fW;rwa [aOG] at this
  have aY:((sh.flatMap λes=>[jg es]).drop n).take 1=[jg P.1]:=by have:=jbo lX;rwa [aOG] at this
  have lB:i+1<=(ids.flatMap λn=>[iv n]).length:=by have:=jp aB;rwa [aOG] at this
  have nU:((ids.flatMap λn=>[iv n]).drop i).take 1=[iv x]:=by have:=jq hx;rwa [aOG] at this
  rw [eD];simp only [go_sem,aA,f6,aB,nU,lB,aOO,fW,aOG,aY,gS,lZ];refine jG (jaR P.1 ⟨r2.aNB.aNI,P.2,r2.id,x⟩ (by omega)) (by simp only [go_sem,jk,qy lX]) λsE=>?_
  simp only [go_sem];simp only [go_sem,fW,aOG,gS,jbs,bV,hw,gZ];refine λaC hη'=>?_
  exact qf (i+1,aC) (jt [90,91,92,93,94,95,96,97,98,99,4] (by simp only [go_sem,eJ,jM]<;>trivial))
 obtain rfl:i=ids.length:=by omega
 have aA:¬((ids.length:Nat):Int)<ids.length:=by omega
 rw [aPP];generalize zk r2.aNB.aNI r2.id ids (l,y.seq)=P at*;subst pZ;simp only [go_sem,aA];refine WkK.wk (s':=St.of [] [(90,vv b tYd y.now P.2 (y.aNC.set n P.1) η (.sl 8 tRn (jcb y.aNE k (rnV r2 (bC []) (cO [])))) gJ),(91,H),(92,o 92),(93,o 93),(94,o 94),(95,o 95),(96,o 96),(98,.loose (js r2.aNB.aNF) bC),(99,.loose (jx r2.aNA) cO)]) (jt [90,91,92,93,94,95,96,98,99] (by simp only [go_sem,jM]<;>trivial)) ?_
 refine qi 90 3 (k*8+5) 98 (η:=gJ) (aS:=bC) (cs:=r2.aNB.aNF.flatMap jK) rfl (jbd hk 5 (by simp)) (.inl rfl) rfl (by decide) ληD _=>?_
 rw [jay hk 5 (by simp)]
 refine qi 90 3 (k*8+7) 99 (η:=ηD) (aS:=cO) (cs:=r2.aNA.flatMap jH) rfl (jbd hk 7 (by simp)) (.inl rfl) rfl (by decide) λsG _=>?_
 rw [jay hk 7 (by simp)]
 have bG:(List.set (List.set (rnV r2 (bC []) (cO [])) 5 (.sl 2 tEd (r2.aNB.aNF.flatMap jK))) 7 (.sl 4 tTk (r2.aNA.flatMap jH)))=je r2:=rfl;rw [bG,jnS hk];refine WkK.of ?_;exact ⟨⟨η,sG,rfl⟩,rfl,rfl,rfl,rfl,rfl,rfl⟩
def simAs:List AV->List AV->Prop
 |[],[]=>True
 |a::l,b::m=>a.sim b/\simAs l m
 |_,_=>False
theorem jwS:simAs [] []=True:=(rfl)
theorem juE (a b:AV) (l m:List AV):simAs (a::l) (b::m)=(a.sim b/\simAs l m):=(rfl)
theorem simAs.rel {B:Nat} {w:World}:∀{l m:List AV} {xs:List Value},simAs l m->jlZ B w l xs->jlZ B w m xs
 |[],[],_,_,h=>h
 |_::_,_::_,_,⟨h1,h2⟩,⟨x,xs',e,h3,h4⟩=>⟨x,xs',e,h1.rel h3,h2.rel h4⟩
theorem jD2 {P:Program} {f:FuncId} {vs vs2:List AV} {o o2:Nat->Ob} {R:AV->(Nat->Ob)->Prop} (hw:Wk (.only o) (.only o2)) (hs:simAs vs vs2) (h:Inl P f vs2 o2 R):Inl P f vs o R:=
 ⟨h.1,λB w F xs h1 h2=>by
  obtain ⟨F2,h3,_⟩:=hw _ _ _ _ _ _ h1;exact h.2 B w F2 xs h3 (hs.rel h2)⟩
theorem jaM {P:Program} {β:Nat} {s:St} {K:St->Prop} {d:Option Nat} {g:Option (Nat×Bool)} {f:Nat} {args:List X} {R:AV->(Nat->Ob)->Prop} (ks:List (Option Nat)) (O:List (Nat×Ob)) (vs2:List AV) (hs:simAs (args.map s.ev) vs2) (hf:jsp s ks O) (h:Inl P f vs2 (lkO O) R) (hk:∀av o',R av o'->K (St.put ⟨s.t,o'⟩ d av)) (hn:jjs (jsX ks)=true:=by decide):vp P β ⟨d,g,.call f args⟩ s K:=by
 refine kZ (jD2 (o2:=lkO O) ?_ hs (h.weak hk))
 have hf':∀{ks:List (Option Nat)} {O:List (Nat×Ob)},jsp s ks O->jsp (.only s.o) ks O:=by
  intro ks
  induction ks with
  |nil=>intro O h;cases O<;>first|exact h|exact h.elim
  |cons k ks ih=>
   intro O h;cases O with
   |nil=>cases k<;>exact h.elim
   |cons p O=>cases k<;>exact ⟨h.1,ih h.2⟩
 exact ze (s:=.only s.o) ks (T:=[]) ⟨trivial,hf' hf⟩ hn
attribute [go_sem] jwS juE
def je3:C:=iS [iA 3 (.box 27 4 (.t 0)),iA 5 (.box 52 8 (.t 2)),iA 6 wAM] (iS [aF 8 3 3,aL 9 8,aM 10 1,aI 11 8 9 10,aT 12 8 11,iA 7 wAN,wAC 7 12] (iS [aF 13 3 3,aL 14 13,aM 15 1,aT 16 8 5,aI 17 8 14 15,wAC 17 16] (iS [aT 18 4 3,aT 19 8 7,aT 20 8 5,iA 21 (iK 115 [18,19,20]),wAA 6 21] .ret)))
theorem jip:fnC Tryz.prog Tryz.f119=some (je3,[.cell 6 true 4],22):=by kernel_rfl
abbrev jhM (b ty:Nat) (now seq:Int) (x2 x3:Value):Ob:=.box b ty [.a (.v (.int .i64 now)),.a (.v (.int .i64 seq)),.a (.v x2),.a (.v x3)]
theorem jgB {k b:Nat} {y:Yd} {r r2:Rn} (hr:y.aNE[k]?=some r) (bR:r2.aNA.length=r.aNA.length) (lN:r.aNA.length<=12) (h4:y.aNC.length=4) (hq:1<=y.seq/\y.seq<=4000000000) (ht:jn y<=2000000)
 {o:Nat->Ob} {aS cI bP bF:jf} (mX:o 90=kb b tYd y.now y.seq y.aNC aS y.aNE cI) (h97:o 97=.loose (js r2.aNB.aNF) bP) (h98:o 98=.loose (jx r2.aNA) bF):
 Inl Tryz.prog 119 [.agg [.v (.int .i64 y.now),.v (.int .i64 y.seq),.h 90 2 [] (aS []),.h 90 3 [] (cI [])],Ni k,.agg [.v (.int .i64 r2.id),.v (.int .i64 r2.aNB.aNI),.v (.int .i64 r2.aNB.aNN),.v (.int .i64 r2.aNB.aNM),.v (.int .i64 r2.aNB.aNA),.h 97 0 [] (bP []),.v (.int .i64 r2.aND),.h 98 0 [] (bF [])]] o
  λav o'=>∃c e2 e3 x2 x3,av=.agg [.v (.int .i64 (kN y k r2).now),.v (.int .i64 (kN y k r2).seq),.h 66 2 [] (e2 []),.h 66 3 [] (e3 [])]/\o' 66=kb c tYd (kN y k r2).now (kN y k r2).seq (kN y k r2).aNC e2 (kN y k r2).aNE e3/\o' 90=jhM b tYd y.now y.seq x2 x3/\o' 91=o 91/\o' 92=o 92/\o' 93=o 93/\o' 94=o 94/\o' 95=o 95/\o' 96=o 96:=by
 have hk:=(aNP.1 hr).1;have bJ:=qX k;refine jx8 ?_;refine jlf (β:=5000000) [[1,0],[1,1,0],[1,1,1,0],[1,1,1,1]] Tryz.func119 jip (by simp) ?_
 unfold je3;simp only [C.ghs,C.ghAt,List.foldr];simp only [go_sem,mX,h97,h98];intro c3 c5 c6;refine kv ?_;have hR:jE y.aNE=.sl 8 tRn (jcb y.aNE k (je r)):=by rw [jE,jnT hr]
 refine WkK.wk (s':=St.of [(1,Ni k),(3,Bx 3 c3),(5,Bx 5 c5),(6,Bx 66 c6)] [(90,jhM b tYd y.now y.seq (aS []) (cI [])),(91,o 91),(92,o 92),(93,o 93),(94,o 94),(95,o 95),(96,o 96),(3,vv c3 _ y.now y.seq y.aNC aS (jE y.aNE) cI),(5,ja1 c5 _ r2 bP bF),(66,ZYd c6 _)]) (jt [90,91,92,93,94,95,96,500000300,500000500,500000600] (by simp only [go_sem,jM,mX]<;>trivial)) ?_
 rw [hR];refine jc1 3 3 (k*8+5) 901 (η:=cI) (cs:=r.aNB.aNF.flatMap jK) rfl (jbd hk 5 (by simp [je,jd])) rfl (by decide) λbC dA pC iH lY=>?_
 rw [jay hk 5 (by simp [je,jd])]
 refine jc1 3 3 (k*8+7) 902 (η:=dA) (cs:=r.aNA.flatMap jH) rfl (jbd hk 7 (by simp [je,jd])) rfl (by decide) λcO gJ sA dO mF=>?_
 rw [jay hk 7 (by simp [je,jd])]
 rw [<-iH,<-dO];rw [<-iH] at lY;rw [<-dO] at mF;have hV:((je r).set 5 (.val (bC []))).set 7 (.val (cO []))=rnV r (bC []) (cO []):=rfl;rw [hV];refine WkK.wk (s':=St.of [(1,Ni k),(3,Bx 3 c3),(5,Bx 5 c5),(6,Bx 66 c6)] [(90,jhM b tYd y.now y.seq (aS []) (cI [])),(91,o 91),(92,o 92),(93,o 93),(94,o 94),(95,o 95),(96,o 96),(3,vv c3 _ y.now y.seq y.aNC aS (.sl 8 tRn (jcb y.aNE k (rnV r (bC []) (cO [])))) gJ),(5,ja1 c5 _ r2 bP bF),(66,ZYd c6 _),(901,.loose (js r.aNB.aNF) bC),(902,.loose (jx r.aNA) cO)]) (jt [90,91,92,93,94,95,96,3,5,66,901,902] (by simp only [go_sem,jd,je,jM]<;>trivial)) ?_
 refine WkK.of ?_;have lR:(jcb y.aNE k (rnV r (bC []) (cO []))).length=y.aNE.length*8:=jkk hk rfl;have hd8:y.aNE.length*8/8=y.aNE.length:=aOS _ (by decide)
 have mV:((jcb y.aNE k (rnV r (bC []) (cO []))).drop (k*8)).take 8=rnV r (bC []) (cO []):=jxc hk rfl;have wC:k*8+8<=y.aNE.length*8:=by omega
 have fN:(D.sl 8 tRn (jcb y.aNE k (rnV r (bC []) (cO [])))).len=y.aNE.length:=jpD hk rfl;simp only [go_sem,lR,fN,mV,wC,hk,bJ,lY,mF];intro c7;refine kv ?_;refine WkK.wk (s':=St.of [(1,Ni k),(3,Bx 3 c3),(5,Bx 5 c5),(6,Bx 66 c6),(7,Bx 7 c7)] [(90,jhM b tYd y.now y.seq (aS []) (cI [])),(91,o 91),(92,o 92),(93,o 93),(94,o 94),(95,o 95),(96,o 96),(3,vv c3 _ y.now y.seq y.aNC aS (.sl 8 tRn (jcb y.aNE k (rnV r (bC []) (cO [])))) gJ),(5,ja1 c5 _ r2 bP bF),(66,ZYd c6 _),(7,jra c7 _ r (bC []) (cO [])),(901,.loose (js r.aNB.aNF) bC),(902,.loose (jx r.aNA) cO)]) (jt [90,91,92,93,94,95,96,3,5,66,500000700,901,902] (by simp only [go_sem,jM]<;>trivial)) ?_
 refine qI 7 5 901 (d:=js r.aNB.aNF) (η:=bC) rfl rfl rfl ?_;refine qI 7 7 902 (d:=jx r.aNA) (η:=cO) rfl rfl rfl ?_;refine qA 5 5 903 (d:=js r2.aNB.aNF) (η:=bP) rfl rfl (by decide) λtQ=>?_
 refine qA 5 7 904 (d:=jx r2.aNA) (η:=bF) rfl rfl (by decide) λtP=>?_
 refine WkK.of ?_;simp only [go_sem,lR,fN,mV,wC,hk,bJ,tQ,tP];refine jCS λwK=>?_
 have aCE:D.put [] (k*8) (rnH r2 (bP []) (bF [])) (.sl 8 tRn (jcb y.aNE k (rnV r (bC []) (cO []))))=.sl 8 tRn (jcb y.aNE k (rnH r2 (bP []) (bF []))):=by
  simp only [D.put];rw [jAf hk rfl rfl]
 refine kv ?_;refine WkK.wk (s':=St.of [(1,Ni k),(3,Bx 3 c3),(5,Bx 5 c5),(6,Bx 66 c6),(7,Bx 7 c7)] [(90,jhM b tYd y.now y.seq (aS []) (cI [])),(91,o 91),(92,o 92),(93,o 93),(94,o 94),(95,o 95),(96,o 96),(3,vv c3 _ y.now y.seq y.aNC aS (.sl 8 tRn (jcb y.aNE k (rnH r2 (bP []) (bF [])))) wK),(5,jra c5 _ r2 (bP []) (bF [])),(66,ZYd c6 _),(7,ja1 c7 _ r bC cO),(903,.loose (js r2.aNB.aNF) bP),(904,.loose (jx r2.aNA) bF)]) (jt [90,91,92,93,94,95,96,3,5,66,7,903,904] (by simp only [go_sem,aCE,jM]<;>trivial)) ?_
 refine qI 5 5 903 (d:=js r2.aNB.aNF) (η:=bP) rfl rfl rfl ?_;refine qI 5 7 904 (d:=jx r2.aNA) (η:=bF) rfl rfl rfl ?_;generalize pZ:D.sl 8 tRn (jcb y.aNE k (rnH r2 (bP []) (bF [])))=dR at*;refine WkK.wk (s':=St.of [(1,Ni k),(3,Bx 3 c3),(5,Bx 5 c5),(6,Bx 66 c6),(7,Bx 7 c7)] [(90,jhM b tYd y.now y.seq (aS []) (cI [])),(91,o 91),(92,o 92),(93,o 93),(94,o 94),(95,o 95),(96,o 96),(3,vv c3 _ y.now y.seq y.aNC aS dR wK),(5,ja1 c5 _ r2 bP bF),(66,ZYd c6 _),(7,ja1 c7 _ r bC cO)]) (jt [90,91,92,93,94,95,96,3,5,66,7] (by simp only [go_sem,jM]<;>trivial)) ?_
 refine WkK.of ?_;simp only [go_sem];refine kZ (qo (β:=7000000) Tryz.func115 jcD (by simp) ?_)
 unfold jcq;simp only [go_sem];intro d3 d4 d5 d6;refine jm (jeV r2.id) λη=>?_
 simp only [go_sem];obtain ⟨fR,rG⟩:=jC0 r2.id;rw [fR];have uV:kN y k r2=⟨y.now,(zk r2.aNB.aNI r2.id (zj r.aNA r2.aNA r2.aNA.length) ((y.aNC[shN r2.id]?).getD default,y.seq)).2,y.aNC.set (shN r2.id) (zk r2.aNB.aNI r2.id (zj r.aNA r2.aNA r2.aNA.length) ((y.aNC[shN r2.id]?).getD default,y.seq)).1,y.aNE.set k r2⟩:=by rw [kN,hr,aNZ];rfl
 rw [uV];generalize shN r2.id=n at*;have hn:n<y.aNC.length:=by omega
 have lZ:=qX n;obtain ⟨l,hl⟩:=ja hn;have eQ:=zo ht (aNQ hl);rw [hl,aNZ];refine qY (λi:Nat×jf=>St.of [(3,Bx 3 d3),(4,Bx 4 d4),(5,Bx 5 d5),(6,Bx 6 d6),(7,Ni n),(8,Ni i.1)] [(90,jhM b tYd y.now y.seq (aS []) (cI [])),(91,o 91),(92,o 92),(93,o 93),(94,o 94),(95,o 95),(96,o 96),(66,ZYd c6 _),(3,vv d3 _ y.now (zk r2.aNB.aNI r2.id (zj r.aNA r2.aNA i.1) (l,y.seq)).2 (y.aNC.set n (zk r2.aNB.aNI r2.id (zj r.aNA r2.aNA i.1) (l,y.seq)).1) i.2 dR wK),(4,ja1 d4 _ r bC cO),(5,ja1 d5 _ r2 bP bF),(6,ZYd d6 _)]) (λi=>i.1<=r2.aNA.length) (λi=>r2.aNA.length-i.1) (0,aS) (jt [90,91,92,93,94,95,96,66,700000300,700000400,700000500,700000600] (by simp only [go_sem,jB7,jgy,jax hl,jM]<;>trivial)) ?_
 rintro ⟨j,η⟩ hj;dsimp only at hj;have tX:=zZ r2.aNB.aNI r2.id (zj r.aNA r2.aNA j) (l,y.seq);have cE:=jer r2.aNB.aNI r2.id (zj r.aNA r2.aNA j) (l,y.seq);have fX:=jen r.aNA r2.aNA j;have eJ:=jgw r2.aNB.aNI r2.id (zj r.aNA r2.aNA j) j (l,y.seq);have cH:=jB6 r.aNA r2.aNA j;dsimp only at tX cE;by_cases aB:j<r2.aNA.length
 ·have aA:(j:Int)<r2.aNA.length:=by omega
  have oP:j<r.aNA.length:=by omega
  have sS:(j:Int)<r.aNA.length:=by omega
  have dX:=qX j;obtain ⟨x,hx⟩:=ja aB;obtain ⟨z,hz⟩:=ja oP;have hw:=kx j;rw [jDH hx hz] at cH;have bV:IntKind.i64.wrap ((zk r2.aNB.aNI r2.id (zj r.aNA r2.aNA j) (l,y.seq)).2+1)=(zk r2.aNB.aNI r2.id (zj r.aNA r2.aNA j) (l,y.seq)).2+1:=vF;generalize wF:zk r2.aNB.aNI r2.id (zj r.aNA r2.aNA j) (l,y.seq)=P at*;obtain ⟨sh,eD⟩:∃s,y.aNC.set n P.1=s:=⟨_,rfl⟩;have lX:sh[n]?=some P.1:=by rw [<-eD];exact aNX hn
  have fW:n<sh.length:=by rw [<-eD,aOE];exact hn
  have gZ:∀L,sh.set n L=y.aNC.set n L:=λL=>by rw [<-eD,aPE]
  have gS:n+1<=(sh.flatMap λes=>[jg es]).length:=by have:=jaD fW;rwa [aOG] at this
  have aY:((sh.flatMap λes=>[jg es]).drop n).take 1=[jg P.1]:=by have:=jbo lX;rwa [aOG] at this
  rw [eD];cases h2:x.aND !=2
  ·have bI:(x.aND==2)=true:=by have:x.aND=2:=by simpa using h2
                               simp [this]
   rw [bI,Bool.true_and] at cH;cases h3:z.aND==2
   ·rw [h3,Bool.not_false,if_pos rfl] at cH
    rw [<-cH] at eJ;simp only [go_sem,aA,dX,aB,oP,sS,vL hx,jf3 hx,vL hz,jf3 hz,h2,h3];simp only [go_sem,fW,aOG,aY,gS];refine jG (jaP P.1 ⟨r2.aNB.aNI,P.2,r2.id,j⟩ (by omega)) (by simp only [go_sem,jk,qy lX]) λsE=>?_
    simp only [go_sem];simp only [go_sem,fW,aOG,gS,jbs,bV,hw,gZ];refine λaC hη'=>?_
    exact qf (j+1,aC) (jt [90,91,92,93,94,95,96,66,3,4,5,6] (by simp only [go_sem,eJ,jM]<;>trivial))
   ·rw [h3,Bool.not_true,if_neg (by decide),aOP] at cH
    simp only [go_sem,aA,dX,aB,oP,sS,vL hx,jf3 hx,vL hz,jf3 hz,h2,h3,hw];exact qf (j+1,η) (jt [90,91,92,93,94,95,96,66,3,4,5,6] (by simp only [go_sem,cH,wF,eD,jM]<;>trivial))
  ·have bI:(x.aND==2)=false:=by simpa using h2
   rw [bI,Bool.false_and,if_neg (by decide),aOP] at cH
   simp only [go_sem,aA,dX,aB,vL hx,jf3 hx,h2,hw];exact qf (j+1,η) (jt [90,91,92,93,94,95,96,66,3,4,5,6] (by simp only [go_sem,cH,wF,eD,jM]<;>trivial))
 obtain rfl:j=r2.aNA.length:=by omega
 have aA:¬((r2.aNA.length:Nat):Int)<r2.aNA.length:=by omega
 generalize zk r2.aNB.aNI r2.id (zj r.aNA r2.aNA r2.aNA.length) (l,y.seq)=P at*;simp only [go_sem,aA];refine kv ?_;subst pZ;refine WkK.wk (s':=St.of [(6,Bx 66 c6)] [(90,jhM b tYd y.now y.seq (aS []) (cI [])),(91,o 91),(92,o 92),(93,o 93),(94,o 94),(95,o 95),(96,o 96),(66,vv c6 _ y.now P.2 (y.aNC.set n P.1) η (.sl 8 tRn (jcb y.aNE k (rnH r2 (bP []) (bF [])))) wK),(5,ja1 d5 _ r2 bP bF)]) (jt [90,91,92,93,94,95,96,66,5] (by simp only [go_sem,jM]<;>trivial)) ?_
 refine qA 5 5 901 (d:=js r2.aNB.aNF) (η:=bP) rfl rfl (by decide) λ_=>?_
 refine qA 5 7 902 (d:=jx r2.aNA) (η:=bF) rfl rfl (by decide) λ_=>?_
 refine qi 66 3 (k*8+5) 901 (η:=wK) (aS:=bP) (cs:=r2.aNB.aNF.flatMap jK) rfl (jbd hk 5 (by simp)) (.inr rfl) rfl (by decide) ληD _=>?_
 rw [jay hk 5 (by simp)]
 refine qi 66 3 (k*8+7) 902 (η:=ηD) (aS:=bF) (cs:=r2.aNA.flatMap jH) rfl (jbd hk 7 (by simp)) (.inr rfl) rfl (by decide) λsG _=>?_
 rw [jay hk 7 (by simp)]
 have bG:(List.set (List.set (rnH r2 (bP []) (bF [])) 5 (.sl 2 tEd (r2.aNB.aNF.flatMap jK))) 7 (.sl 4 tTk (r2.aNA.flatMap jH)))=je r2:=rfl;rw [bG,jnS hk];refine WkK.of ?_;simp only [go_sem];refine WkK.wk (s':=St.of [] [(66,kb c6 tYd y.now P.2 (y.aNC.set n P.1) η (y.aNE.set k r2) sG),(90,jhM b tYd y.now y.seq (aS []) (cI [])),(91,o 91),(92,o 92),(93,o 93),(94,o 94),(95,o 95),(96,o 96)]) (jt [66,90,91,92,93,94,95,96] (by simp only [go_sem,jM]<;>trivial)) ?_
 refine WkK.of ⟨c6,η,sG,aS [],cI [],rfl,rfl,rfl,rfl,rfl,rfl,rfl,rfl,rfl⟩
noncomputable def jbV (y:Yd) (id aNH tri:Int):Yd:=if ja2 y id aNH tri=0 then kN y (runAt y id).toNat (qa ((y.aNE[(runAt y id).toNat]?).getD default) aNH) else y
def jdO:C:=iS [iA 4 (.box 27 4 (.t 0)),iA 8 wAM,aN 9 0] (iS [aT 13 4 4,iA 14 (iK 67 [13]),iA 10 wAM,wAA 10 14] (iS [aT 15 4 4,aM 16 1,aM 17 2,aM 18 3,iA 19 (iK 189 [15,16,17,18]),aM 11 19] (.seq (iS [aM 20 11,aQ 21 .neq 3 20 0] (iD 21 (iS [aT 22 4 10,aM 23 11,wAA 8 22,aM 9 23] .ret) .skip)) (iS [aT 24 4 4,aM 25 1,iA 26 (iK 26 [24,25]),aM 12 26] (.seq (.dreg (tA 0 27 (iT 4 10) (tA 1 28 (iM 12) (tA 2 29 (iF 3 10) (tA 3 30 (iL 29) (tA 4 31 (iM 12) (tA 5 32 (iI 8 30 31) (tA 6 33 (iT 8 32) (tA 7 34 (iM 2) (tC 35 (iK 190 [33,34]) [1,0] (tC 36 (iK 119 [27,28,35]) [] (.alt (wAA 8 36) [] (tA 11 9 (iN 0) .done) .stop) .stop) .stop)))))))))) .ret)))))
theorem jgU:fnC Tryz.prog Tryz.f148=some (jdO,[.cell 8 true 4,.t 9],37):=by kernel_rfl
theorem jk0 (y:Yd) (id aNH tri:Int) (ht:jn y<=2000000):jW Tryz.prog 148 [.agg (jc y),.c (.val (.int .i64 id)),.c (.val (.int .i64 aNH)),.c (.val (.int .i64 tri))] (.tup [(true,jc (jbV y id aNH tri)),(false,[.val (.int .i64 (ja2 y id aNH tri))])]):=by
 refine vr [[1,1,1,1,1,0]] Tryz.func148 jgU (by simp) ?_
 unfold jdO;simp only [C.ghs,C.ghAt,List.foldr];simp only [go_sem,jc];intro b4 b8;refine jm (km y ht) λbD=>?_
 simp only [go_sem,jc];intro b10;refine jm (jgo y id aNH tri ht) λη=>?_
 simp only [go_sem];cases h0:ja2 y id aNH tri !=0;rotate_left
 ·have hy:jbV y id aNH tri=y:=by rw [jbV,if_neg (by simpa using h0)]
  simp only [go_sem,hy]
  apply kV
  simp only [go_sem]
 have eU:ja2 y id aNH tri=0:=by simpa using h0
 obtain ⟨aR,aK⟩:=jka eU;obtain ⟨k,r,bZ,hr,hid,h8⟩:=kP aK;have hk:=(aNP.1 hr).1;have bJ:=qX k;have cB:¬(k:Int)<0:=by omega
 have hY:jbV y id aNH tri=kN y k (qa r aNH):=by rw [jbV,if_pos eU,bZ,aNW,hr,aNZ]
 rw [hY,eU];simp only [go_sem];refine jm (qs y id) λη=>?_
 simp only [go_sem];refine kv ?_;refine WkK.wk (s':=St.of [(2,Ni aNH),(8,Bx 92 b8),(10,Bx 90 b10),(12,Ni k)] [(92,ZYd b8 tYd),(90,kb b10 tYd y.now y.seq y.aNC (bD 2) y.aNE (bD 3))]) (jt [800,1000] (by simp only [go_sem,bZ]<;>trivial)) ?_
 refine WkK.of ?_;have fK:=jdh ht (aNQ hr);simp only [go_sem,bJ,hk,jmz hr,jih hr,je,jd];refine jG (jmd r aNH fK.1 fK.2) (by simp only [go_sem,je,jd,zw hr,zu hr]) λeM=>?_
 simp only [go_sem,je,jd];have bR:(qa r aNH).aNA.length=r.aNA.length:=jca r aNH;have lN:r.aNA.length<=12:=(aR.right r (aNQ hr)).le12;generalize qa r aNH=r2 at*;refine jaM [some 90,some 92,some 3505,some 3507] [(90,kb b10 tYd y.now y.seq y.aNC (bD 2) y.aNE (bD 3)),(92,ZYd b8 tYd),(97,.loose (js r2.aNB.aNF) (eM 5)),(98,.loose (jx r2.aNA) (eM 7))] [.agg [.v (.int .i64 y.now),.v (.int .i64 y.seq),.h 90 2 [] (bD 2 []),.h 90 3 [] (bD 3 [])],Ni k,.agg [.v (.int .i64 r2.id),.v (.int .i64 r2.aNB.aNI),.v (.int .i64 r2.aNB.aNN),.v (.int .i64 r2.aNB.aNM),.v (.int .i64 r2.aNB.aNA),.h 97 0 [] (eM 5 []),.v (.int .i64 r2.aND),.h 98 0 [] (eM 7 [])]] (by simp only [go_sem]<;>and_intros<;>rfl) (by simp only [go_sem]<;>and_intros<;>rfl) (jgB hr bR lN aR.four (by have:=aR.seq;omega) ht rfl rfl rfl) ?_
 rintro _ o1 ⟨c,g2,g3,x2,x3,rfl,j99,j90,j91,j92,j93,j94,j95,j96⟩;have j92':o1 92=ZYd b8 tYd:=j92;generalize kN y k r2=z2 at*;simp only [go_sem,j99,j92']
 apply kV
 simp only [go_sem]
theorem jtJ {y:Yd} {id aNH tri:Int} {k:Nat} {r:Rn} (h:ja2 y id aNH tri=0) (hk:runAt y id=(k:Int)) (hr:y.aNE[k]?=some r):∃t:Nat,aNH=(t:Int)/\vH r aNH=true:=by
 have aR:=(jka h).1
 have hh:vo y id aNH tri=true:=by
  unfold ja2 at h;split at h
  ·cases h
  split at h
  ·cases h
  split at h
  ·cases h
  ·rename_i h3;simpa using h3
 unfold vo at hh;rcases vZ y id aNH with ⟨_,h2⟩|⟨k',r',h1,h2,⟨_,h3⟩|⟨j,x,hj,hx,h3⟩⟩
 ·rw [h2] at hh;cases hh
 ·rw [h3] at hh;cases hh
 ·rw [h3] at hh
  obtain rfl:k=k':=by omega
  obtain rfl:r=r':=by rw [hr] at h2;exact aOH h2
  refine ⟨j,hj,?_⟩;subst hj;have hl:=(aNP.1 hx).1;simp only [aOF,aPV] at hh;have hR:=aR.right r (aNQ hr);simp only [vH,inB,aOF,aOJ,aPV,kt hx,runOk_iff];exact ⟨⟨by omega,hh.1⟩,hR⟩
def jd6:C:=iS [iA 4 (.box 27 4 (.t 0)),iA 6 (.box 3 1 (.t 2)),iA 8 wAM,aN 9 0] (iS [aT 12 4 4,iA 13 (iK 61 [12]),iA 10 wAM,wAA 10 13] (iS [aT 14 4 4,aM 15 1,aL 16 6,aM 17 3,iA 18 (iK 122 [14,15,16,17]),aM 11 18] (.seq (iS [aM 19 11,aQ 20 .eql 3 19 0] (iD 20 (.reg [aT 21 4 4,aM 22 1,iA 23 (iK 25 [21,22]),iA 24 (.mkf 123 [.t 6]),iA 25 (iK 116 [10,23,24])]) .skip)) (iS [aT 26 4 10,aM 27 11,wAA 8 26,aM 9 27] .ret))))
theorem jha:fnC Tryz.prog Tryz.f55=some (jd6,[.cell 8 true 4,.t 9],28):=by kernel_rfl
def jb4:C:=.reg [aM 3 0,aL 4 1,iA 5 (iK 124 [3,4])]
theorem jeJ:fnC Tryz.prog Tryz.f123=some (jb4,[],6):=by kernel_rfl
theorem joU {k t b6:Nat} {y:Yd} {r:Rn} (hr:y.aNE[k]?=some r) (aV:vH r t=true):jzy Tryz.prog 123 [.bp 91 0 b6] (.box b6 jeP [.a (.v (.int .i64 t))]) k y (qa r t):=by
 intro o b e2 e3 mX nR;refine jkd (β:=6000000) Tryz.func123 jeJ (by simp) ?_
 unfold jb4;simp only [go_sem,nR];refine kr (by simp only [go_sem]) (jEc hr aV _ b e2 e3 (by simp only [go_sem];exact mX)) ?_
 rintro _ o1 ⟨rfl,j90,j91,j92,j93,j94,j95,j96,j97⟩;simp only [go_sem] at j91 j92 j93 j94 j95 j96 j97;rw [nR] at j91;exact ⟨.tup [],⟨by decide,rfl⟩,rfl,rfl,j90,j91,j92,j93,j94,j95,j96,j97⟩
theorem jk6 (y:Yd) (id aNH tri:Int) (ht:jn y<=2000000):jW Tryz.prog 55 [.agg (jc y),.c (.val (.int .i64 id)),.c (.val (.int .i64 aNH)),.c (.val (.int .i64 tri))] (.tup [(true,jc (jbV y id aNH tri)),(false,[.val (.int .i64 (ja2 y id aNH tri))])]):=by
 refine vr [[1,1,1,0,1,0]] Tryz.func55 jha (by simp) ?_
 unfold jd6;simp only [C.ghs,C.ghAt,List.foldr];simp only [go_sem,jc];intro b4 b6 b8;refine jm (jY y ht) λbD=>?_
 simp only [go_sem,jc];intro b10;refine jm (jk1 y id aNH tri ht) λη=>?_
 simp only [go_sem];cases h0:ja2 y id aNH tri==0
 ·have hy:jbV y id aNH tri=y:=by rw [jbV,if_neg (by simpa using h0)]
  simp only [go_sem,hy]
  apply kV
  simp only [go_sem]
 have eU:ja2 y id aNH tri=0:=by simpa using h0
 obtain ⟨aR,aK⟩:=jka eU;obtain ⟨k,r,bZ,hr,hid,h8⟩:=kP aK;obtain ⟨t,rfl,aV⟩:=jtJ eU bZ hr;have hY:jbV y id t tri=kN y k (qa r t):=by rw [jbV,if_pos eU,bZ,aNW,hr,aNZ]
 have lN:r.aNA.length<=12:=(aR.right r (aNQ hr)).le12;rw [hY,eU];simp only [go_sem];refine kv ?_;generalize bD 2=aS at*;generalize bD 3=cI at*;refine WkK.wk (s':=St.of [(1,Ni id),(4,Bx 93 b4),(6,Bx 91 b6),(8,Bx 92 b8),(10,Bx 90 b10),(11,Ni 0)] [(93,Bi b4 tYd (jc y)),(91,.box b6 jeP [.a (.v (.int .i64 t))]),(92,ZYd b8 tYd),(90,kb b10 tYd y.now y.seq y.aNC aS y.aNE cI)]) (jt [400,600,800,1000] (by simp only [go_sem,jc]<;>trivial)) ?_
 refine WkK.of ?_;simp only [go_sem,jc];refine jm (qv y id) λη=>?_
 simp only [go_sem];rw [bZ];refine kr (vs:=[Bx 90 b10,Ni k,.fn 123 [.bp 91 0 b6]]) (by simp only [go_sem]) (jet hr (jca r t) lN aR.four (by have:=aR.seq;omega) ht (joU hr aV) (e2:=aS) (e3:=cI) (by simp only [go_sem]) (by simp only [go_sem])) ?_
 rintro _ o1 ⟨rfl,⟨e2',e3',j90⟩,j91,j92,j93,j94,j95,j96⟩;simp only [go_sem] at j92;generalize kN y k (qa r t)=y2 at*;simp only [go_sem,j90,j92]
 apply kV
 simp only [go_sem]
theorem joI {k t:Nat} {y:Yd} {r:Rn} (hr:y.aNE[k]?=some r) (aV:vH r t=true):EpK Tryz.prog 118 k t y (jB r t):=by
 intro o b10 e2 e3 lA;refine qo (β:=7000000) Tryz.func118 jlE (by simp) ?_
 unfold jjl;obtain ⟨t',x,dN,hx,hs,hP⟩:=jbc aV;obtain rfl:t=t':=by omega
 obtain ⟨n,hn,d9,cF,dH,bU,aW,-⟩:=jbJ hP.aNB;have aD:=hP.len;have dG:=(aNP.1 hr).1;have eI:=(aNP.1 hx).1;have fF:=qX t;have cG:(r.aNA.set t ⟨x.aND,x.aNL,x.tri,0⟩)[t]?=some ⟨x.aND,x.aNL,x.tri,0⟩:=aNX eI;have hS:∀r':Rn,(y.aNE.set k r')[k]?=some r':=λr'=>aNX dG
 have q1:=hS ⟨r.id,r.aNB,r.aND,r.aNA.set t ⟨x.aND,x.aNL,x.tri,0⟩⟩;simp only [go_sem,lA,aOO,eI,fF,jav hr,jaW hr,ko hr,jlg hx,jzi hx,zK hr (jfG hx 0),ko q1,jnr cG,jnb cG,jHe q1,jGA q1];by_cases hm:x.tri<r.aNB.aNN
 ·have hR:jB r t=⟨r.id,r.aNB,r.aND,r.aNA.set t ⟨2,x.aNL,x.tri,0⟩⟩:=by rw [qN hx aV,zD,if_pos hm]
  simp only [go_sem,aOO,hm,hR,ko q1,jhL cG,vL cG,zK q1 (jcd cG 2),aPE];exact ⟨rfl,rfl,rfl,rfl,rfl,rfl⟩
 have hR:jB r t=⟨r.id,r.aNB,3,vq jA (r.aNA.set t ⟨5,x.aNL,x.tri,0⟩) r.aNA.length⟩:=by rw [qN hx aV,zD,if_neg hm]
 rw [hR,<-jsv hP hx hs];simp only [go_sem,aOO,hm,ko q1,jhL cG,vL cG,zK q1 (jcd cG 5),aPE];have dB:(r.aNA.set t ⟨5,x.aNL,x.tri,0⟩).length=r.aNA.length:=by rw [aOE]
 generalize r.aNA.set t ⟨5,x.aNL,x.tri,0⟩=ts0 at*;refine kZ (qo (β:=8000000) Tryz.func171 jdE (by simp) ?_)
 unfold jdV;have q2:=hS ⟨r.id,r.aNB,r.aND,ts0⟩;simp only [go_sem,aOO,jav q2,jaW q2,ko q2];refine qY (λi:Nat=>St.of [(0,.c (.ep 90 3 [] (k*8) (e3 []))),(1,Ni t),(10,Ni ts0.length),(11,Ni i)] [(90,kb b10 tYd y.now y.seq y.aNC e2 (y.aNE.set k ⟨r.id,r.aNB,r.aND,vq (qw t) ts0 i⟩) e3),(91,o 91),(92,o 92),(93,o 93),(94,o 94),(95,o 95),(96,o 96),(97,o 97)]) (λi=>i<=ts0.length) (λi=>ts0.length-i) 0 (jt [90,91,92,93,94,95,96,97] (by simp only [go_sem,jtx,jM]<;>trivial)) ?_
 rintro j hj;have eA:=vT (f:=qw t) (ts:=ts0) (k:=j);by_cases aB:j<ts0.length
 ·have aA:(j:Int)<ts0.length:=by omega
  have dX:=qX j;obtain ⟨z,hz⟩:=ja aB;have fI:=jgt (f:=qw t) hz;have cQ:=jgs (f:=qw t) hz;have mN:=jqc (f:=qw t) hz;generalize vq (qw t) ts0 j=M at*;have hw:=kx j;have lC:j<M.length:=by omega
  have p1:=hS ⟨r.id,r.aNB,r.aND,M⟩;cases aJ:(j:Int) !=(t:Int)
  ·have hg:qw t j z=z:=by have:(j:Int)=t:=by simpa using aJ
                          simp [qw,this]
   have hq:=mN hg;simp only [go_sem,aOO,eA,aA,dX,aB,jav p1,jaW p1,ko p1,aJ,hw];exact qf (j+1) (jt [90,91,92,93,94,95,96,97] (by simp only [go_sem,hq,jM]<;>trivial))
  have bO:¬(j:Int)=t:=by simpa using aJ
  cases gG:z.aND !=4
  ·have hg:qw t j z=z:=by have:z.aND=4:=by simpa using gG
                          simp [qw,this]
   have hq:=mN hg;simp only [go_sem,aOO,eA,aA,dX,aB,jav p1,jaW p1,ko p1,aJ,jhL fI,vL fI,gG,hw];exact qf (j+1) (jt [90,91,92,93,94,95,96,97] (by simp only [go_sem,hq,jM]<;>trivial))
  ·have hg:qw t j z=⟨6,z.aNL,z.tri,0⟩:=by
    have h1:¬z.aND=4:=by simpa using gG
    simp [qw,h1,bO]
   rw [hg] at cQ;have mZ:(M.set j ⟨6,z.aNL,z.tri,z.til⟩)[j]?=some ⟨6,z.aNL,z.tri,z.til⟩:=aNX lC;have p2:=hS ⟨r.id,r.aNB,r.aND,M.set j ⟨6,z.aNL,z.tri,z.til⟩⟩;simp only [go_sem,aOO,eA,aA,dX,aB,jav p1,jaW p1,ko p1,aJ,jhL fI,vL fI,gG,zK p1 (jcd fI 6),ko p2,zK p2 (jfG mZ 0),jlg mZ,jzi mZ,aPE,cQ,hw];exact qf (j+1) (jt [90,91,92,93,94,95,96,97] (by simp only [go_sem,jM]<;>trivial))
 have aA:¬(j:Int)<ts0.length:=by omega
 obtain rfl:j=ts0.length:=by omega
 rw [<-dB];generalize vq (qw t) ts0 ts0.length=M at*;have p3:=hS ⟨r.id,r.aNB,r.aND,M⟩;simp only [go_sem,aA,jCu p3,jCa p3,jxn p3,aPE];exact ⟨rfl,rfl,rfl,rfl,rfl,rfl⟩
noncomputable def jbR (y:Yd) (id aNH tri:Int):Yd:=if ja2 y id aNH tri=0 then kN y (runAt y id).toNat (jB ((y.aNE[(runAt y id).toNat]?).getD default) aNH) else y
def jlN:C:=iS [iA 4 (.box 27 4 (.t 0)),iA 8 wAM,aN 9 0] (iS [aT 13 4 4,iA 14 (iK 67 [13]),iA 10 wAM,wAA 10 14] (iS [aT 15 4 4,aM 16 1,aM 17 2,aM 18 3,iA 19 (iK 189 [15,16,17,18]),aM 11 19] (.seq (iS [aM 20 11,aQ 21 .neq 3 20 0] (iD 21 (iS [aT 22 4 10,aM 23 11,wAA 8 22,aM 9 23] .ret) .skip)) (iS [aT 24 4 4,aM 25 1,iA 26 (iK 26 [24,25]),aM 12 26] (.seq (.dreg (tA 0 27 (iT 4 10) (tA 1 28 (iM 12) (tA 2 29 (iF 3 10) (tA 3 30 (iL 29) (tA 4 31 (iM 12) (tA 5 32 (iI 8 30 31) (tA 6 33 (iT 8 32) (tA 7 34 (iM 2) (tC 35 (iK 120 [33,34]) [1,0] (tC 36 (iK 119 [27,28,35]) [] (.alt (wAA 8 36) [] (tA 11 9 (iN 0) .done) .stop) .stop) .stop)))))))))) .ret)))))
theorem jmr:fnC Tryz.prog Tryz.f149=some (jlN,[.cell 8 true 4,.t 9],37):=by kernel_rfl
theorem jrP (y:Yd) (id aNH tri:Int) (ht:jn y<=2000000):jW Tryz.prog 149 [.agg (jc y),.c (.val (.int .i64 id)),.c (.val (.int .i64 aNH)),.c (.val (.int .i64 tri))] (.tup [(true,jc (jbR y id aNH tri)),(false,[.val (.int .i64 (ja2 y id aNH tri))])]):=by
 refine vr [[1,1,1,1,1,0]] Tryz.func149 jmr (by simp) ?_
 unfold jlN;simp only [C.ghs,C.ghAt,List.foldr];simp only [go_sem,jc];intro b4 b8;refine jm (km y ht) λbD=>?_
 simp only [go_sem,jc];intro b10;refine jm (jgo y id aNH tri ht) λη=>?_
 simp only [go_sem];cases h0:ja2 y id aNH tri !=0;rotate_left
 ·have hy:jbR y id aNH tri=y:=by rw [jbR,if_neg (by simpa using h0)]
  simp only [go_sem,hy]
  apply kV
  simp only [go_sem]
 have eU:ja2 y id aNH tri=0:=by simpa using h0
 obtain ⟨aR,aK⟩:=jka eU;obtain ⟨k,r,bZ,hr,hid,h8⟩:=kP aK;have hk:=(aNP.1 hr).1;have bJ:=qX k;have cB:¬(k:Int)<0:=by omega
 have hY:jbR y id aNH tri=kN y k (jB r aNH):=by rw [jbR,if_pos eU,bZ,aNW,hr,aNZ]
 rw [hY,eU];simp only [go_sem];refine jm (qs y id) λη=>?_
 simp only [go_sem];refine kv ?_;refine WkK.wk (s':=St.of [(2,Ni aNH),(8,Bx 92 b8),(10,Bx 90 b10),(12,Ni k)] [(92,ZYd b8 tYd),(90,kb b10 tYd y.now y.seq y.aNC (bD 2) y.aNE (bD 3))]) (jt [800,1000] (by simp only [go_sem,bZ]<;>trivial)) ?_
 refine WkK.of ?_;have fK:=jdh ht (aNQ hr);simp only [go_sem,bJ,hk,jmz hr,jih hr,je,jd];refine jG (jaO r aNH fK.1 fK.2) (by simp only [go_sem,je,jd,zw hr,zu hr]) λeM=>?_
 simp only [go_sem,je,jd];have bR:(jB r aNH).aNA.length=r.aNA.length:=kO r aNH;have lN:r.aNA.length<=12:=(aR.right r (aNQ hr)).le12;generalize jB r aNH=r2 at*;refine jaM [some 90,some 92,some 3505,some 3507] [(90,kb b10 tYd y.now y.seq y.aNC (bD 2) y.aNE (bD 3)),(92,ZYd b8 tYd),(97,.loose (js r2.aNB.aNF) (eM 5)),(98,.loose (jx r2.aNA) (eM 7))] [.agg [.v (.int .i64 y.now),.v (.int .i64 y.seq),.h 90 2 [] (bD 2 []),.h 90 3 [] (bD 3 [])],Ni k,.agg [.v (.int .i64 r2.id),.v (.int .i64 r2.aNB.aNI),.v (.int .i64 r2.aNB.aNN),.v (.int .i64 r2.aNB.aNM),.v (.int .i64 r2.aNB.aNA),.h 97 0 [] (eM 5 []),.v (.int .i64 r2.aND),.h 98 0 [] (eM 7 [])]] (by simp only [go_sem]<;>and_intros<;>rfl) (by simp only [go_sem]<;>and_intros<;>rfl) (jgB hr bR lN aR.four (by have:=aR.seq;omega) ht rfl rfl rfl) ?_
 rintro _ o1 ⟨c,g2,g3,x2,x3,rfl,j99,j90,j91,j92,j93,j94,j95,j96⟩;have j92':o1 92=ZYd b8 tYd:=j92;generalize kN y k r2=z2 at*;simp only [go_sem,j99,j92']
 apply kV
 simp only [go_sem]
def jlS:C:=iS [iA 4 (.box 27 4 (.t 0)),iA 6 (.box 3 1 (.t 2)),iA 8 wAM,aN 9 0] (iS [aT 12 4 4,iA 13 (iK 61 [12]),iA 10 wAM,wAA 10 13] (iS [aT 14 4 4,aM 15 1,aL 16 6,aM 17 3,iA 18 (iK 122 [14,15,16,17]),aM 11 18] (.seq (iS [aM 19 11,aQ 20 .eql 3 19 0] (iD 20 (.reg [aT 21 4 4,aM 22 1,iA 23 (iK 25 [21,22]),iA 24 (.mkf 125 [.t 6]),iA 25 (iK 116 [10,23,24])]) .skip)) (iS [aT 26 4 10,aM 27 11,wAA 8 26,aM 9 27] .ret))))
theorem jmx:fnC Tryz.prog Tryz.f56=some (jlS,[.cell 8 true 4,.t 9],28):=by kernel_rfl
def jhH:C:=.reg [aM 3 0,aL 4 1,iA 5 (iK 118 [3,4])]
theorem jj7:fnC Tryz.prog Tryz.f125=some (jhH,[],6):=by kernel_rfl
theorem jy0 {k t b6:Nat} {y:Yd} {r:Rn} (hr:y.aNE[k]?=some r) (aV:vH r t=true):jzy Tryz.prog 125 [.bp 91 0 b6] (.box b6 jeP [.a (.v (.int .i64 t))]) k y (jB r t):=by
 intro o b e2 e3 mX nR;refine jkd (β:=6000000) Tryz.func125 jj7 (by simp) ?_
 unfold jhH;simp only [go_sem,nR];refine kr (by simp only [go_sem]) (joI hr aV _ b e2 e3 (by simp only [go_sem];exact mX)) ?_
 rintro _ o1 ⟨rfl,j90,j91,j92,j93,j94,j95,j96,j97⟩;simp only [go_sem] at j91 j92 j93 j94 j95 j96 j97;rw [nR] at j91;exact ⟨.tup [],⟨by decide,rfl⟩,rfl,rfl,j90,j91,j92,j93,j94,j95,j96,j97⟩
theorem jrV (y:Yd) (id aNH tri:Int) (ht:jn y<=2000000):jW Tryz.prog 56 [.agg (jc y),.c (.val (.int .i64 id)),.c (.val (.int .i64 aNH)),.c (.val (.int .i64 tri))] (.tup [(true,jc (jbR y id aNH tri)),(false,[.val (.int .i64 (ja2 y id aNH tri))])]):=by
 refine vr [[1,1,1,0,1,0]] Tryz.func56 jmx (by simp) ?_
 unfold jlS;simp only [C.ghs,C.ghAt,List.foldr];simp only [go_sem,jc];intro b4 b6 b8;refine jm (jY y ht) λbD=>?_
 simp only [go_sem,jc];intro b10;refine jm (jk1 y id aNH tri ht) λη=>?_
 simp only [go_sem];cases h0:ja2 y id aNH tri==0
 ·have hy:jbR y id aNH tri=y:=by rw [jbR,if_neg (by simpa using h0)]
  simp only [go_sem,hy]
  apply kV
  simp only [go_sem]
 have eU:ja2 y id aNH tri=0:=by simpa using h0
 obtain ⟨aR,aK⟩:=jka eU;obtain ⟨k,r,bZ,hr,hid,h8⟩:=kP aK;obtain ⟨t,rfl,aV⟩:=jtJ eU bZ hr;have hY:jbR y id t tri=kN y k (jB r t):=by rw [jbR,if_pos eU,bZ,aNW,hr,aNZ]
 have lN:r.aNA.length<=12:=(aR.right r (aNQ hr)).le12;rw [hY,eU];simp only [go_sem];refine kv ?_;generalize bD 2=aS at*;generalize bD 3=cI at*;refine WkK.wk (s':=St.of [(1,Ni id),(4,Bx 93 b4),(6,Bx 91 b6),(8,Bx 92 b8),(10,Bx 90 b10),(11,Ni 0)] [(93,Bi b4 tYd (jc y)),(91,.box b6 jeP [.a (.v (.int .i64 t))]),(92,ZYd b8 tYd),(90,kb b10 tYd y.now y.seq y.aNC aS y.aNE cI)]) (jt [400,600,800,1000] (by simp only [go_sem,jc]<;>trivial)) ?_
 refine WkK.of ?_;simp only [go_sem,jc];refine jm (qv y id) λη=>?_
 simp only [go_sem];rw [bZ];refine kr (vs:=[Bx 90 b10,Ni k,.fn 125 [.bp 91 0 b6]]) (by simp only [go_sem]) (jet hr (kO r t) lN aR.four (by have:=aR.seq;omega) ht (jy0 hr aV) (e2:=aS) (e3:=cI) (by simp only [go_sem]) (by simp only [go_sem])) ?_
 rintro _ o1 ⟨rfl,⟨e2',e3',j90⟩,j91,j92,j93,j94,j95,j96⟩;simp only [go_sem] at j92;generalize kN y k (jB r t)=y2 at*;simp only [go_sem,j90,j92]
 apply kV
 simp only [go_sem]
def jfm:C:=iS [iA 1 (.box 27 4 (.t 0)),iA 2 wAM] (iS [aT 6 4 1,iA 7 (iK 67 [6]),iA 3 wAM,wAA 3 7] (.seq (iS [aT 8 4 1,iA 9 (iK 66 [8]),aU 10 9] (iD 10 (iS [aT 11 4 3,wAA 2 11] .ret) .skip)) (.seq (iS [aN 4 0] (.blk 0 (.loop (.seq (iS [aM 12 4,aF 13 3 3,aL 14 13,aG 15 14,aP 16 .lss 3 12 15] (iD 16 .skip (.exit 0))) (.seq (.blk 1 (iS [aN 5 0] (.blk 2 (.loop (.seq (iS [aM 19 5,aF 20 3 3,aL 21 20,aM 22 4,aI 23 8 21 22,aF 24 7 23,aL 25 24,aG 26 25,aP 27 .lss 3 19 26] (iD 27 .skip (.exit 2))) (.seq (.blk 3 (iS [aF 30 3 3,aL 31 30,aM 32 4,aI 33 8 31 32,aF 34 7 33,aL 35 34,aM 36 5,aI 37 4 35 36,aF 38 0 37,aL 39 38,aQ 40 .eql 3 39 3] (iD 40 (.dreg (tA 0 41 (iT 4 3) (tA 1 42 (iM 4) (tA 2 43 (iF 3 3) (tA 3 44 (iL 43) (tA 4 45 (iM 4) (tA 5 46 (iI 8 44 45) (tA 6 47 (iT 8 46) (tA 7 48 (iM 5) (tC 49 (iK 120 [47,48]) [1,0] (tC 50 (iK 119 [41,42,49]) [] (.alt (wAA 3 50) [] .done .stop) .stop) .stop)))))))))) .skip))) (.reg [aM 28 5,aQ 29 .add 3 28 1,aM 5 29]))))))) (.reg [aM 17 4,aQ 18 .add 3 17 1,aM 4 18])))))) (iS [aT 51 4 3,wAA 2 51] .ret))))
theorem jiI:fnC Tryz.prog Tryz.f49=some (jfm,[.cell 2 true 4],52):=by kernel_rfl
def jfx:C:=iS [iA 1 (.box 27 4 (.t 0)),iA 2 wAM] (iS [aT 8 4 1,iA 9 (iK 61 [8]),iA 3 wAM,wAA 3 9] (.seq (iS [aT 10 4 1,iA 11 (iK 18 [10]),aU 12 11] (iD 12 (iS [aT 13 4 3,wAA 2 13] .ret) .skip)) (.seq (iS [aF 14 3 1,aL 15 14,aG 16 15,aN 17 0] (.blk 0 (.loop (iS [aP 18 .lss 3 17 16] (.seq (iD 18 .skip (.exit 0)) (.seq (.blk 1 (iS [aM 19 17,aI 20 8 15 17,aT 21 8 20,iA 5 wAN,aM 4 19,wAC 5 21] (iS [aF 22 7 5,aL 23 22,aG 24 23,aN 25 0] (.blk 2 (.loop (iS [aP 26 .lss 3 25 24] (.seq (iD 26 .skip (.exit 2)) (.seq (.blk 3 (iS [aM 27 25,aI 28 4 23 25,aT 29 4 28,iA 6 (.alloc 3 [.int .i64 0]),iA 7 wAO,wAD 6 27,wAB 7 29] (iS [aT 30 4 3,aF 31 0 5,aL 32 31,aL 33 6,aF 34 2 7,aL 35 34,iA 36 (iK 53 [30,32,33,35])] (iD 36 (.reg [aM 37 4,iA 38 (.mkf 117 [.t 6]),iA 39 (iK 116 [3,37,38])]) .skip)))) (.reg [aQ 40 .add 3 25 1,aM 25 40]))))))))) (.reg [aQ 41 .add 3 17 1,aM 17 41]))))))) (iS [aT 42 4 3,wAA 2 42] .ret))))
theorem jiT:fnC Tryz.prog Tryz.f48=some (jfx,[.cell 2 true 4],43):=by kernel_rfl
def jcS:C:=.reg [aM 3 0,aL 4 1,iA 5 (iK 118 [3,4])]
theorem jf0:fnC Tryz.prog Tryz.f117=some (jcS,[],6):=by kernel_rfl
theorem jmf (y:Yd) (ht:jn y<=1990000):jW Tryz.prog 49 [.agg (jc y)] (.agg (jc (jbG y))):=by
 refine pf_ jiI ?_;unfold jfm;have dW:jn y<=2000000:=by omega
 simp only [go_sem,jc];intro b1 b2;refine jm (km y dW) λbD=>?_
 simp only [go_sem,jc];intro b3;refine jm (qr y dW) λη=>?_
 simp only [go_sem];cases aR:ju y
 ·have hy:jbG y=y:=by simp [jbG,aR]
  simp only [go_sem,hy]
 have hP:=yard_iff.1 aR;have hy:jbG y=restR y y.aNE.length:=by simp [jbG,aR]
 rw [hy];simp only [go_sem];have h8:=hP.eight;refine qY (λi:Nat×jf×jf=>St.of [(2,Bx 92 b2),(3,Bx 90 b3),(4,Ni i.1)] [(92,ZYd b2 tYd),(90,kb b3 tYd (restR y i.1).now (restR y i.1).seq (restR y i.1).aNC i.2.1 (restR y i.1).aNE i.2.2)]) (λi=>i.1<=y.aNE.length) (λi=>y.aNE.length-i.1) (0,bD 2,bD 3) (jt [200,300] (by simp only [go_sem,restR]<;>trivial)) ?_
 rintro ⟨k,e2,e3⟩ hk;dsimp only at hk;have hI:=StepI.restR hP k;by_cases aB:k<y.aNE.length
 ·obtain ⟨r0,l4⟩:=ja aB
  have xF:=(hP.right r0 (aNQ l4)).le12;have cH:restR y (k+1)=restT (restR y k) k r0.aNA.length:=by rw [restR,l4,aNZ]
  have hIt:=hI.restT k;have hw:=kx k;have hlz:(restR y k).aNE.length=y.aNE.length:=hI.later.len;have aA:(k:Int)<(restR y k).aNE.length:=by omega
  generalize restR y k=z0 at*;simp only [go_sem,aA];refine qY (λi:Nat×jf×jf=>St.of [(2,Bx 92 b2),(3,Bx 90 b3),(4,Ni k),(5,Ni i.1)] [(92,ZYd b2 tYd),(90,kb b3 tYd (restT z0 k i.1).now (restT z0 k i.1).seq (restT z0 k i.1).aNC i.2.1 (restT z0 k i.1).aNE i.2.2)]) (λi=>i.1<=r0.aNA.length) (λi=>r0.aNA.length-i.1) (0,e2,e3) (jt [92,90] (by simp only [go_sem,restT]<;>trivial)) ?_
  rintro ⟨t,f2,f3⟩ hti;dsimp only at hti;have hJ:=hIt t;have gP:restT z0 k (t+1)=failK (restT z0 k t) k t:=rfl;generalize hz:restT z0 k t=z at*;obtain ⟨r,hr,hid,gD,hR,bR,pO⟩:=hJ.later.aNE k r0 l4;have dG:=(aNP.1 hr).1;have bJ:=qX k;have cF:=hR.le12;by_cases mB:t<r0.aNA.length
  ·have fZ:t<r.aNA.length:=by omega
   have fG:(t:Int)<r.aNA.length:=by omega
   have fF:=qX t;obtain ⟨x,hx⟩:=ja fZ;have m9:=kx t;have i9:failK z k t=if x.aND==3 then kN z k (jB r t) else z:=by rw [failK,hr,aNZ,kt hx]
   simp only [go_sem,aOO,dG,bJ,jav hr,jaW hr,ko hr,fG,fZ,fF,jhL hx,vL hx];cases hs:x.aND==3
   ·rw [hs,if_neg (by decide)] at i9
    rw [i9] at gP;simp only [go_sem,m9];exact qf (t+1,f2,f3) (jt [92,90] (by simp only [go_sem,gP]<;>trivial))
   ·rw [hs,if_pos rfl] at i9
    rw [i9] at gP;simp only [go_sem,dG,bJ,jmz hr,jih hr,je,jd];refine jG (jaO r t (by have:=jbJ hR.aNB;obtain ⟨n,_,_,_,dH,_⟩:=this;omega) (by omega)) (by simp only [go_sem,je,jd,zw hr,zu hr]) λeM=>?_
    simp only [go_sem,je,jd];have nD:=kO r t;generalize jB r t=r2 at*;refine jaM [some 90,some 92,some 4905,some 4907] [(90,kb b3 tYd z.now z.seq z.aNC f2 z.aNE f3),(92,ZYd b2 tYd),(97,.loose (js r2.aNB.aNF) (eM 5)),(98,.loose (jx r2.aNA) (eM 7))] [.agg [.v (.int .i64 z.now),.v (.int .i64 z.seq),.h 90 2 [] (f2 []),.h 90 3 [] (f3 [])],Ni k,.agg [.v (.int .i64 r2.id),.v (.int .i64 r2.aNB.aNI),.v (.int .i64 r2.aNB.aNN),.v (.int .i64 r2.aNB.aNM),.v (.int .i64 r2.aNB.aNA),.h 97 0 [] (eM 5 []),.v (.int .i64 r2.aND),.h 98 0 [] (eM 7 [])]] (by simp only [go_sem]<;>and_intros<;>rfl) (by simp only [go_sem]<;>and_intros<;>rfl) (jgB hr nD cF hJ.four (by have:=hJ.seq;omega) (by have:=hJ.tot;omega) rfl rfl rfl) ?_
    rintro _ o1 ⟨c,g2,g3,x2,x3,rfl,j99,j90,j91,j92,j93,j94,j95,j96⟩;have j92':o1 92=ZYd b2 tYd:=j92;generalize kN z k r2=z2 at*;simp only [go_sem,j99,j90,m9];exact qf (t+1,g2,g3) (jt [92,90] (by simp only [go_sem,gP,j92']<;>trivial))
  ·have fG:¬(t:Int)<r.aNA.length:=by omega
   obtain rfl:t=r0.aNA.length:=by omega
   rw [hz] at cH;simp only [go_sem,dG,bJ,jav hr,jaW hr,ko hr,fG,hw];exact qf (k+1,f2,f3) (jt [92,90] (by simp only [go_sem,cH]<;>trivial))
 have hlz:(restR y k).aNE.length=y.aNE.length:=hI.later.len;have aA:¬(k:Int)<(restR y k).aNE.length:=by omega
 obtain rfl:k=y.aNE.length:=by omega
 generalize restR y y.aNE.length=z at*;simp only [go_sem,aA]
theorem jqN {k t b6:Nat} {y:Yd} {r:Rn} (hr:y.aNE[k]?=some r) (aV:vH r t=true):jzy Tryz.prog 117 [.bp 91 0 b6] (.box b6 jeP [.a (.v (.int .i64 t))]) k y (jB r t):=by
 intro o b e2 e3 mX nR;refine jkd (β:=6000000) Tryz.func117 jf0 (by simp) ?_
 unfold jcS;simp only [go_sem,nR];refine kr (by simp only [go_sem]) (joI hr aV _ b e2 e3 (by simp only [go_sem];exact mX)) ?_
 rintro _ o1 ⟨rfl,j90,j91,j92,j93,j94,j95,j96,j97⟩;simp only [go_sem] at j91 j92 j93 j94 j95 j96 j97;rw [nR] at j91;exact ⟨.tup [],⟨by decide,rfl⟩,rfl,rfl,j90,j91,j92,j93,j94,j95,j96,j97⟩
theorem jmk (y:Yd) (ht:jn y<=1990000):jW Tryz.prog 48 [.agg (jc y)] (.agg (jc (jbG y))):=by
 refine vr [[1,1,1,0,1,0,0,1,1,0,0,1,1,0,0,1,1,0,0,1,1,0]] Tryz.func48 jiT (by simp) ?_
 unfold jfx;simp only [C.ghs,C.ghAt,List.foldr];have dW:jn y<=2000000:=by omega
 simp only [go_sem,jc];intro b1 b2;refine jm (jY y dW) λbD=>?_
 simp only [go_sem,jc];intro b3;refine jm (kK y dW) λη=>?_
 simp only [go_sem];cases aR:ju y
 ·have hy:jbG y=y:=by simp [jbG,aR]
  simp only [go_sem,hy]
 have hP:=yard_iff.1 aR;have hy:jbG y=restR y y.aNE.length:=by simp [jbG,aR]
 rw [hy];simp only [go_sem];have h8:=hP.eight;refine qY (λi:Nat×jf×jf=>St.of [(2,Bx 92 b2),(3,Bx 90 b3),(15,Ro (jE y.aNE)),(16,Ni y.aNE.length),(17,Ni i.1)] [(92,ZYd b2 tYd),(90,kb b3 tYd (restR y i.1).now (restR y i.1).seq (restR y i.1).aNC i.2.1 (restR y i.1).aNE i.2.2)]) (λi=>i.1<=y.aNE.length) (λi=>y.aNE.length-i.1) (0,bD 2,bD 3) (jt [200,300] (by simp only [go_sem,restR]<;>trivial)) ?_
 rintro ⟨k,e2,e3⟩ hk;dsimp only at hk;have hI:=StepI.restR hP k;by_cases aB:k<y.aNE.length
 ·have aA:(k:Int)<y.aNE.length:=by omega
  obtain ⟨r0,l4⟩:=ja aB;have xF:=(hP.right r0 (aNQ l4)).le12;have aCF:=hP.place k r0 l4;have cH:restR y (k+1)=restT (restR y k) k r0.aNA.length:=by rw [restR,l4,aNZ]
  have hIt:=hI.restT k;have hw:=kx k;generalize restR y k=z0 at*;simp only [go_sem,aA,aB,jT l4,je,jd];intro b5;refine qY (λi:Nat×jf×jf=>St.of [(2,Bx 92 b2),(3,Bx 90 b3),(4,Ni k),(5,Bx 93 b5),(15,Ro (jE y.aNE)),(16,Ni y.aNE.length),(17,Ni k),(23,Ro (jx r0.aNA)),(24,Ni r0.aNA.length),(25,Ni i.1)] [(92,ZYd b2 tYd),(93,Bi b5 tRn (je r0)),(90,kb b3 tYd (restT z0 k i.1).now (restT z0 k i.1).seq (restT z0 k i.1).aNC i.2.1 (restT z0 k i.1).aNE i.2.2)]) (λi=>i.1<=r0.aNA.length) (λi=>r0.aNA.length-i.1) (0,e2,e3) (jt [92,500,90] (by simp only [go_sem,restT,je,jd]<;>trivial)) ?_
  rintro ⟨t,f2,f3⟩ hti;dsimp only at hti;have hJ:=hIt t;have gP:restT z0 k (t+1)=failK (restT z0 k t) k t:=rfl;generalize hz:restT z0 k t=z at*;obtain ⟨r,hr,hid,gD,hR,bR,pO⟩:=hJ.later.aNE k r0 l4;have cF:=hR.le12;by_cases mB:t<r0.aNA.length
  ·have dS:(t:Int)<r0.aNA.length:=by omega
   have fZ:t<r.aNA.length:=by omega
   obtain ⟨x,hx⟩:=ja fZ;obtain ⟨x0,mI⟩:=ja mB;have m9:=kx t;have i9:failK z k t=if x.aND==3 then kN z k (jB r t) else z:=by rw [failK,hr,aNZ,kt hx]
   have hho:vo z r0.id t x0.tri=(x.aND==3):=by rw [jne hJ.later l4 aCF mI,hr,aNZ,kt hx]
   simp only [go_sem,dS,mB,jP mI,jH];intro b6 b7;simp only [go_sem,je,jd];refine jm (jdq z r0.id t x0.tri) λη=>?_
   simp only [go_sem];rw [hho];cases hs:x.aND==3
   ·rw [hs,if_neg (by decide)] at i9
    rw [i9] at gP;simp only [go_sem,m9];exact qf (t+1,f2,f3) (jt [92,93,90] (by simp only [go_sem,gP]<;>trivial))
   ·rw [hs,if_pos rfl] at i9
    rw [i9] at gP;have mO:x.aND=3:=by simpa using hs
    simp only [go_sem];refine kv ?_;refine WkK.wk (s':=St.of [(2,Bx 92 b2),(3,Bx 90 b3),(4,Ni k),(5,Bx 93 b5),(6,Bx 91 b6),(15,Ro (jE y.aNE)),(16,Ni y.aNE.length),(17,Ni k),(23,Ro (jx r0.aNA)),(24,Ni r0.aNA.length),(25,Ni t)] [(92,ZYd b2 tYd),(93,Bi b5 tRn (je r0)),(90,kb b3 tYd z.now z.seq z.aNC f2 z.aNE f3),(91,.box b6 jeP [.a (.v (.int .i64 t))])]) (jt [92,93,90,600] (by simp only [go_sem,je,jd]<;>trivial)) ?_
    refine WkK.of ?_;simp only [go_sem];refine kr (vs:=[Bx 90 b3,Ni k,.fn 117 [.bp 91 0 b6]]) (by simp only [go_sem]) (jet hr (kO r t) cF hJ.four (by have:=hJ.seq;omega) (by have:=hJ.tot;omega) (jqN hr (jhV hR hx mO)) (e2:=f2) (e3:=f3) (by simp only [go_sem]) (by simp only [go_sem])) ?_
    rintro _ o1 ⟨rfl,⟨g2,g3,j90⟩,j91,j92,j93,j94,j95,j96⟩;have j92':o1 92=ZYd b2 tYd:=j92;have j93':o1 93=Bi b5 tRn (je r0):=j93;generalize kN z k (jB r t)=z2 at*;simp only [go_sem,m9];exact qf (t+1,g2,g3) (jt [92,93,90] (by simp only [go_sem,gP,j90,j92',j93',je,jd]<;>trivial))
  ·have dS:¬(t:Int)<r0.aNA.length:=by omega
   obtain rfl:t=r0.aNA.length:=by omega
   rw [hz] at cH;simp only [go_sem,dS,hw];exact qf (k+1,f2,f3) (jt [92,90] (by simp only [go_sem,cH]<;>trivial))
 have aA:¬(k:Int)<y.aNE.length:=by omega
 obtain rfl:k=y.aNE.length:=by omega
 generalize restR y y.aNE.length=z at*;simp only [go_sem,aA]
