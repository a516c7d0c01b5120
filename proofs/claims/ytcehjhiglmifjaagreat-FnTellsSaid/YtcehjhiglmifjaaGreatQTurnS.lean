/- Parts. -/
import Derived.Test.YtcehjhiglmifjaaGreatQTurnP
set_option linter.all false
set_option maxHeartbeats 8000000
set_option maxRecDepth 100000
namespace Go.Proofs.YtcehjhiglmifjaaGreat
open Go.RowKit Go.Sort
def simAs:List AV->List AV->Prop
 |[],[]=>True
 |a::l,b::m=>a.sim b/\simAs l m
 |_,_=>False
theorem jus:simAs [] []=True:=(rfl)
theorem jsv (a b:AV) (l m:List AV):simAs (a::l) (b::m)=(a.sim b/\simAs l m):=(rfl)
theorem simAs.rel {B:Nat} {w:World}:∀{l m:List AV} {xs:List Value},simAs l m->jkM B w l xs->jkM B w m xs
 |[],[],_,_,h=>h
 |_::_,_::_,_,⟨h1,h2⟩,⟨x,xs',e,h3,h4⟩=>⟨x,xs',e,h1.rel h3,h2.rel h4⟩
theorem jAr {P:Program} {f:FuncId} {vs vs2:List AV} {o o2:Nat->Ob} {R:AV->(Nat->Ob)->Prop} (hw:Wk (.only o) (.only o2)) (hs:simAs vs vs2) (h:Inl P f vs2 o2 R):Inl P f vs o R:=
 ⟨h.1,λB w F xs h1 h2=>by
  obtain ⟨F2,h3,_⟩:=hw _ _ _ _ _ _ h1;exact h.2 B w F2 xs h3 (hs.rel h2)⟩
theorem jaG {P:Program} {β:Nat} {s:St} {K:St->Prop} {d:Option Nat} {g:Option (Nat×Bool)} {f:Nat} {args:List X} {R:AV->(Nat->Ob)->Prop} (ks:List (Option Nat)) (O:List (Nat×Ob)) (vs2:List AV) (hs:simAs (args.map s.ev) vs2) (hf:jqs s ks O) (h:Inl P f vs2 (lkO O) R) (hk:∀av o',R av o'->K (St.put ⟨s.t,o'⟩ d av)) (hn:jiq (jqZ ks)=true:=by decide):vv P β ⟨d,g,.call f args⟩ s K:=by
 refine qe (jAr (o2:=lkO O) ?_ hs (h.weak hk))
 have hf':∀{ks:List (Option Nat)} {O:List (Nat×Ob)},jqs s ks O->jqs (.only s.o) ks O:=by
  intro ks
  induction ks with
  |nil=>intro O h;cases O<;>first|exact h|exact h.elim
  |cons k ks ih=>
   intro O h;cases O with
   |nil=>cases k<;>exact h.elim
   |cons p O=>cases k<;>exact ⟨h.1,ih h.2⟩
 exact zo (s:=.only s.o) ks (T:=[]) ⟨trivial,hf' hf⟩ hn
attribute [go_sem] jus jsv
def jeo:C:=iS [iA 3 (.box 27 4 (.t 0)),iA 5 (.box 52 8 (.t 2)),iA 6 wAK] (iS [aF 8 3 3,aL 9 8,aM 10 1,aI 11 8 9 10,aT 12 8 11,iA 7 wAL,wAC 7 12] (iS [aF 13 3 3,aL 14 13,aM 15 1,aT 16 8 5,aI 17 8 14 15,wAC 17 16] (iS [aT 18 4 3,aT 19 8 7,aT 20 8 5,iA 21 (iK 115 [18,19,20]),wAA 6 21] .ret)))
theorem jhr:fnC Tryz.prog Tryz.f119=some (jeo,[.cell 6 true 4],22):=by kernel_rfl
abbrev jg2 (b ty:Nat) (now seq:Int) (x2 x3:Value):Ob:=.box b ty [.a (.v (.int .i64 now)),.a (.v (.int .i64 seq)),.a (.v x2),.a (.v x3)]
theorem jfW {k b:Nat} {y:Yd} {r r2:Rn} (hr:y.aLX[k]?=some r) (bZ:r2.aLT.length=r.aLT.length) (lI:r.aLT.length<=12) (h4:y.aLU.length=4) (hq:1<=y.seq/\y.seq<=4000000000) (ht:jt y<=2000000)
 {o:Nat->Ob} {aV cT bP bF:jm} (mA:o 90=ka b tYd y.now y.seq y.aLU aV y.aLX cT) (h97:o 97=.loose (jv r2.aLW.aLY) bP) (h98:o 98=.loose (jC r2.aLT) bF):
 Inl Tryz.prog 119 [.agg [.v (.int .i64 y.now),.v (.int .i64 y.seq),.h 90 2 [] (aV []),.h 90 3 [] (cT [])],Ni k,.agg [.v (.int .i64 r2.id),.v (.int .i64 r2.aLW.aMC),.v (.int .i64 r2.aLW.aMG),.v (.int .i64 r2.aLW.aMF),.v (.int .i64 r2.aLW.aLT),.h 97 0 [] (bP []),.v (.int .i64 r2.aLV),.h 98 0 [] (bF [])]] o
  λav o'=>∃c e2 e3 x2 x3,av=.agg [.v (.int .i64 (kT y k r2).now),.v (.int .i64 (kT y k r2).seq),.h 66 2 [] (e2 []),.h 66 3 [] (e3 [])]/\o' 66=ka c tYd (kT y k r2).now (kT y k r2).seq (kT y k r2).aLU e2 (kT y k r2).aLX e3/\o' 90=jg2 b tYd y.now y.seq x2 x3/\o' 91=o 91/\o' 92=o 92/\o' 93=o 93/\o' 94=o 94/\o' 95=o 95/\o' 96=o 96:=by
 have hk:=(aMI.1 hr).1;have bD:=qT k;refine jvy ?_;refine jlZ (β:=5000000) [[1,0],[1,1,0],[1,1,1,0],[1,1,1,1]] Tryz.func119 jhr (by simp) ?_
 unfold jeo;simp only [C.ghs,C.ghAt,List.foldr];simp only [go_sem,mA,h97,h98];intro c3 c5 c6;refine qa ?_;have hR:jI y.aLX=.sl 8 tRn (jb1 y.aLX k (jc r)):=by rw [jI,jmF hr]
 refine WkK.wk (s':=St.of [(1,Ni k),(3,Bx 3 c3),(5,Bx 5 c5),(6,Bx 66 c6)] [(90,jg2 b tYd y.now y.seq (aV []) (cT [])),(91,o 91),(92,o 92),(93,o 93),(94,o 94),(95,o 95),(96,o 96),(3,vu c3 _ y.now y.seq y.aLU aV (jI y.aLX) cT),(5,ja1 c5 _ r2 bP bF),(66,ZYd c6 _)]) (jy [90,91,92,93,94,95,96,500000300,500000500,500000600] (by simp only [go_sem,jb,ja,jc,jO,mA]<;>trivial)) ?_
 rw [hR];refine jeW 3 3 (k*8+5) 901 (η:=cT) (cs:=r.aLW.aLY.flatMap jR) rfl (jbd hk 5 (by simp [jc,ja])) rfl (by decide) λbH eP yJ mV nW=>?_
 rw [jax hk 5 (by simp [jc,ja])]
 refine jeW 3 3 (k*8+7) 902 (η:=eP) (cs:=r.aLT.flatMap jk) rfl (jbd hk 7 (by simp [jc,ja])) rfl (by decide) λcH i9 yG dQ lR=>?_
 rw [jax hk 7 (by simp [jc,ja])]
 rw [<-mV,<-dQ];rw [<-mV] at nW;rw [<-dQ] at lR;have hV:((jc r).set 5 (.val (bH []))).set 7 (.val (cH []))=rnV r (bH []) (cH []):=rfl;rw [hV];refine WkK.wk (s':=St.of [(1,Ni k),(3,Bx 3 c3),(5,Bx 5 c5),(6,Bx 66 c6)] [(90,jg2 b tYd y.now y.seq (aV []) (cT [])),(91,o 91),(92,o 92),(93,o 93),(94,o 94),(95,o 95),(96,o 96),(3,vu c3 _ y.now y.seq y.aLU aV (.sl 8 tRn (jb1 y.aLX k (rnV r (bH []) (cH [])))) i9),(5,ja1 c5 _ r2 bP bF),(66,ZYd c6 _),(901,.loose (jv r.aLW.aLY) bH),(902,.loose (jC r.aLT) cH)]) (jy [90,91,92,93,94,95,96,3,5,66,901,902] (by simp only [go_sem,jb,ja,jc,jO]<;>trivial)) ?_
 refine WkK.of ?_;have g8:(jb1 y.aLX k (rnV r (bH []) (cH []))).length=y.aLX.length*8:=jje hk rfl;have hd8:y.aLX.length*8/8=y.aLX.length:=aNN _ (by decide)
 have gE:((jb1 y.aLX k (rnV r (bH []) (cH []))).drop (k*8)).take 8=rnV r (bH []) (cH []):=juK hk rfl;have uW:k*8+8<=y.aLX.length*8:=by omega
 have fN:(D.sl 8 tRn (jb1 y.aLX k (rnV r (bH []) (cH [])))).len=y.aLX.length:=jn5 hk rfl;simp only [go_sem,g8,fN,gE,uW,hk,bD,nW,lR];intro c7;refine qa ?_;refine WkK.wk (s':=St.of [(1,Ni k),(3,Bx 3 c3),(5,Bx 5 c5),(6,Bx 66 c6),(7,Bx 7 c7)] [(90,jg2 b tYd y.now y.seq (aV []) (cT [])),(91,o 91),(92,o 92),(93,o 93),(94,o 94),(95,o 95),(96,o 96),(3,vu c3 _ y.now y.seq y.aLU aV (.sl 8 tRn (jb1 y.aLX k (rnV r (bH []) (cH [])))) i9),(5,ja1 c5 _ r2 bP bF),(66,ZYd c6 _),(7,jpw c7 _ r (bH []) (cH [])),(901,.loose (jv r.aLW.aLY) bH),(902,.loose (jC r.aLT) cH)]) (jy [90,91,92,93,94,95,96,3,5,66,500000700,901,902] (by simp only [go_sem,jb,ja,jc,jO]<;>trivial)) ?_
 refine ve 7 5 901 (d:=jv r.aLW.aLY) (η:=bH) rfl rfl rfl ?_;refine ve 7 7 902 (d:=jC r.aLT) (η:=cH) rfl rfl rfl ?_;refine qY 5 5 903 (d:=jv r2.aLW.aLY) (η:=bP) rfl rfl (by decide) λsX=>?_
 refine qY 5 7 904 (d:=jC r2.aLT) (η:=bF) rfl rfl (by decide) λsW=>?_
 refine WkK.of ?_;simp only [go_sem,g8,fN,gE,uW,hk,bD,sX,sW];refine jzt λv7=>?_
 have aBI:D.put [] (k*8) (rnH r2 (bP []) (bF [])) (.sl 8 tRn (jb1 y.aLX k (rnV r (bH []) (cH []))))=.sl 8 tRn (jb1 y.aLX k (rnH r2 (bP []) (bF []))):=by
  simp only [D.put];rw [jxg hk rfl rfl]
 refine qa ?_;refine WkK.wk (s':=St.of [(1,Ni k),(3,Bx 3 c3),(5,Bx 5 c5),(6,Bx 66 c6),(7,Bx 7 c7)] [(90,jg2 b tYd y.now y.seq (aV []) (cT [])),(91,o 91),(92,o 92),(93,o 93),(94,o 94),(95,o 95),(96,o 96),(3,vu c3 _ y.now y.seq y.aLU aV (.sl 8 tRn (jb1 y.aLX k (rnH r2 (bP []) (bF [])))) v7),(5,jpw c5 _ r2 (bP []) (bF [])),(66,ZYd c6 _),(7,ja1 c7 _ r bH cH),(903,.loose (jv r2.aLW.aLY) bP),(904,.loose (jC r2.aLT) bF)]) (jy [90,91,92,93,94,95,96,3,5,66,7,903,904] (by simp only [go_sem,jb,ja,jc,aBI,jO]<;>trivial)) ?_
 refine ve 5 5 903 (d:=jv r2.aLW.aLY) (η:=bP) rfl rfl rfl ?_;refine ve 5 7 904 (d:=jC r2.aLT) (η:=bF) rfl rfl rfl ?_;generalize mU:D.sl 8 tRn (jb1 y.aLX k (rnH r2 (bP []) (bF [])))=dR at*;refine WkK.wk (s':=St.of [(1,Ni k),(3,Bx 3 c3),(5,Bx 5 c5),(6,Bx 66 c6),(7,Bx 7 c7)] [(90,jg2 b tYd y.now y.seq (aV []) (cT [])),(91,o 91),(92,o 92),(93,o 93),(94,o 94),(95,o 95),(96,o 96),(3,vu c3 _ y.now y.seq y.aLU aV dR v7),(5,ja1 c5 _ r2 bP bF),(66,ZYd c6 _),(7,ja1 c7 _ r bH cH)]) (jy [90,91,92,93,94,95,96,3,5,66,7] (by simp only [go_sem,jb,ja,jc,jO]<;>trivial)) ?_
 refine WkK.of ?_;simp only [go_sem,jb,ja,jc];refine qe (qv (β:=7000000) Tryz.func115 jcl (by simp) ?_)
 unfold jca;simp only [go_sem,jh,jk];intro d3 d4 d5 d6;refine jx (jef r2.id) λη=>?_
 simp only [go_sem,jc,ja];obtain ⟨eU,pV⟩:=jzw r2.id;rw [eU];have uF:kT y k r2=⟨y.now,(zl r2.aLW.aMC r2.id (zk r.aLT r2.aLT r2.aLT.length) ((y.aLU[shN r2.id]?).getD default,y.seq)).2,y.aLU.set (shN r2.id) (zl r2.aLW.aMC r2.id (zk r.aLT r2.aLT r2.aLT.length) ((y.aLU[shN r2.id]?).getD default,y.seq)).1,y.aLX.set k r2⟩:=by rw [kT,hr,aMM];rfl
 rw [uF];generalize shN r2.id=n at*;have hn:n<y.aLU.length:=by omega
 have fM:=qT n;obtain ⟨l,hl⟩:=jd hn;have eV:=zp ht (aMJ hl);rw [hl,aMM];refine vo (λi:Nat×jm=>St.of [(3,Bx 3 d3),(4,Bx 4 d4),(5,Bx 5 d5),(6,Bx 6 d6),(7,Ni n),(8,Ni i.1)] [(90,jg2 b tYd y.now y.seq (aV []) (cT [])),(91,o 91),(92,o 92),(93,o 93),(94,o 94),(95,o 95),(96,o 96),(66,ZYd c6 _),(3,vu d3 _ y.now (zl r2.aLW.aMC r2.id (zk r.aLT r2.aLT i.1) (l,y.seq)).2 (y.aLU.set n (zl r2.aLW.aMC r2.id (zk r.aLT r2.aLT i.1) (l,y.seq)).1) i.2 dR v7),(4,ja1 d4 _ r bH cH),(5,ja1 d5 _ r2 bP bF),(6,ZYd d6 _)]) (λi=>i.1<=r2.aLT.length) (λi=>r2.aLT.length-i.1) (0,aV) (jy [90,91,92,93,94,95,96,66,700000300,700000400,700000500,700000600] (by simp only [go_sem,jb,ja,jc,jyR,jfS,jaw hl,jO]<;>trivial)) ?_
 rintro ⟨j,η⟩ hj;dsimp only at hj;have rW:=zY r2.aLW.aMC r2.id (zk r.aLT r2.aLT j) (l,y.seq);have cX:=jdQ r2.aLW.aMC r2.id (zk r.aLT r2.aLT j) (l,y.seq);have gX:=jdK r.aLT r2.aLT j;have eG:=jfR r2.aLW.aMC r2.id (zk r.aLT r2.aLT j) j (l,y.seq);have cQ:=jyQ r.aLT r2.aLT j;dsimp only at rW cX;by_cases aB:j<r2.aLT.length
 ·have aA:(j:Int)<r2.aLT.length:=by omega
  have oN:j<r.aLT.length:=by omega
  have sE:(j:Int)<r.aLT.length:=by omega
  have dU:=qT j;obtain ⟨x,hx⟩:=jd aB;obtain ⟨z,hz⟩:=jd oN;have hw:=kX j;rw [jz7 hx hz] at cQ;have bS:IntKind.i64.wrap ((zl r2.aLW.aMC r2.id (zk r.aLT r2.aLT j) (l,y.seq)).2+1)=(zl r2.aLW.aMC r2.id (zk r.aLT r2.aLT j) (l,y.seq)).2+1:=zy;generalize u7:zl r2.aLW.aMC r2.id (zk r.aLT r2.aLT j) (l,y.seq)=P at*;obtain ⟨sh,fH⟩:∃s,y.aLU.set n P.1=s:=⟨_,rfl⟩;have iZ:sh[n]?=some P.1:=by rw [<-fH];exact aML hn
  have gH:n<sh.length:=by rw [<-fH,aMU];exact hn
  have gQ:∀L,sh.set n L=y.aLU.set n L:=λL=>by rw [<-fH,aNP]
  have gJ:n+1<=(sh.flatMap λes=>[ji es]).length:=by have:=jbf gH;rwa [aMZ] at this
  have aW:((sh.flatMap λes=>[ji es]).drop n).take 1=[ji P.1]:=by have:=jcd iZ;rwa [aMZ] at this
  rw [fH];cases h2:x.aLV !=2
  ·have bI:(x.aLV==2)=true:=by have:x.aLV=2:=by simpa using h2
                               simp [this]
   rw [bI,Bool.true_and] at cQ;cases h3:z.aLV==2
   ·rw [h3,Bool.not_false,if_pos rfl] at cQ
    rw [<-cQ] at eG;simp only [go_sem,ja,jc,jk,aA,dU,aB,oN,sE,zF hx,vi hx,zx hx,qK hx,zF hz,vi hz,zx hz,qK hz,h2,h3];simp only [go_sem,gH,aMZ,aW,gJ,fM];refine jn (jaK P.1 ⟨r2.aLW.aMC,P.2,r2.id,j⟩ (by omega)) (by simp only [go_sem,jh,kn iZ]) λrR=>?_
    simp only [go_sem,jh,kn iZ];simp only [go_sem,gH,aMZ,gJ,aW,fM,jaI,bS,hw,gQ];refine λaH hη'=>?_
    exact ql (j+1,aH) (jy [90,91,92,93,94,95,96,66,3,4,5,6] (by simp only [go_sem,jb,ja,jc,eG,jO]<;>trivial))
   ·rw [h3,Bool.not_true,if_neg (by decide),aNI] at cQ
    simp only [go_sem,ja,jc,jk,aA,dU,aB,oN,sE,zF hx,vi hx,zx hx,qK hx,zF hz,vi hz,zx hz,qK hz,h2,h3,hw];exact ql (j+1,η) (jy [90,91,92,93,94,95,96,66,3,4,5,6] (by simp only [go_sem,jb,ja,jc,cQ,u7,fH,jO]<;>trivial))
  ·have bI:(x.aLV==2)=false:=by simpa using h2
   rw [bI,Bool.false_and,if_neg (by decide),aNI] at cQ
   simp only [go_sem,ja,jc,jk,aA,dU,aB,zF hx,vi hx,zx hx,qK hx,h2,hw];exact ql (j+1,η) (jy [90,91,92,93,94,95,96,66,3,4,5,6] (by simp only [go_sem,jb,ja,jc,cQ,u7,fH,jO]<;>trivial))
 obtain rfl:j=r2.aLT.length:=by omega
 have aA:¬((r2.aLT.length:Nat):Int)<r2.aLT.length:=by omega
 generalize zl r2.aLW.aMC r2.id (zk r.aLT r2.aLT r2.aLT.length) (l,y.seq)=P at*;simp only [go_sem,aA,ja,jc];refine qa ?_;subst mU;refine WkK.wk (s':=St.of [(6,Bx 66 c6)] [(90,jg2 b tYd y.now y.seq (aV []) (cT [])),(91,o 91),(92,o 92),(93,o 93),(94,o 94),(95,o 95),(96,o 96),(66,vu c6 _ y.now P.2 (y.aLU.set n P.1) η (.sl 8 tRn (jb1 y.aLX k (rnH r2 (bP []) (bF [])))) v7),(5,ja1 d5 _ r2 bP bF)]) (jy [90,91,92,93,94,95,96,66,5] (by simp only [go_sem,ja,jc,jO]<;>trivial)) ?_
 refine qY 5 5 901 (d:=jv r2.aLW.aLY) (η:=bP) rfl rfl (by decide) λ_=>?_
 refine qY 5 7 902 (d:=jC r2.aLT) (η:=bF) rfl rfl (by decide) λ_=>?_
 refine qI 66 3 (k*8+5) 901 (η:=v7) (aV:=bP) (cs:=r2.aLW.aLY.flatMap jR) rfl (jbd hk 5 (by simp)) (.inr rfl) rfl (by decide) λz9 _=>?_
 rw [jax hk 5 (by simp)]
 refine qI 66 3 (k*8+7) 902 (η:=z9) (aV:=bF) (cs:=r2.aLT.flatMap jk) rfl (jbd hk 7 (by simp)) (.inr rfl) rfl (by decide) λrS _=>?_
 rw [jax hk 7 (by simp)]
 have bX:(List.set (List.set (rnH r2 (bP []) (bF [])) 5 (.sl 2 tEd (r2.aLW.aLY.flatMap jR))) 7 (.sl 4 tTk (r2.aLT.flatMap jk)))=jc r2:=rfl;rw [bX,jmE hk];refine WkK.of ?_;simp only [go_sem,jb];refine WkK.wk (s':=St.of [] [(66,ka c6 tYd y.now P.2 (y.aLU.set n P.1) η (y.aLX.set k r2) rS),(90,jg2 b tYd y.now y.seq (aV []) (cT [])),(91,o 91),(92,o 92),(93,o 93),(94,o 94),(95,o 95),(96,o 96)]) (jy [66,90,91,92,93,94,95,96] (by simp only [go_sem,jO]<;>trivial)) ?_
 refine WkK.of ⟨c6,η,rS,aV [],cT [],rfl,rfl,rfl,rfl,rfl,rfl,rfl,rfl,rfl⟩
noncomputable def qz (y:Yd) (id aMA tri:Int):Yd:=if zm y id aMA tri=0 then kT y (runAt y id).toNat (kx ((y.aLX[(runAt y id).toNat]?).getD default) aMA) else y
def jdk:C:=iS [iA 4 (.box 27 4 (.t 0)),iA 8 wAK,aN 9 0] (iS [aT 13 4 4,iA 14 (iK 67 [13]),iA 10 wAK,wAA 10 14] (iS [aT 15 4 4,aM 16 1,aM 17 2,aM 18 3,iA 19 (iK 189 [15,16,17,18]),aM 11 19] (.seq (iS [aM 20 11,aQ 21 .neq 3 20 0] (iD 21 (iS [aT 22 4 10,aM 23 11,wAA 8 22,aM 9 23] .ret) .skip)) (iS [aT 24 4 4,aM 25 1,iA 26 (iK 26 [24,25]),aM 12 26] (.seq (.dreg (tA 0 27 (iT 4 10) (tA 1 28 (iM 12) (tA 2 29 (iF 3 10) (tA 3 30 (iL 29) (tA 4 31 (iM 12) (tA 5 32 (iI 8 30 31) (tA 6 33 (iT 8 32) (tA 7 34 (iM 2) (tC 35 (iK 190 [33,34]) [1,0] (tC 36 (iK 119 [27,28,35]) [] (.alt (wAA 8 36) [] (tA 11 9 (iN 0) .done) .stop) .stop) .stop)))))))))) .ret)))))
theorem jgk:fnC Tryz.prog Tryz.f148=some (jdk,[.cell 8 true 4,.t 9],37):=by kernel_rfl
theorem jjS (y:Yd) (id aMA tri:Int) (ht:jt y<=2000000):kg Tryz.prog 148 [.agg (jb y),.c (.val (.int .i64 id)),.c (.val (.int .i64 aMA)),.c (.val (.int .i64 tri))] (.tup [(true,jb (qz y id aMA tri)),(false,[.val (.int .i64 (zm y id aMA tri))])]):=by
 refine vZ [[1,1,1,1,1,0]] Tryz.func148 jgk (by simp) ?_
 unfold jdk;simp only [C.ghs,C.ghAt,List.foldr];simp only [go_sem,jb];intro b4 b8;refine jx (kp y ht) λbC=>?_
 simp only [go_sem,jb];intro b10;refine jx (jfM y id aMA tri ht) λη=>?_
 simp only [go_sem,jb];cases h0:zm y id aMA tri !=0;rotate_left
 ·have hy:qz y id aMA tri=y:=by rw [qz,if_neg (by simpa using h0)]
  simp only [go_sem,jb,h0,hy];refine qm _ _ _ _ _ ?_;simp only [go_sem,jb]
 have eO:zm y id aMA tri=0:=by simpa using h0
 obtain ⟨aC,aK⟩:=jlm eO;obtain ⟨k,r,bT,hr,hid,h8⟩:=kU aK;have hk:=(aMI.1 hr).1;have bD:=qT k;have cD:¬(k:Int)<0:=by omega
 have hY:qz y id aMA tri=kT y k (kx r aMA):=by rw [qz,if_pos eO,bT,aMQ,hr,aMM]
 rw [hY,eO];simp only [go_sem,jb,h0];refine jx (qr y id) λη=>?_
 simp only [go_sem,jb];refine qa ?_;refine WkK.wk (s':=St.of [(2,Ni aMA),(8,Bx 92 b8),(10,Bx 90 b10),(12,Ni k)] [(92,ZYd b8 tYd),(90,ka b10 tYd y.now y.seq y.aLU (bC 2) y.aLX (bC 3))]) (jy [800,1000] (by simp only [go_sem,jb,bT]<;>trivial)) ?_
 refine WkK.of ?_;have fK:=jcT ht (aMJ hr);simp only [go_sem,jb,cD,bD,hk,jkJ hr,je9 hr,jc,ja];refine jn (jkY r aMA fK.1 fK.2) (by simp only [go_sem,jb,jc,ja,kj hr,kz hr]) λdL=>?_
 simp only [go_sem,jb,jc,ja,kj hr,kz hr];have bZ:(kx r aMA).aLT.length=r.aLT.length:=zI r aMA;have lI:r.aLT.length<=12:=(aC.right r (aMJ hr)).le12;generalize kx r aMA=r2 at*;refine jaG [some 90,some 92,some 3505,some 3507] [(90,ka b10 tYd y.now y.seq y.aLU (bC 2) y.aLX (bC 3)),(92,ZYd b8 tYd),(97,.loose (jv r2.aLW.aLY) (dL 5)),(98,.loose (jC r2.aLT) (dL 7))] [.agg [.v (.int .i64 y.now),.v (.int .i64 y.seq),.h 90 2 [] (bC 2 []),.h 90 3 [] (bC 3 [])],Ni k,.agg [.v (.int .i64 r2.id),.v (.int .i64 r2.aLW.aMC),.v (.int .i64 r2.aLW.aMG),.v (.int .i64 r2.aLW.aMF),.v (.int .i64 r2.aLW.aLT),.h 97 0 [] (dL 5 []),.v (.int .i64 r2.aLV),.h 98 0 [] (dL 7 [])]] (by simp only [go_sem]<;>and_intros<;>rfl) (by simp only [go_sem]<;>and_intros<;>rfl) (jfW hr bZ lI aC.four (by have:=aC.seq;omega) ht rfl rfl rfl) ?_
 rintro _ o1 ⟨c,g2,g3,x2,x3,rfl,j99,j90,j91,j92,j93,j94,j95,j96⟩;have j92':o1 92=ZYd b8 tYd:=j92;generalize kT y k r2=z2 at*;simp only [go_sem,j99,j90,j92'];refine qm _ _ _ _ _ ?_;simp only [go_sem,jb,j99,j90,j92']
theorem jb6 {p:Pl} {ts ts':List Tk} (h:∀b:Int,(stT ts' b !=4)=(stT ts b !=4)) (t:Int):ja8 p ts' t=ja8 p ts t:=by
 simp only [ja8,h]
theorem jpI {ts:List Tk} {t:Nat} {x y:Tk} (hx:ts[t]?=some x) (h:(y.aLV !=4)=(x.aLV !=4)) (b:Int):(stT (ts.set t y) b !=4)=(stT ts b !=4):=by
 have ht:=(aMI.1 hx).1;simp only [stT,aNY];by_cases e:t=b.toNat
 ·rw [if_pos e,<-e,if_pos ht,hx];exact h
 ·rw [if_neg e]
theorem jC5 {s:Int} {ts:List Tk} {t:Nat} (ht:t<ts.length) (h1:∀(j:Nat) (x:Tk),ts[j]?=some x->(x.aLV=s↔j=t)):cS s ts=1:=by
 have e:(List.range ts.length).filter (λ(j:Nat)=>stT ts (j:Int)==s)=(List.range ts.length).filter (λj=>j==t):=by
  refine List.filter_congr λj hj=>?_
  rw [aPJ] at hj;have hx:ts[j]?=some ts[j]:=aMK hj;rw [kt hx,Bool.eq_iff_iff,aOO,aOO];exact h1 j _ hx
 have:(List.range ts.length).count t=1:=by rw [List.count_range,if_pos ht]
 simp only [cS,qQ,zh,e,aNT];rw [<-this,List.count_eq_length_filter]
theorem jrv (j:Nat) (x:Tk):((jA j x).aLV !=4)=(x.aLV !=4):=by
 unfold jA;split
 ·rename_i h
  have:(x.aLV !=4)=true:=by simpa using h.1
  rw [this];rfl
 ·rfl
theorem jfQ {f:Nat->Tk->Tk} {ts:List Tk} {j:Nat} {z:Tk} (h:(vn f ts ts.length)[j]?=some z):∃x,ts[j]?=some x/\z=f j x:=by
 simp only [vn,List.getElem?_mapIdx,Option.map_eq_some_iff] at h;obtain ⟨x,hx,rfl⟩:=h;exact ⟨x,hx,by rw [if_pos (aMI.1 hx).1]⟩
theorem taskB_iff {p:Pl} {ts:List Tk} {t:Nat} {x:Tk}:jT p ts t x=true↔(1<=x.aLV/\x.aLV<=6)/\x.aME=ja8 p ts t/\(0<=x.tri/\x.tri<=p.aMG)/\jbz x=true/\vg p x=true:=by
 simp only [jT,inB,aMY,aNC,aOO,and_assoc]
theorem jo0 {r:Rn} {t:Nat} {x:Tk} (h:RunOkP r) (hx:r.aLT[t]?=some x) (hs:x.aLV=3):RunOkP (zC r t x):=by
 obtain ⟨e1,e2,e3,e4⟩:=h.aLX hx hs;have ht:=(aMI.1 hx).1;have bK:=taskB_iff.1 (h.aLT t x hx);have hl:=bK.2.2.2.2
 have xG:x.aME=0/\1<=x.tri:=by
  simpa [vg,hs] using hl
 unfold zC;split
 ·rename_i hm
  have hN:∀j:Int,ja8 r.aLW (r.aLT.set t ⟨2,x.aME,x.tri,0⟩) j=ja8 r.aLW r.aLT j:=jb6 (jpI hx (by simp [hs]))
  have c5:cS 5 (r.aLT.set t ⟨2,x.aME,x.tri,0⟩)=0:=jd6 (jh4 (q:=λs=>s≠5) (by simp) λy hy=>by obtain ⟨k,hk,rfl⟩:=aNO hy;exact jr1 e2 (aMK hk))
  have c6:cS 6 (r.aLT.set t ⟨2,x.aME,x.tri,0⟩)=0:=jd6 (jh4 (q:=λs=>s≠6) (by simp) λy hy=>by obtain ⟨k,hk,rfl⟩:=aNO hy;exact jr1 e3 (aMK hk))
  have aJ:∀z∈r.aLT.set t ⟨2,x.aME,x.tri,0⟩,1<=z.aLV/\z.aLV<=6:=jh4 (q:=λs=>1<=s/\s<=6) (by simp) h.st
  have c2:=jr0 (s:=2) (aML ht:(r.aLT.set t ⟨2,x.aME,x.tri,0⟩)[t]?=some _) rfl;have eF:=jcJ aJ _ (aMV _);change cS 1 _+cS 2 _+cS 3 _+cS 4 _+cS 5 _+cS 6 _=_ at eF;refine ⟨h.id,h.aLW,by rw [aMU];exact h.len,λj z hz=>?_,?_,h.live⟩
  ·dsimp only at hz⊢
   rw [aNY] at hz;by_cases e:t=j
   ·subst e
    rw [if_pos rfl,if_pos ht] at hz;obtain rfl:=aMW hz;rw [taskB_iff,hN];exact ⟨by simp,bK.2.1,bK.2.2.1,rfl,by simp [vg,xG.1,hm]⟩
   ·rw [if_neg e] at hz
    have:=taskB_iff.1 (h.aLT j z hz);rw [taskB_iff,hN];exact this
  ·dsimp only
   rw [e1,jg4,if_neg (by omega),c5,c6,if_neg (by omega),if_neg (by omega),if_pos ⟨rfl,rfl⟩]
 ·rename_i hm
  generalize hT:r.aLT.set t ⟨5,x.aME,x.tri,0⟩=T;have y6:T.length=r.aLT.length:=by rw [<-hT,aMU]
  have hTt:T[t]?=some ⟨5,x.aME,x.tri,0⟩:=by rw [<-hT];exact aML ht
  have hTj:∀j,t≠j->T[j]?=r.aLT[j]?:=λj hj=>by rw [<-hT,aNJ hj]
  rw [<-y6]
  have hM:∀(j:Nat) (z:Tk),(vn jA T T.length)[j]?=some z->(j=t/\z=⟨5,x.aME,x.tri,0⟩)\/j≠t/\∃y,r.aLT[j]?=some y/\((y.aLV=4/\z=y)\/(y.aLV≠4/\z=⟨6,y.aME,y.tri,0⟩)):=by
   intro j z hz;obtain ⟨y,hy,rfl⟩:=jfQ hz;by_cases e:t=j
   ·subst e
    rw [hTt] at hy;obtain rfl:=aMW hy;exact .inl ⟨rfl,by simp [jA]⟩
   ·rw [hTj j e] at hy
    have h5:y.aLV≠5:=jr1 e2 hy;refine .inr ⟨λe'=>e e'.symm,y,hy,?_⟩
    by_cases e4:y.aLV=4
    ·exact .inl ⟨e4,by simp [jA,e4]⟩
    ·exact .inr ⟨e4,by simp [jA,e4,h5]⟩
  have lE:∀b:Int,(stT (vn jA T T.length) b !=4)=(stT r.aLT b !=4):=by
   intro b;rw [<-jpI hx (y:=⟨5,x.aME,x.tri,0⟩) (by simp [hs]),hT]
   simp only [stT,vn,List.getElem?_mapIdx];cases hb:T[b.toNat]? with
   |none=>rfl
   |some z=>simp only [Option.map_some,aMM,if_pos (aMI.1 hb).1,jrv]
  have hN:=λj=>jb6 (p:=r.aLW) lE j
  have aD:(vn jA T T.length).length=T.length:=vX
  have aJ:∀z∈vn jA T T.length,4<=z.aLV/\z.aLV<=6:=λz hz=>by
   obtain ⟨k,hk,rfl⟩:=aNO hz;rcases hM k _ (aMK hk) with ⟨_,h1⟩|⟨_,y,_,⟨h1,h2⟩|⟨_,h2⟩⟩
   ·rw [h1];simp
   ·rw [h2];omega
   ·rw [h2];simp
  have c1:cS 1 (vn jA T T.length)=0:=jd6 λz hz=>by have:=aJ z hz;omega
  have c2:cS 2 (vn jA T T.length)=0:=jd6 λz hz=>by have:=aJ z hz;omega
  have c3:cS 3 (vn jA T T.length)=0:=jd6 λz hz=>by have:=aJ z hz;omega
  have c5:cS 5 (vn jA T T.length)=1:=by
   refine jC5 (t:=t) (by rw [aD,y6];exact ht) λj z hz=>?_
   rcases hM j z hz with ⟨h1,h2⟩|⟨h1,y,_,⟨h2,h3⟩|⟨_,h3⟩⟩
   ·rw [h2];simp [h1]
   ·rw [h3];simp [h1,h2]
   ·rw [h3];simp [h1]
  have eF:=jcJ (λz hz=>by have:=aJ z hz;omega) _ (aMV (vn jA T T.length).length)
  change cS 1 _+cS 2 _+cS 3 _+cS 4 _+cS 5 _+cS 6 _=_ at eF;refine ⟨h.id,h.aLW,by dsimp only;rw [aD,y6];exact h.len,λj z hz=>?_,?_,by simp⟩
  ·dsimp only at hz⊢
   rw [taskB_iff,hN];rcases hM j z hz with ⟨rfl,rfl⟩|⟨h1,y,hy,⟨h2,rfl⟩|⟨h2,rfl⟩⟩
   ·exact ⟨by simp,bK.2.1,bK.2.2.1,rfl,by simp [vg,xG.1,xG.2]⟩
   ·exact taskB_iff.1 (h.aLT j _ hy)
   ·have h3:=taskB_iff.1 (h.aLT j _ hy)
    exact ⟨by simp,h3.2.1,h3.2.2.1,rfl,by simp [vg]⟩
  ·dsimp only
   rw [jg4,if_neg (by omega),if_pos ⟨c5,by omega⟩]
theorem jpL {r:Rn} (t:Int) (h:RunOkP r):RunOkP (jz r t):=by
 cases hr:vL r t with
 |false=>rw [je3 hr];exact h
 |true=>
  obtain ⟨k,x,rfl,hx,hs,_⟩:=jbc hr;rw [qR hx hr];exact jo0 h hx hs
theorem je2 {r:Rn} {t:Nat} {x:Tk} (h:RunOkP r) (hx:r.aLT[t]?=some x) (hs:x.aLV=3):vL r t=true:=by
 have ht:=(aMI.1 hx).1;simp only [vL,inB,aMY,aNC,aOO,kt hx,runOk_iff];exact ⟨⟨by omega,hs⟩,h⟩
theorem jlG {r:Rn} {t:Int} {j:Nat} {z:Tk} (hz:(jz r t).aLT[j]?=some z) (hs:z.aLV=3):r.aLT[j]?=some z:=by
 cases hr:vL r t with
 |false=>rwa [je3 hr] at hz
 |true=>
  obtain ⟨k,x,rfl,hx,lG,_⟩:=jbc hr;rw [qR hx hr,zC] at hz;have hk:=(aMI.1 hx).1;split at hz
  ·dsimp only at hz
   rw [aNY] at hz;by_cases e:k=j
   ·subst e
    rw [if_pos rfl,if_pos hk] at hz;obtain rfl:=aMW hz;cases hs
   ·rw [if_neg e] at hz;exact hz
  ·dsimp only at hz
   have e:r.aLT.length=(r.aLT.set k ⟨5,x.aME,x.tri,0⟩).length:=by rw [aMU]
   rw [e] at hz;obtain ⟨y,hy,rfl⟩:=jfQ hz;unfold jA at hs;split at hs
   ·cases hs
   ·rename_i h
    exact absurd ⟨by omega,by omega⟩ h
theorem jaH (r:Rn) (t:Int):(jz r t).id=r.id/\(jz r t).aLW=r.aLW:=by
 unfold jz;split
 ·unfold zC;split<;>exact ⟨rfl,rfl⟩
 ·exact ⟨rfl,rfl⟩
structure LaterP (y z:Yd):Prop where
 len:z.aLX.length=y.aLX.length
 aLX:∀(k:Nat) (r:Rn),y.aLX[k]?=some r->∃r',z.aLX[k]?=some r'/\r'.id=r.id/\r'.aLW=r.aLW/\RunOkP r'/\r'.aLT.length=r.aLT.length/\∀(t:Nat) (x:Tk),r'.aLT[t]?=some x->x.aLV=3->r.aLT[t]?=some x
theorem LaterP.refl {y:Yd} (h:YardOkP y):LaterP y y:=⟨rfl,λk r hr=>⟨r,hr,rfl,rfl,h.right r (aMJ hr),rfl,λ_ _ h _=>h⟩⟩
theorem jxe:∀{l m:List Rn} (id:Int),l.map (·.id)=m.map (·.id)->jg8 l id=jg8 m id:=by
 intro l m id h;have e:∀l:List Rn,l.findIdx? (λr=>r.id==id)=(l.map (·.id)).findIdx? (· ==id):=λl=>by rw [List.findIdx?_map];rfl
 simp only [jg8,e,h]
theorem LaterP.ids {y z:Yd} (h:LaterP y z):z.aLX.map (·.id)=y.aLX.map (·.id):=by
 apply aOR
 intro k;simp only [aPG];cases hr:y.aLX[k]? with
 |none=>
  have:z.aLX[k]?=none:=by rw [aPB] at hr⊢;rw [h.len];exact hr
  rw [this]
 |some r=>
  obtain ⟨r',h1,h2,_⟩:=h.aLX k r hr;rw [h1];simp [h2]
theorem LaterP.runAt {y z:Yd} (h:LaterP y z) (id:Int):runAt z id=runAt y id:=by
 unfold Go.Proofs.YtcehjhiglmifjaaGreat.runAt;rw [h.len,jxe id h.ids]
noncomputable def failK (y:Yd) (k t:Nat):Yd:=if stT ((y.aLX[k]?).getD default).aLT t==3 then kT y k (jz ((y.aLX[k]?).getD default) t) else y
theorem jbw (y:Yd) (k:Nat) (r:Rn):(kT y k r).aLX=y.aLX.set k r:=rfl
theorem LaterP.fail {y z:Yd} (h:LaterP y z) (k t:Nat):LaterP y (failK z k t):=by
 unfold failK;split
 ·cases hk:y.aLX[k]? with
  |none=>
   have mO:z.aLX[k]?=none:=by rw [aPB] at hk⊢;rw [h.len];exact hk
   rename_i hs;rw [mO] at hs;simp [stT] at hs;cases hs
  |some r=>
   obtain ⟨r',h1,h2,h3,h4,h5,h6⟩:=h.aLX k r hk;have yZ:=(aMI.1 h1).1;rw [h1,aMM];refine ⟨by rw [jbw,aMU];exact h.len,λj q hq=>?_⟩
   rw [jbw,aNY];by_cases e:k=j
   ·subst e
    rw [hk] at hq;obtain rfl:=aMW hq;rw [if_pos rfl,if_pos yZ];have hi:=jaH r' t;refine ⟨_,rfl,by rw [hi.1];exact h2,by rw [hi.2];exact h3,jpL _ h4,by rw [kF];exact h5,λi x hx hs=>h6 i x (jlG hx hs) hs⟩
   ·rw [if_neg e];exact h.aLX j q hq
 ·exact h
structure StepI (y z:Yd) (i:Nat):Prop where
 later:LaterP y z
 four:z.aLU.length=4
 seq:1<=z.seq/\z.seq<=1000000000+12*i
 tot:jt z<=jt y+12*i
 now:z.now=y.now
theorem StepI.refl {y:Yd} (h:YardOkP y):StepI y y 0:=⟨.refl h,h.four,by have:=h.seq;omega,aMV _,rfl⟩
theorem StepI.mono {y z:Yd} {i j:Nat} (h:StepI y z i) (hij:i<=j):StepI y z j:=⟨h.later,h.four,by have:=h.seq;omega,by have:=h.tot;omega,h.now⟩
theorem jmn {y:Yd} {k:Nat} {r r2:Rn} (hr:y.aLX[k]?=some r) (ht:kQ r2=kQ r) (hl:r2.aLT.length<=12):jt (kT y k r2)<=jt y+12:=by
 have h1:=jt1 (y:=⟨y.now,y.seq,y.aLU,y.aLX.set k r2⟩) (r:=r2) (ids:=zk ((y.aLX[k]?).getD default).aLT r2.aLT r2.aLT.length);have h2:=jdK ((y.aLX[k]?).getD default).aLT r2.aLT r2.aLT.length;have h3:=qB (f:=kQ) r2 hr
 have h4:jt ⟨y.now,y.seq,y.aLU,y.aLX.set k r2⟩=jt y:=by
  simp only [jt,jac,aMU];omega
 rw [kT];omega
theorem jw9 (y:Yd) (k:Nat) (r2:Rn):y.seq<=(kT y k r2).seq/\(kT y k r2).seq<=y.seq+r2.aLT.length:=by
 have h2:=jdK ((y.aLX[k]?).getD default).aLT r2.aLT r2.aLT.length;have h1:=zY r2.aLW.aMC r2.id (zk ((y.aLX[k]?).getD default).aLT r2.aLT r2.aLT.length) ((y.aLU[shN r2.id]?).getD default,y.seq);have e:(kT y k r2).seq=(zl r2.aLW.aMC r2.id (zk ((y.aLX[k]?).getD default).aLT r2.aLT r2.aLT.length) ((y.aLU[shN r2.id]?).getD default,y.seq)).2:=rfl;rw [e,h1];dsimp only;omega
theorem jvJ (y:Yd) (k:Nat) (r2:Rn):(kT y k r2).aLU.length=y.aLU.length:=by
 have e:(kT y k r2).aLU=y.aLU.set (shN r2.id) (zl r2.aLW.aMC r2.id (zk ((y.aLX[k]?).getD default).aLT r2.aLT r2.aLT.length) ((y.aLU[shN r2.id]?).getD default,y.seq)).1:=rfl;rw [e,aMU]
theorem StepI.fail {y z:Yd} {i:Nat} (h:StepI y z i) (k t:Nat):StepI y (failK z k t) (i+1):=by
 have hL:=h.later.fail k t;cases hc:(stT ((z.aLX[k]?).getD default).aLT t==3) with
 |false=>
  have e:failK z k t=z:=by unfold failK;rw [hc];rfl
  rw [e];exact h.mono (Nat.le_succ i)
 |true=>
  have e:failK z k t=kT z k (jz ((z.aLX[k]?).getD default) t):=by unfold failK;rw [hc];rfl
  cases hk:y.aLX[k]? with
  |none=>
   have mO:z.aLX[k]?=none:=by rw [aPB] at hk⊢;rw [h.later.len];exact hk
   rw [mO] at hc;simp [stT] at hc;cases hc
  |some r=>
   obtain ⟨r',h1,h2,h3,h4,h5,h6⟩:=h.later.aLX k r hk;rw [h1,aMM] at e;have hl:=kF r' t;have cC:=h4.le12;have hs:=jw9 z k (jz r' t);have:=h.seq;have:=h.tot;have hT:=jmn (r2:=jz r' t) h1 (jh5 r' t) (by omega)
   rw [e] at hL⊢;exact ⟨hL,by rw [jvJ];exact h.four,by omega,by omega,h.now⟩
theorem jl3 {y z:Yd} (h:LaterP y z) {k t:Nat} {r:Rn} {x:Tk} (hk:y.aLX[k]?=some r) (nS:runAt y r.id=k) (hx:r.aLT[t]?=some x):qw z r.id t x.tri=(stT ((z.aLX[k]?).getD default).aLT t==3):=by
 obtain ⟨r',h1,h2,h3,h4,h5,h6⟩:=h.aLX k r hk;have ht:=(aMI.1 hx).1;have bQ:r'.aLT[t]?=some r'.aLT[t]:=aMK (by omega)
 have hn:¬((k:Int)<0):=by omega
 have hT:jad z r.id t=some r'.aLT[t]:=by
  simp only [jad,h.runAt,nS,hn,if_false,aMQ,h1];rw [if_pos (by omega)];exact bQ
 rw [h1,aMM,kt bQ];simp only [qw,hT];cases hs:(r'.aLT[t].aLV==3) with
 |false=>rfl
 |true=>
  have lG:r'.aLT[t].aLV=3:=by simpa using hs
  have:=h6 t _ bQ lG;rw [hx] at this;rw [aMW this];simp
noncomputable def restT (z:Yd) (k:Nat):Nat->Yd
 |0=>z
 |t+1=>failK (restT z k t) k t
noncomputable def restR (y:Yd):Nat->Yd
 |0=>y
 |k+1=>restT (restR y k) k ((y.aLX[k]?).getD default).aLT.length
theorem StepI.restT {y z:Yd} {i:Nat} (h:StepI y z i) (k:Nat):∀t,StepI y (restT z k t) (i+t)
 |0=>h
 |t+1=>(StepI.restT h k t).fail k t
theorem StepI.restR {y:Yd} (h:YardOkP y):∀k,StepI y (restR y k) (12*k)
 |0=>.refl h
 |k+1=>by
  refine ((StepI.restR h k).restT k _).mono ?_;cases hk:y.aLX[k]? with
  |none=>rw [Option.getD_none];have:(default:Rn).aLT.length=0:=rfl;omega
  |some r=>
   have:=(h.right r (aMJ hk)).le12;rw [aMM];omega
noncomputable def jbG (y:Yd):Yd:=if jw y then restR y y.aLX.length else y
theorem jrD {y:Yd} {id aMA tri:Int} {k:Nat} {r:Rn} (h:zm y id aMA tri=0) (hk:runAt y id=(k:Int)) (hr:y.aLX[k]?=some r):∃t:Nat,aMA=(t:Int)/\vL r aMA=true:=by
 have aC:=(jlm h).1
 have hh:qw y id aMA tri=true:=by
  unfold zm at h;split at h
  ·cases h
  split at h
  ·cases h
  split at h
  ·cases h
  ·rename_i h3;simpa using h3
 unfold qw at hh;rcases zd y id aMA with ⟨_,h2⟩|⟨k',r',h1,h2,⟨_,h3⟩|⟨j,x,hj,hx,h3⟩⟩
 ·rw [h2] at hh;cases hh
 ·rw [h3] at hh;cases hh
 ·rw [h3] at hh
  obtain rfl:k=k':=by omega
  obtain rfl:r=r':=by rw [hr] at h2;exact aMW h2
  refine ⟨j,hj,?_⟩;subst hj;have hl:=(aMI.1 hx).1;simp only [aMY,aOO] at hh;have hR:=aC.right r (aMJ hr);simp only [vL,inB,aMY,aNC,aOO,kt hx,runOk_iff];exact ⟨⟨by omega,hh.1⟩,hR⟩
def jdv:C:=iS [iA 4 (.box 27 4 (.t 0)),iA 6 (.box 3 1 (.t 2)),iA 8 wAK,aN 9 0] (iS [aT 12 4 4,iA 13 (iK 61 [12]),iA 10 wAK,wAA 10 13] (iS [aT 14 4 4,aM 15 1,aL 16 6,aM 17 3,iA 18 (iK 122 [14,15,16,17]),aM 11 18] (.seq (iS [aM 19 11,aQ 20 .eql 3 19 0] (iD 20 (.reg [aT 21 4 4,aM 22 1,iA 23 (iK 25 [21,22]),iA 24 (.mkf 123 [.t 6]),iA 25 (iK 116 [10,23,24])]) .skip)) (iS [aT 26 4 10,aM 27 11,wAA 8 26,aM 9 27] .ret))))
theorem jgt:fnC Tryz.prog Tryz.f55=some (jdv,[.cell 8 true 4,.t 9],28):=by kernel_rfl
def jbV:C:=.reg [aM 3 0,aL 4 1,iA 5 (iK 124 [3,4])]
theorem jd5:fnC Tryz.prog Tryz.f123=some (jbV,[],6):=by kernel_rfl
theorem jnw {k t b6:Nat} {y:Yd} {r:Rn} (hr:y.aLX[k]?=some r) (aS:vL r t=true):jwH Tryz.prog 123 [.bp 91 0 b6] (.box b6 jg3 [.a (.v (.int .i64 t))]) k y (kx r t):=by
 intro o b e2 e3 mA nM;refine ji7 (β:=6000000) Tryz.func123 jd5 (by simp) ?_
 unfold jbV;simp only [go_sem,nM];refine kL (by simp only [go_sem]) (jAA hr aS _ b e2 e3 (by simp only [go_sem];exact mA)) ?_
 rintro _ o1 ⟨rfl,j90,j91,j92,j93,j94,j95,j96,j97⟩;simp only [go_sem] at j91 j92 j93 j94 j95 j96 j97;rw [nM] at j91;exact ⟨.tup [],⟨by decide,rfl⟩,rfl,rfl,j90,j91,j92,j93,j94,j95,j96,j97⟩
theorem vq (y:Yd) (id aMA tri:Int) (ht:jt y<=2000000):kg Tryz.prog 55 [.agg (jb y),.c (.val (.int .i64 id)),.c (.val (.int .i64 aMA)),.c (.val (.int .i64 tri))] (.tup [(true,jb (qz y id aMA tri)),(false,[.val (.int .i64 (zm y id aMA tri))])]):=by
 refine vZ [[1,1,1,0,1,0]] Tryz.func55 jgt (by simp) ?_
 unfold jdv;simp only [C.ghs,C.ghAt,List.foldr];simp only [go_sem,jb];intro b4 b6 b8;refine jx (ke y ht) λbC=>?_
 simp only [go_sem,jb];intro b10;refine jx (jjT y id aMA tri ht) λη=>?_
 simp only [go_sem,jb];cases h0:zm y id aMA tri==0
 ·have hy:qz y id aMA tri=y:=by rw [qz,if_neg (by simpa using h0)]
  simp only [go_sem,jb,h0,hy];refine qm _ _ _ _ _ ?_;simp only [go_sem,jb]
 have eO:zm y id aMA tri=0:=by simpa using h0
 obtain ⟨aC,aK⟩:=jlm eO;obtain ⟨k,r,bT,hr,hid,h8⟩:=kU aK;obtain ⟨t,rfl,aS⟩:=jrD eO bT hr;have hY:qz y id t tri=kT y k (kx r t):=by rw [qz,if_pos eO,bT,aMQ,hr,aMM]
 have lI:r.aLT.length<=12:=(aC.right r (aMJ hr)).le12;rw [hY,eO];simp only [go_sem,jb,h0];refine qa ?_;generalize bC 2=aV at*;generalize bC 3=cT at*;refine WkK.wk (s':=St.of [(1,Ni id),(4,Bx 93 b4),(6,Bx 91 b6),(8,Bx 92 b8),(10,Bx 90 b10),(11,Ni 0)] [(93,Bi b4 tYd (jb y)),(91,.box b6 jg3 [.a (.v (.int .i64 t))]),(92,ZYd b8 tYd),(90,ka b10 tYd y.now y.seq y.aLU aV y.aLX cT)]) (jy [400,600,800,1000] (by simp only [go_sem,jb]<;>trivial)) ?_
 refine WkK.of ?_;simp only [go_sem,jb];refine jx (qg y id) λη=>?_
 simp only [go_sem,jb];rw [bT];refine kL (vs:=[Bx 90 b10,Ni k,.fn 123 [.bp 91 0 b6]]) (by simp only [go_sem]) (jdR hr (zI r t) lI aC.four (by have:=aC.seq;omega) ht (jnw hr aS) (e2:=aV) (e3:=cT) (by simp only [go_sem]) (by simp only [go_sem])) ?_
 rintro _ o1 ⟨rfl,⟨e2',e3',j90⟩,j91,j92,j93,j94,j95,j96⟩;simp only [go_sem] at j92;generalize kT y k (kx r t)=y2 at*;simp only [go_sem,j90,j92];refine qm _ _ _ _ _ ?_;simp only [go_sem,jb]
theorem jnm {k t:Nat} {y:Yd} {r:Rn} (hr:y.aLX[k]?=some r) (aS:vL r t=true):EpK Tryz.prog 118 k t y (jz r t):=by
 intro o b10 e2 e3 hU;refine qv (β:=7000000) Tryz.func118 jkt (by simp) ?_
 unfold jil;obtain ⟨t',x,dK,hx,hs,hP⟩:=jbc aS;obtain rfl:t=t':=by omega
 obtain ⟨n,hn,d8,cC,dS,bV,aX,-⟩:=jcH hP.aLW;have aD:=hP.len;have cZ:=(aMI.1 hr).1;have dV:=(aMI.1 hx).1;have eY:=qT t;have bW:(r.aLT.set t ⟨x.aLV,x.aME,x.tri,0⟩)[t]?=some ⟨x.aLV,x.aME,x.tri,0⟩:=aML dV;have hS:∀r':Rn,(y.aLX.set k r')[k]?=some r':=λr'=>aML cZ
 have q1:=hS ⟨r.id,r.aLW,r.aLV,r.aLT.set t ⟨x.aLV,x.aME,x.tri,0⟩⟩;simp only [go_sem,hU,aMX,dV,eY,qL hr,qU hr,jW hr,jj6 hx,jwu hx,va hr (je4 hx 0),qL q1,qU q1,jW q1,jmg bW,jl0 bW,jDd q1,jCz q1];by_cases hm:x.tri<r.aLW.aMG
 ·have hR:jz r t=⟨r.id,r.aLW,r.aLV,r.aLT.set t ⟨2,x.aME,x.tri,0⟩⟩:=by rw [qR hx aS,zC,if_pos hm]
  simp only [go_sem,aMX,hm,hR,qL q1,qU q1,jW q1,zF bW,vi bW,zx bW,qK bW,va q1 (jbp bW 2),va q1 (zX bW 2),aNP];exact ⟨rfl,rfl,rfl,rfl,rfl,rfl⟩
 have hR:jz r t=⟨r.id,r.aLW,3,vn jA (r.aLT.set t ⟨5,x.aME,x.tri,0⟩) r.aLT.length⟩:=by rw [qR hx aS,zC,if_neg hm]
 rw [hR,<-jqy hP hx hs];simp only [go_sem,aMX,hm,qL q1,qU q1,jW q1,zF bW,vi bW,zx bW,qK bW,va q1 (jbp bW 5),va q1 (zX bW 5),aNP];have cP:(r.aLT.set t ⟨5,x.aME,x.tri,0⟩).length=r.aLT.length:=by rw [aMU]
 generalize r.aLT.set t ⟨5,x.aME,x.tri,0⟩=ts0 at*;refine qe (qv (β:=8000000) Tryz.func171 jda (by simp) ?_)
 unfold jdq;have q2:=hS ⟨r.id,r.aLW,r.aLV,ts0⟩;simp only [go_sem,aMX,qL q2,qU q2,jW q2];refine vo (λi:Nat=>St.of [(0,.c (.ep 90 3 [] (k*8) (e3 []))),(1,Ni t),(10,Ni ts0.length),(11,Ni i)] [(90,ka b10 tYd y.now y.seq y.aLU e2 (y.aLX.set k ⟨r.id,r.aLW,r.aLV,vn (qu t) ts0 i⟩) e3),(91,o 91),(92,o 92),(93,o 93),(94,o 94),(95,o 95),(96,o 96),(97,o 97)]) (λi=>i<=ts0.length) (λi=>ts0.length-i) 0 (jy [90,91,92,93,94,95,96,97] (by simp only [go_sem,jc,ja,jrt,jO]<;>trivial)) ?_
 rintro j hj;have d9:=vX (f:=qu t) (ts:=ts0) (k:=j);by_cases aB:j<ts0.length
 ·have aA:(j:Int)<ts0.length:=by omega
  have dU:=qT j;obtain ⟨z,hz⟩:=jd aB;have eE:=jfP (f:=qu t) hz;have cJ:=jfO (f:=qu t) hz;have mK:=joA (f:=qu t) hz;generalize vn (qu t) ts0 j=M at*;have hw:=kX j;have iX:j<M.length:=by omega
  have p1:=hS ⟨r.id,r.aLW,r.aLV,M⟩;cases aR:(j:Int) !=(t:Int)
  ·have hg:qu t j z=z:=by have:(j:Int)=t:=by simpa using aR
                          simp [qu,this]
   have hq:=mK hg;simp only [go_sem,jc,ja,aMX,d9,aA,dU,aB,qL p1,qU p1,jW p1,aR,hw];exact ql (j+1) (jy [90,91,92,93,94,95,96,97] (by simp only [go_sem,jc,ja,hq,jO]<;>trivial))
  have bO:¬(j:Int)=t:=by simpa using aR
  cases eX:z.aLV !=4
  ·have hg:qu t j z=z:=by have:z.aLV=4:=by simpa using eX
                          simp [qu,this]
   have hq:=mK hg;simp only [go_sem,jc,ja,aMX,d9,aA,dU,aB,qL p1,qU p1,jW p1,aR,zF eE,zx eE,vi eE,qK eE,eX,hw];exact ql (j+1) (jy [90,91,92,93,94,95,96,97] (by simp only [go_sem,jc,ja,hq,jO]<;>trivial))
  ·have hg:qu t j z=⟨6,z.aME,z.tri,0⟩:=by
    have h1:¬z.aLV=4:=by simpa using eX
    simp [qu,h1,bO]
   rw [hg] at cJ;have mX:(M.set j ⟨6,z.aME,z.tri,z.til⟩)[j]?=some ⟨6,z.aME,z.tri,z.til⟩:=aML iX;have p2:=hS ⟨r.id,r.aLW,r.aLV,M.set j ⟨6,z.aME,z.tri,z.til⟩⟩;simp only [go_sem,jc,ja,aMX,d9,aA,dU,aB,qL p1,qU p1,jW p1,aR,zF eE,zx eE,vi eE,qK eE,eX,va p1 (jbp eE 6),va p1 (zX eE 6),qL p2,qU p2,jW p2,va p2 (je4 mX 0),jj6 mX,jwu mX,aNP,cJ,hw];exact ql (j+1) (jy [90,91,92,93,94,95,96,97] (by simp only [go_sem,jc,ja,jO]<;>trivial))
 have aA:¬(j:Int)<ts0.length:=by omega
 obtain rfl:j=ts0.length:=by omega
 rw [<-cP];generalize vn (qu t) ts0 ts0.length=M at*;have p3:=hS ⟨r.id,r.aLW,r.aLV,M⟩;simp only [go_sem,jc,ja,aMX,d9,aA,jzb p3,jyU p3,juU p3,aNP];exact ⟨rfl,rfl,rfl,rfl,rfl,rfl⟩
noncomputable def vp (y:Yd) (id aMA tri:Int):Yd:=if zm y id aMA tri=0 then kT y (runAt y id).toNat (jz ((y.aLX[(runAt y id).toNat]?).getD default) aMA) else y
def jkA:C:=iS [iA 4 (.box 27 4 (.t 0)),iA 8 wAK,aN 9 0] (iS [aT 13 4 4,iA 14 (iK 67 [13]),iA 10 wAK,wAA 10 14] (iS [aT 15 4 4,aM 16 1,aM 17 2,aM 18 3,iA 19 (iK 189 [15,16,17,18]),aM 11 19] (.seq (iS [aM 20 11,aQ 21 .neq 3 20 0] (iD 21 (iS [aT 22 4 10,aM 23 11,wAA 8 22,aM 9 23] .ret) .skip)) (iS [aT 24 4 4,aM 25 1,iA 26 (iK 26 [24,25]),aM 12 26] (.seq (.dreg (tA 0 27 (iT 4 10) (tA 1 28 (iM 12) (tA 2 29 (iF 3 10) (tA 3 30 (iL 29) (tA 4 31 (iM 12) (tA 5 32 (iI 8 30 31) (tA 6 33 (iT 8 32) (tA 7 34 (iM 2) (tC 35 (iK 120 [33,34]) [1,0] (tC 36 (iK 119 [27,28,35]) [] (.alt (wAA 8 36) [] (tA 11 9 (iN 0) .done) .stop) .stop) .stop)))))))))) .ret)))))
theorem jlf:fnC Tryz.prog Tryz.f149=some (jkA,[.cell 8 true 4,.t 9],37):=by kernel_rfl
theorem jpY (y:Yd) (id aMA tri:Int) (ht:jt y<=2000000):kg Tryz.prog 149 [.agg (jb y),.c (.val (.int .i64 id)),.c (.val (.int .i64 aMA)),.c (.val (.int .i64 tri))] (.tup [(true,jb (vp y id aMA tri)),(false,[.val (.int .i64 (zm y id aMA tri))])]):=by
 refine vZ [[1,1,1,1,1,0]] Tryz.func149 jlf (by simp) ?_
 unfold jkA;simp only [C.ghs,C.ghAt,List.foldr];simp only [go_sem,jb];intro b4 b8;refine jx (kp y ht) λbC=>?_
 simp only [go_sem,jb];intro b10;refine jx (jfM y id aMA tri ht) λη=>?_
 simp only [go_sem,jb];cases h0:zm y id aMA tri !=0;rotate_left
 ·have hy:vp y id aMA tri=y:=by rw [vp,if_neg (by simpa using h0)]
  simp only [go_sem,jb,h0,hy];refine qm _ _ _ _ _ ?_;simp only [go_sem,jb]
 have eO:zm y id aMA tri=0:=by simpa using h0
 obtain ⟨aC,aK⟩:=jlm eO;obtain ⟨k,r,bT,hr,hid,h8⟩:=kU aK;have hk:=(aMI.1 hr).1;have bD:=qT k;have cD:¬(k:Int)<0:=by omega
 have hY:vp y id aMA tri=kT y k (jz r aMA):=by rw [vp,if_pos eO,bT,aMQ,hr,aMM]
 rw [hY,eO];simp only [go_sem,jb,h0];refine jx (qr y id) λη=>?_
 simp only [go_sem,jb];refine qa ?_;refine WkK.wk (s':=St.of [(2,Ni aMA),(8,Bx 92 b8),(10,Bx 90 b10),(12,Ni k)] [(92,ZYd b8 tYd),(90,ka b10 tYd y.now y.seq y.aLU (bC 2) y.aLX (bC 3))]) (jy [800,1000] (by simp only [go_sem,jb,bT]<;>trivial)) ?_
 refine WkK.of ?_;have fK:=jcT ht (aMJ hr);simp only [go_sem,jb,cD,bD,hk,jkJ hr,je9 hr,jc,ja];refine jn (jaJ r aMA fK.1 fK.2) (by simp only [go_sem,jb,jc,ja,kj hr,kz hr]) λdL=>?_
 simp only [go_sem,jb,jc,ja,kj hr,kz hr];have bZ:(jz r aMA).aLT.length=r.aLT.length:=kF r aMA;have lI:r.aLT.length<=12:=(aC.right r (aMJ hr)).le12;generalize jz r aMA=r2 at*;refine jaG [some 90,some 92,some 3505,some 3507] [(90,ka b10 tYd y.now y.seq y.aLU (bC 2) y.aLX (bC 3)),(92,ZYd b8 tYd),(97,.loose (jv r2.aLW.aLY) (dL 5)),(98,.loose (jC r2.aLT) (dL 7))] [.agg [.v (.int .i64 y.now),.v (.int .i64 y.seq),.h 90 2 [] (bC 2 []),.h 90 3 [] (bC 3 [])],Ni k,.agg [.v (.int .i64 r2.id),.v (.int .i64 r2.aLW.aMC),.v (.int .i64 r2.aLW.aMG),.v (.int .i64 r2.aLW.aMF),.v (.int .i64 r2.aLW.aLT),.h 97 0 [] (dL 5 []),.v (.int .i64 r2.aLV),.h 98 0 [] (dL 7 [])]] (by simp only [go_sem]<;>and_intros<;>rfl) (by simp only [go_sem]<;>and_intros<;>rfl) (jfW hr bZ lI aC.four (by have:=aC.seq;omega) ht rfl rfl rfl) ?_
 rintro _ o1 ⟨c,g2,g3,x2,x3,rfl,j99,j90,j91,j92,j93,j94,j95,j96⟩;have j92':o1 92=ZYd b8 tYd:=j92;generalize kT y k r2=z2 at*;simp only [go_sem,j99,j90,j92'];refine qm _ _ _ _ _ ?_;simp only [go_sem,jb,j99,j90,j92']
def jkE:C:=iS [iA 4 (.box 27 4 (.t 0)),iA 6 (.box 3 1 (.t 2)),iA 8 wAK,aN 9 0] (iS [aT 12 4 4,iA 13 (iK 61 [12]),iA 10 wAK,wAA 10 13] (iS [aT 14 4 4,aM 15 1,aL 16 6,aM 17 3,iA 18 (iK 122 [14,15,16,17]),aM 11 18] (.seq (iS [aM 19 11,aQ 20 .eql 3 19 0] (iD 20 (.reg [aT 21 4 4,aM 22 1,iA 23 (iK 25 [21,22]),iA 24 (.mkf 125 [.t 6]),iA 25 (iK 116 [10,23,24])]) .skip)) (iS [aT 26 4 10,aM 27 11,wAA 8 26,aM 9 27] .ret))))
theorem jlk:fnC Tryz.prog Tryz.f56=some (jkE,[.cell 8 true 4,.t 9],28):=by kernel_rfl
def jgX:C:=.reg [aM 3 0,aL 4 1,iA 5 (iK 118 [3,4])]
theorem ji2:fnC Tryz.prog Tryz.f125=some (jgX,[],6):=by kernel_rfl
theorem jwe {k t b6:Nat} {y:Yd} {r:Rn} (hr:y.aLX[k]?=some r) (aS:vL r t=true):jwH Tryz.prog 125 [.bp 91 0 b6] (.box b6 jg3 [.a (.v (.int .i64 t))]) k y (jz r t):=by
 intro o b e2 e3 mA nM;refine ji7 (β:=6000000) Tryz.func125 ji2 (by simp) ?_
 unfold jgX;simp only [go_sem,nM];refine kL (by simp only [go_sem]) (jnm hr aS _ b e2 e3 (by simp only [go_sem];exact mA)) ?_
 rintro _ o1 ⟨rfl,j90,j91,j92,j93,j94,j95,j96,j97⟩;simp only [go_sem] at j91 j92 j93 j94 j95 j96 j97;rw [nM] at j91;exact ⟨.tup [],⟨by decide,rfl⟩,rfl,rfl,j90,j91,j92,j93,j94,j95,j96,j97⟩
theorem je7 (y:Yd) (id aMA tri:Int) (ht:jt y<=2000000):kg Tryz.prog 56 [.agg (jb y),.c (.val (.int .i64 id)),.c (.val (.int .i64 aMA)),.c (.val (.int .i64 tri))] (.tup [(true,jb (vp y id aMA tri)),(false,[.val (.int .i64 (zm y id aMA tri))])]):=by
 refine vZ [[1,1,1,0,1,0]] Tryz.func56 jlk (by simp) ?_
 unfold jkE;simp only [C.ghs,C.ghAt,List.foldr];simp only [go_sem,jb];intro b4 b6 b8;refine jx (ke y ht) λbC=>?_
 simp only [go_sem,jb];intro b10;refine jx (jjT y id aMA tri ht) λη=>?_
 simp only [go_sem,jb];cases h0:zm y id aMA tri==0
 ·have hy:vp y id aMA tri=y:=by rw [vp,if_neg (by simpa using h0)]
  simp only [go_sem,jb,h0,hy];refine qm _ _ _ _ _ ?_;simp only [go_sem,jb]
 have eO:zm y id aMA tri=0:=by simpa using h0
 obtain ⟨aC,aK⟩:=jlm eO;obtain ⟨k,r,bT,hr,hid,h8⟩:=kU aK;obtain ⟨t,rfl,aS⟩:=jrD eO bT hr;have hY:vp y id t tri=kT y k (jz r t):=by rw [vp,if_pos eO,bT,aMQ,hr,aMM]
 have lI:r.aLT.length<=12:=(aC.right r (aMJ hr)).le12;rw [hY,eO];simp only [go_sem,jb,h0];refine qa ?_;generalize bC 2=aV at*;generalize bC 3=cT at*;refine WkK.wk (s':=St.of [(1,Ni id),(4,Bx 93 b4),(6,Bx 91 b6),(8,Bx 92 b8),(10,Bx 90 b10),(11,Ni 0)] [(93,Bi b4 tYd (jb y)),(91,.box b6 jg3 [.a (.v (.int .i64 t))]),(92,ZYd b8 tYd),(90,ka b10 tYd y.now y.seq y.aLU aV y.aLX cT)]) (jy [400,600,800,1000] (by simp only [go_sem,jb]<;>trivial)) ?_
 refine WkK.of ?_;simp only [go_sem,jb];refine jx (qg y id) λη=>?_
 simp only [go_sem,jb];rw [bT];refine kL (vs:=[Bx 90 b10,Ni k,.fn 125 [.bp 91 0 b6]]) (by simp only [go_sem]) (jdR hr (kF r t) lI aC.four (by have:=aC.seq;omega) ht (jwe hr aS) (e2:=aV) (e3:=cT) (by simp only [go_sem]) (by simp only [go_sem])) ?_
 rintro _ o1 ⟨rfl,⟨e2',e3',j90⟩,j91,j92,j93,j94,j95,j96⟩;simp only [go_sem] at j92;generalize kT y k (jz r t)=y2 at*;simp only [go_sem,j90,j92];refine qm _ _ _ _ _ ?_;simp only [go_sem,jb]
def jeG:C:=iS [iA 1 (.box 27 4 (.t 0)),iA 2 wAK] (iS [aT 6 4 1,iA 7 (iK 67 [6]),iA 3 wAK,wAA 3 7] (.seq (iS [aT 8 4 1,iA 9 (iK 66 [8]),aU 10 9] (iD 10 (iS [aT 11 4 3,wAA 2 11] .ret) .skip)) (.seq (iS [aN 4 0] (.blk 0 (.loop (.seq (iS [aM 12 4,aF 13 3 3,aL 14 13,aG 15 14,aP 16 .lss 3 12 15] (iD 16 .skip (.exit 0))) (.seq (.blk 1 (iS [aN 5 0] (.blk 2 (.loop (.seq (iS [aM 19 5,aF 20 3 3,aL 21 20,aM 22 4,aI 23 8 21 22,aF 24 7 23,aL 25 24,aG 26 25,aP 27 .lss 3 19 26] (iD 27 .skip (.exit 2))) (.seq (.blk 3 (iS [aF 30 3 3,aL 31 30,aM 32 4,aI 33 8 31 32,aF 34 7 33,aL 35 34,aM 36 5,aI 37 4 35 36,aF 38 0 37,aL 39 38,aQ 40 .eql 3 39 3] (iD 40 (.dreg (tA 0 41 (iT 4 3) (tA 1 42 (iM 4) (tA 2 43 (iF 3 3) (tA 3 44 (iL 43) (tA 4 45 (iM 4) (tA 5 46 (iI 8 44 45) (tA 6 47 (iT 8 46) (tA 7 48 (iM 5) (tC 49 (iK 120 [47,48]) [1,0] (tC 50 (iK 119 [41,42,49]) [] (.alt (wAA 3 50) [] .done .stop) .stop) .stop)))))))))) .skip))) (.reg [aM 28 5,aQ 29 .add 3 28 1,aM 5 29]))))))) (.reg [aM 17 4,aQ 18 .add 3 17 1,aM 4 18])))))) (iS [aT 51 4 3,wAA 2 51] .ret))))
theorem jhJ:fnC Tryz.prog Tryz.f49=some (jeG,[.cell 2 true 4],52):=by kernel_rfl
def jeS:C:=iS [iA 1 (.box 27 4 (.t 0)),iA 2 wAK] (iS [aT 8 4 1,iA 9 (iK 61 [8]),iA 3 wAK,wAA 3 9] (.seq (iS [aT 10 4 1,iA 11 (iK 18 [10]),aU 12 11] (iD 12 (iS [aT 13 4 3,wAA 2 13] .ret) .skip)) (.seq (iS [aF 14 3 1,aL 15 14,aG 16 15,aN 17 0] (.blk 0 (.loop (iS [aP 18 .lss 3 17 16] (.seq (iD 18 .skip (.exit 0)) (.seq (.blk 1 (iS [aM 19 17,aI 20 8 15 17,aT 21 8 20,iA 5 wAL,aM 4 19,wAC 5 21] (iS [aF 22 7 5,aL 23 22,aG 24 23,aN 25 0] (.blk 2 (.loop (iS [aP 26 .lss 3 25 24] (.seq (iD 26 .skip (.exit 2)) (.seq (.blk 3 (iS [aM 27 25,aI 28 4 23 25,aT 29 4 28,iA 6 (.alloc 3 [.int .i64 0]),iA 7 wAN,wAD 6 27,wAB 7 29] (iS [aT 30 4 3,aF 31 0 5,aL 32 31,aL 33 6,aF 34 2 7,aL 35 34,iA 36 (iK 53 [30,32,33,35])] (iD 36 (.reg [aM 37 4,iA 38 (.mkf 117 [.t 6]),iA 39 (iK 116 [3,37,38])]) .skip)))) (.reg [aQ 40 .add 3 25 1,aM 25 40]))))))))) (.reg [aQ 41 .add 3 17 1,aM 17 41]))))))) (iS [aT 42 4 3,wAA 2 42] .ret))))
theorem jhV:fnC Tryz.prog Tryz.f48=some (jeS,[.cell 2 true 4],43):=by kernel_rfl
def jcA:C:=.reg [aM 3 0,aL 4 1,iA 5 (iK 118 [3,4])]
theorem jfo:fnC Tryz.prog Tryz.f117=some (jcA,[],6):=by kernel_rfl
theorem jk0 (y:Yd) (ht:jt y<=1990000):kg Tryz.prog 49 [.agg (jb y)] (.agg (jb (jbG y))):=by
 refine pf_ jhJ ?_;unfold jeG;have dZ:jt y<=2000000:=by omega
 simp only [go_sem,jb];intro b1 b2;refine jx (kp y dZ) λbC=>?_
 simp only [go_sem,jb];intro b3;refine jx (qq y dZ) λη=>?_
 simp only [go_sem,jb];cases aC:jw y
 ·have hy:jbG y=y:=by simp [jbG,aC]
  simp only [go_sem,jb,aC,hy]
 have hP:=yard_iff.1 aC;have hy:jbG y=restR y y.aLX.length:=by simp [jbG,aC]
 rw [hy];simp only [go_sem,jb,aC];have h8:=hP.eight;refine vo (λi:Nat×jm×jm=>St.of [(2,Bx 92 b2),(3,Bx 90 b3),(4,Ni i.1)] [(92,ZYd b2 tYd),(90,ka b3 tYd (restR y i.1).now (restR y i.1).seq (restR y i.1).aLU i.2.1 (restR y i.1).aLX i.2.2)]) (λi=>i.1<=y.aLX.length) (λi=>y.aLX.length-i.1) (0,bC 2,bC 3) (jy [200,300] (by simp only [go_sem,jb,restR]<;>trivial)) ?_
 rintro ⟨k,e2,e3⟩ hk;dsimp only at hk;have hI:=StepI.restR hP k;by_cases aB:k<y.aLX.length
 ·obtain ⟨r0,lQ⟩:=jd aB
  have wV:=(hP.right r0 (aMJ lQ)).le12;have cQ:restR y (k+1)=restT (restR y k) k r0.aLT.length:=by rw [restR,lQ,aMM]
  have y7:=hI.restT k;have hw:=kX k;have hlz:(restR y k).aLX.length=y.aLX.length:=hI.later.len;have aA:(k:Int)<(restR y k).aLX.length:=by omega
  generalize restR y k=z0 at*;simp only [go_sem,aA];refine vo (λi:Nat×jm×jm=>St.of [(2,Bx 92 b2),(3,Bx 90 b3),(4,Ni k),(5,Ni i.1)] [(92,ZYd b2 tYd),(90,ka b3 tYd (restT z0 k i.1).now (restT z0 k i.1).seq (restT z0 k i.1).aLU i.2.1 (restT z0 k i.1).aLX i.2.2)]) (λi=>i.1<=r0.aLT.length) (λi=>r0.aLT.length-i.1) (0,e2,e3) (jy [92,90] (by simp only [go_sem,restT]<;>trivial)) ?_
  rintro ⟨t,f2,f3⟩ hti;dsimp only at hti;have hJ:=y7 t;have gG:restT z0 k (t+1)=failK (restT z0 k t) k t:=rfl;generalize hz:restT z0 k t=z at*;obtain ⟨r,hr,hid,iW,hR,bZ,oG⟩:=hJ.later.aLX k r0 lQ;have cZ:=(aMI.1 hr).1;have bD:=qT k;have cC:=hR.le12;by_cases tO:t<r0.aLT.length
  ·have gZ:t<r.aLT.length:=by omega
   have oO:(t:Int)<r.aLT.length:=by omega
   have eY:=qT t;obtain ⟨x,hx⟩:=jd gZ;have lU:=kX t;have hO:failK z k t=if x.aLV==3 then kT z k (jz r t) else z:=by rw [failK,hr,aMM,kt hx]
   simp only [go_sem,aMX,cZ,bD,qL hr,qU hr,jW hr,oO,gZ,eY,zF hx,vi hx];cases hs:x.aLV==3
   ·rw [hs,if_neg (by decide)] at hO
    rw [hO] at gG;simp only [go_sem,hs,lU];exact ql (t+1,f2,f3) (jy [92,90] (by simp only [go_sem,gG]<;>trivial))
   ·rw [hs,if_pos rfl] at hO
    rw [hO] at gG;simp only [go_sem,hs,aMX,cZ,bD,jkJ hr,je9 hr,jc,ja];refine jn (jaJ r t (by have:=jcH hR.aLW;obtain ⟨n,_,_,_,dS,_⟩:=this;omega) (by omega)) (by simp only [go_sem,jc,ja,kj hr,kz hr]) λdL=>?_
    simp only [go_sem,jc,ja,kj hr,kz hr];have oR:=kF r t;generalize jz r t=r2 at*;refine jaG [some 90,some 92,some 4905,some 4907] [(90,ka b3 tYd z.now z.seq z.aLU f2 z.aLX f3),(92,ZYd b2 tYd),(97,.loose (jv r2.aLW.aLY) (dL 5)),(98,.loose (jC r2.aLT) (dL 7))] [.agg [.v (.int .i64 z.now),.v (.int .i64 z.seq),.h 90 2 [] (f2 []),.h 90 3 [] (f3 [])],Ni k,.agg [.v (.int .i64 r2.id),.v (.int .i64 r2.aLW.aMC),.v (.int .i64 r2.aLW.aMG),.v (.int .i64 r2.aLW.aMF),.v (.int .i64 r2.aLW.aLT),.h 97 0 [] (dL 5 []),.v (.int .i64 r2.aLV),.h 98 0 [] (dL 7 [])]] (by simp only [go_sem]<;>and_intros<;>rfl) (by simp only [go_sem]<;>and_intros<;>rfl) (jfW hr oR cC hJ.four (by have:=hJ.seq;omega) (by have:=hJ.tot;omega) rfl rfl rfl) ?_
    rintro _ o1 ⟨c,g2,g3,x2,x3,rfl,j99,j90,j91,j92,j93,j94,j95,j96⟩;have j92':o1 92=ZYd b2 tYd:=j92;generalize kT z k r2=z2 at*;simp only [go_sem,j99,j90,j92',lU];exact ql (t+1,g2,g3) (jy [92,90] (by simp only [go_sem,gG,j90,j92']<;>trivial))
  ·have oO:¬(t:Int)<r.aLT.length:=by omega
   obtain rfl:t=r0.aLT.length:=by omega
   rw [hz] at cQ;simp only [go_sem,aMX,cZ,bD,qL hr,qU hr,jW hr,oO,hw];exact ql (k+1,f2,f3) (jy [92,90] (by simp only [go_sem,cQ]<;>trivial))
 have hlz:(restR y k).aLX.length=y.aLX.length:=hI.later.len;have aA:¬(k:Int)<(restR y k).aLX.length:=by omega
 obtain rfl:k=y.aLX.length:=by omega
 generalize restR y y.aLX.length=z at*;simp only [go_sem,aA,jb]
theorem jo8 {k t b6:Nat} {y:Yd} {r:Rn} (hr:y.aLX[k]?=some r) (aS:vL r t=true):jwH Tryz.prog 117 [.bp 91 0 b6] (.box b6 jg3 [.a (.v (.int .i64 t))]) k y (jz r t):=by
 intro o b e2 e3 mA nM;refine ji7 (β:=6000000) Tryz.func117 jfo (by simp) ?_
 unfold jcA;simp only [go_sem,nM];refine kL (by simp only [go_sem]) (jnm hr aS _ b e2 e3 (by simp only [go_sem];exact mA)) ?_
 rintro _ o1 ⟨rfl,j90,j91,j92,j93,j94,j95,j96,j97⟩;simp only [go_sem] at j91 j92 j93 j94 j95 j96 j97;rw [nM] at j91;exact ⟨.tup [],⟨by decide,rfl⟩,rfl,rfl,j90,j91,j92,j93,j94,j95,j96,j97⟩
theorem jk6 (y:Yd) (ht:jt y<=1990000):kg Tryz.prog 48 [.agg (jb y)] (.agg (jb (jbG y))):=by
 refine vZ [[1,1,1,0,1,0,0,1,1,0,0,1,1,0,0,1,1,0,0,1,1,0]] Tryz.func48 jhV (by simp) ?_
 unfold jeS;simp only [C.ghs,C.ghAt,List.foldr];have dZ:jt y<=2000000:=by omega
 simp only [go_sem,jb];intro b1 b2;refine jx (ke y dZ) λbC=>?_
 simp only [go_sem,jb];intro b3;refine jx (kJ y dZ) λη=>?_
 simp only [go_sem,jb];cases aC:jw y
 ·have hy:jbG y=y:=by simp [jbG,aC]
  simp only [go_sem,jb,aC,hy]
 have hP:=yard_iff.1 aC;have hy:jbG y=restR y y.aLX.length:=by simp [jbG,aC]
 rw [hy];simp only [go_sem,jb,aC];have h8:=hP.eight;refine vo (λi:Nat×jm×jm=>St.of [(2,Bx 92 b2),(3,Bx 90 b3),(15,Ro (jI y.aLX)),(16,Ni y.aLX.length),(17,Ni i.1)] [(92,ZYd b2 tYd),(90,ka b3 tYd (restR y i.1).now (restR y i.1).seq (restR y i.1).aLU i.2.1 (restR y i.1).aLX i.2.2)]) (λi=>i.1<=y.aLX.length) (λi=>y.aLX.length-i.1) (0,bC 2,bC 3) (jy [200,300] (by simp only [go_sem,jb,restR]<;>trivial)) ?_
 rintro ⟨k,e2,e3⟩ hk;dsimp only at hk;have hI:=StepI.restR hP k;by_cases aB:k<y.aLX.length
 ·have aA:(k:Int)<y.aLX.length:=by omega
  obtain ⟨r0,lQ⟩:=jd aB;have wV:=(hP.right r0 (aMJ lQ)).le12;have aBJ:=hP.place k r0 lQ;have cQ:restR y (k+1)=restT (restR y k) k r0.aLT.length:=by rw [restR,lQ,aMM]
  have y7:=hI.restT k;have hw:=kX k;generalize restR y k=z0 at*;simp only [go_sem,aA,aB,jU lQ,jc,ja];intro b5;refine vo (λi:Nat×jm×jm=>St.of [(2,Bx 92 b2),(3,Bx 90 b3),(4,Ni k),(5,Bx 93 b5),(15,Ro (jI y.aLX)),(16,Ni y.aLX.length),(17,Ni k),(23,Ro (jC r0.aLT)),(24,Ni r0.aLT.length),(25,Ni i.1)] [(92,ZYd b2 tYd),(93,Bi b5 tRn (jc r0)),(90,ka b3 tYd (restT z0 k i.1).now (restT z0 k i.1).seq (restT z0 k i.1).aLU i.2.1 (restT z0 k i.1).aLX i.2.2)]) (λi=>i.1<=r0.aLT.length) (λi=>r0.aLT.length-i.1) (0,e2,e3) (jy [92,500,90] (by simp only [go_sem,restT,jc,ja]<;>trivial)) ?_
  rintro ⟨t,f2,f3⟩ hti;dsimp only at hti;have hJ:=y7 t;have gG:restT z0 k (t+1)=failK (restT z0 k t) k t:=rfl;generalize hz:restT z0 k t=z at*;obtain ⟨r,hr,hid,iW,hR,bZ,oG⟩:=hJ.later.aLX k r0 lQ;have cC:=hR.le12;by_cases tO:t<r0.aLT.length
  ·have oP:(t:Int)<r0.aLT.length:=by omega
   have gZ:t<r.aLT.length:=by omega
   obtain ⟨x,hx⟩:=jd gZ;obtain ⟨x0,mG⟩:=jd tO;have lU:=kX t;have hO:failK z k t=if x.aLV==3 then kT z k (jz r t) else z:=by rw [failK,hr,aMM,kt hx]
   have hho:qw z r0.id t x0.tri=(x.aLV==3):=by rw [jl3 hJ.later lQ aBJ mG,hr,aMM,kt hx]
   simp only [go_sem,oP,tO,jS mG,jk];intro b6 b7;simp only [go_sem,jc,ja];refine jx (jae z r0.id t x0.tri) λη=>?_
   simp only [go_sem,jb];rw [hho];cases hs:x.aLV==3
   ·rw [hs,if_neg (by decide)] at hO
    rw [hO] at gG;simp only [go_sem,hs,lU];exact ql (t+1,f2,f3) (jy [92,93,90] (by simp only [go_sem,gG,jc,ja]<;>trivial))
   ·rw [hs,if_pos rfl] at hO
    rw [hO] at gG;have lG:x.aLV=3:=by simpa using hs
    simp only [go_sem,hs];refine qa ?_;refine WkK.wk (s':=St.of [(2,Bx 92 b2),(3,Bx 90 b3),(4,Ni k),(5,Bx 93 b5),(6,Bx 91 b6),(15,Ro (jI y.aLX)),(16,Ni y.aLX.length),(17,Ni k),(23,Ro (jC r0.aLT)),(24,Ni r0.aLT.length),(25,Ni t)] [(92,ZYd b2 tYd),(93,Bi b5 tRn (jc r0)),(90,ka b3 tYd z.now z.seq z.aLU f2 z.aLX f3),(91,.box b6 jg3 [.a (.v (.int .i64 t))])]) (jy [92,93,90,600] (by simp only [go_sem,jc,ja]<;>trivial)) ?_
    refine WkK.of ?_;simp only [go_sem];refine kL (vs:=[Bx 90 b3,Ni k,.fn 117 [.bp 91 0 b6]]) (by simp only [go_sem]) (jdR hr (kF r t) cC hJ.four (by have:=hJ.seq;omega) (by have:=hJ.tot;omega) (jo8 hr (je2 hR hx lG)) (e2:=f2) (e3:=f3) (by simp only [go_sem]) (by simp only [go_sem])) ?_
    rintro _ o1 ⟨rfl,⟨g2,g3,j90⟩,j91,j92,j93,j94,j95,j96⟩;have j92':o1 92=ZYd b2 tYd:=j92;have j93':o1 93=Bi b5 tRn (jc r0):=j93;generalize kT z k (jz r t)=z2 at*;simp only [go_sem,lU];exact ql (t+1,g2,g3) (jy [92,93,90] (by simp only [go_sem,gG,j90,j92',j93',jc,ja]<;>trivial))
  ·have oP:¬(t:Int)<r0.aLT.length:=by omega
   obtain rfl:t=r0.aLT.length:=by omega
   rw [hz] at cQ;simp only [go_sem,oP,hw];exact ql (k+1,f2,f3) (jy [92,90] (by simp only [go_sem,cQ]<;>trivial))
 have aA:¬(k:Int)<y.aLX.length:=by omega
 obtain rfl:k=y.aLX.length:=by omega
 generalize restR y y.aLX.length=z at*;simp only [go_sem,aA,jb]
def jgF:C:=iS [iA 1 (.box 27 4 (.t 0)),iA 2 (.mov (.c (.slice none 0 0)))] (iS [iA 7 (.bsl 29 1 0 [] []),aM 3 7] (.seq (iS [aN 4 0] (.blk 0 (.loop (.seq (iS [aM 8 4,aF 9 3 1,aL 10 9,aG 11 10,aP 12 .lss 3 8 11] (iD 12 .skip (.exit 0))) (.seq (.blk 1 (iS [aN 5 0] (.blk 2 (.loop (.seq (iS [aM 15 5,aF 16 3 1,aL 17 16,aM 18 4,aI 19 8 17 18,aF 20 7 19,aL 21 20,aG 22 21,aP 23 .lss 3 15 22] (iD 23 .skip (.exit 2))) (.seq (.blk 3 (iS [aF 26 3 1,aL 27 26,aM 28 4,aI 29 8 27 28,aF 30 7 29,aL 31 30,aM 32 5,aI 33 4 31 32,aT 34 4 33,iA 6 wAN,wAB 6 34] (iS [aF 35 0 6,aL 36 35,aQ 37 .eql 3 36 3,aM 38 37,iB 39 38 true (iF 3 6),iB 40 38 true (iL 39),iB 41 38 true (iF 0 1),iB 42 38 true (iL 41),iB 43 38 true (iP .leq 3 40 42),iB 44 38 true (iM 43),iB 45 44 false (iF 3 6),iB 46 44 false (iL 45),iB 47 44 false (iQ .sub 3 46 1),iB 48 44 false (iF 0 1),iB 49 44 false (iL 48),iB 50 44 false (iP .leq 3 47 49),iB 51 38 true (iY 44 (oT) (.t 50)),iA 52 (iY 38 (.t 51) (oF))] (iD 52 (.dreg (tA 0 53 (iM 3) (tA 1 54 (iF 3 1) (tA 2 55 (iL 54) (tA 3 56 (iM 4) (tA 4 57 (iI 8 55 56) (tA 5 58 (iF 0 57) (tA 6 59 (iL 58) (tA 7 60 (iM 5) (tA 8 61 (iF 2 6) (tA 9 62 (iL 61) (tC 63 (wA0 [(0,1,.t 59),(1,1,.t 60),(2,1,.t 62)]) [0] (tC 64 (.bsl 29 1 1 [some (1,3)] [(0,1,.t 63)]) [0] (tC 65 (.app 29 1 24 (.t 53) (.t 64)) [] (tA 13 3 (iM 65) .done) .stop) .stop) .stop)))))))))))) .skip)))) (.reg [aM 24 5,aQ 25 .add 3 24 1,aM 5 25]))))))) (.reg [aM 13 4,aQ 14 .add 3 13 1,aM 4 14])))))) (iS [aM 66 3,aM 2 66] .ret)))
theorem jiK:fnC Tryz.prog Tryz.f54=some (jgF,[.t 2],67):=by kernel_rfl
def jgU:C:=iS [iA 1 (.box 27 4 (.t 0)),iA 2 (.mov (.c (.slice none 0 0)))] (iS [iA 3 (.mov (.c (.slice none 0 0)))] (.seq (iS [aF 8 3 1,aL 9 8,aG 10 9,aN 11 0] (.blk 0 (.loop (iS [aP 12 .lss 3 11 10] (.seq (iD 12 .skip (.exit 0)) (.seq (.blk 1 (iS [aI 13 8 9 11,aT 14 8 13,iA 5 wAL,wAC 5 14] (iS [aF 15 7 5,aL 16 15,aG 17 16,aN 18 0] (.blk 2 (.loop (iS [aP 19 .lss 3 18 17] (.seq (iD 19 .skip (.exit 2)) (.seq (.blk 3 (iS [aM 20 18,aI 21 4 16 18,aT 22 4 21,iA 7 wAN,aM 6 20,wAB 7 22] (iS [aF 23 0 7,aL 24 23,aQ 25 .eql 3 24 3,aM 26 25,iB 27 26 true (iF 3 7),iB 28 26 true (iL 27),iB 29 26 true (iF 0 1),iB 30 26 true (iL 29),iB 31 26 true (iP .leq 3 28 30),iB 32 26 true (iM 31),iB 33 32 false (iF 3 7),iB 34 32 false (iL 33),iB 35 32 false (iQ .sub 3 34 1),iB 36 32 false (iF 0 1),iB 37 32 false (iL 36),iB 38 32 false (iP .eql 3 35 37),iB 39 26 true (iY 32 (oT) (.t 38)),iA 40 (iY 26 (.t 39) (oF))] (iD 40 (.reg [aM 41 3,aF 42 0 5,aL 43 42,aM 44 6,aF 45 2 7,aL 46 45,iA 47 (wA0 [(0,1,.t 43),(1,1,.t 44),(2,1,.t 46)]),iA 48 (.bsl 29 1 1 [some (1,3)] [(0,1,.t 47)]),iA 49 (.app 29 1 24 (.t 41) (.t 48)),aM 3 49]) .skip)))) (.reg [aQ 50 .add 3 18 1,aM 18 50]))))))))) (.reg [aQ 51 .add 3 11 1,aM 11 51]))))))) (iS [aM 52 3,aM 2 52] .ret)))
theorem jiZ:fnC Tryz.prog Tryz.f50=some (jgU,[.t 2],53):=by kernel_rfl
def wfL (y:Yd):Prop:=inR y.now/\∀r∈y.aLX,∀x∈r.aLT,inR x.til
theorem jfU (l:List (List Int)) (a b c:Int):D.sl 1 tIs (l.flatMap (λes=>[je es])++[D.sl 1 jg3 [iv a,iv b,iv c]])=qW (l++[[a,b,c]]):=by simp [qW,je]
theorem jmO (y:Yd) (ht:jt y<=2000000) (wf:wfL y):kg Tryz.prog 54 [.agg (jb y)] (.c (qW (kC y))):=by
 refine pf_ jiK ?_;unfold jgF;have hl:=jg7 ht;have cO:qN kQ y.aLX<=2000000:=by simp only [jt,jac] at ht;omega
 rw [jrx];simp only [go_sem,jb];intro b fG;refine kN (λi:Nat×jm=>St.of [(1,Bx 100 b),(3,Hd 700 i.2),(4,Ni i.1)] [(100,Bi b _ (jb y)),(700,.loose (qW ((y.aLX.take i.1).flatMap (jj3 y.now))) i.2)]) (λi=>i.1<=y.aLX.length) (λi=>y.aLX.length-i.1) (0,fG) (aNE _) (jy [100,700] (by simp only [go_sem,jb]<;>and_intros<;>rfl)) ?_
 rintro ⟨i,η⟩ hi;dsimp only at hi;by_cases aB:i<y.aLX.length
 ·have aA:(i:Int)<y.aLX.length:=by omega
  obtain ⟨r,hr⟩:=jd aB;have hrw:=wf.2 r (aMJ hr);have iR:=kX i;have hbi:=jvp y.now (y.aLX.take i);have gA:=vK (tot:=kQ) hr;have cP:=jak kQ y.aLX (i+1);have uS:r.aLT.length<=kQ r:=by simp only [kQ];omega
  have cQ:=joF (now:=y.now) hr;simp only [go_sem,jb,aB,aA];generalize hL:(y.aLX.take i).flatMap (jj3 y.now)=L at*;refine kN (λk:Nat×jm=>St.of [(1,Bx 100 b),(3,Hd 700 k.2),(4,Ni i),(5,Ni k.1)] [(100,Bi b _ (jb y)),(700,.loose (qW (L++jag y.now r 0 (r.aLT.take k.1))) k.2)]) (λk=>k.1<=r.aLT.length) (λk=>r.aLT.length-k.1) (0,η) (aNE _) (jy [100,700] (by simp only [go_sem,jb,aNM,jag,aNI]<;>and_intros<;>rfl)) ?_
  rintro ⟨j,dB⟩ hj;dsimp only at hj;by_cases dA:j<r.aLT.length
  ·have aZ:(j:Int)<r.aLT.length:=by omega
   obtain ⟨x,hx⟩:=jd dA;have hxw:=hrw x (aMJ hx);have dM:=kX j;have hlr:=jfT y.now r (r.aLT.take j) 0;have hn:=jlW (now:=y.now) (r:=r) hx;rw [aMP] at hlr;obtain ⟨bK,bW⟩:=hxw;obtain ⟨⟨pJ,hy2⟩,-⟩:=wf;simp only [go_sem,jb,aB,aA,dA,aZ,jU hr,jc,ja,jS hx,jk];generalize hM:jag y.now r 0 (r.aLT.take j)=M at*;have eZ:1<=maxLen:=by unfold maxLen;omega
   have h3m:3<=maxLen:=by unfold maxLen;omega
   have eI:(L++M).length+1<=maxLen:=by rw [aMR];unfold maxLen;omega
   have eC:((L++M).length+1)*24<=140737488355328:=by rw [aMR];omega
   intro b2;by_cases hs:x.aLV=3
   ·by_cases cX:x.til<=y.now
    ·have cY:jaz y.now r.id x j=some [r.id,j,x.tri]:=by simp [jaz,hs,cX]
     rw [cY] at hn;simp only [go_sem,jb,jk,hs,cX,aOY,jU hr,aB,aA,jc,ja,eI,eC,jfU,dM];intro aV cT fO;exact ⟨(j+1,fO),by dsimp only;omega,jy [100,6500] (by simp only [go_sem,jb,hn,Option.toList,aNA]<;>and_intros<;>rfl),by dsimp only;omega⟩
    ·by_cases fD:x.til-1=y.now
     ·have cY:jaz y.now r.id x j=some [r.id,j,x.tri]:=by simp [jaz,hs,fD]
      have bB:IntKind.i64.wrap (x.til-1)=x.til-1:=zy;have tQ:x.til-1<=y.now:=by omega
      rw [cY] at hn;simp only [go_sem,jb,jk,hs,cX,bB,tQ,aOY,jU hr,aB,aA,jc,ja,eI,eC,jfU,dM];intro aV cT fO;exact ⟨(j+1,fO),by dsimp only;omega,jy [100,6500] (by simp only [go_sem,jb,hn,Option.toList,aNA]<;>and_intros<;>rfl),by dsimp only;omega⟩
     ·have cY:jaz y.now r.id x j=none:=by simp [jaz,cX,fD]
      have bB:IntKind.i64.wrap (x.til-1)=x.til-1:=zy;have tQ:¬x.til-1<=y.now:=by omega
      rw [cY] at hn;simp only [go_sem,jb,jk,hs,cX,bB,tQ,aOY,aB,aA,dM];exact ⟨(j+1,dB),by dsimp only;omega,jy [100,700] (by simp only [go_sem,jb,hn,Option.toList,aNI]<;>and_intros<;>rfl),by dsimp only;omega⟩
   ·have cY:jaz y.now r.id x j=none:=by simp [jaz,hs]
    have lG:(x.aLV==3)=false:=by simpa using hs
    rw [cY] at hn;simp only [go_sem,jb,jk,lG,dM];exact ⟨(j+1,dB),by dsimp only;omega,jy [100,700] (by simp only [go_sem,jb,hn,Option.toList,aNI]<;>and_intros<;>rfl),by dsimp only;omega⟩
  ·have aZ:¬(j:Int)<r.aLT.length:=by omega
   rw [aMO (by omega)]
   simp only [go_sem,jb,aB,aA,jU hr,jc,ja,aZ,iR];exact ⟨(i+1,dB),by dsimp only;omega,jy [100,700] (by simp only [go_sem,jb,cQ]<;>and_intros<;>rfl),by dsimp only;omega⟩
 ·have aA:¬(i:Int)<y.aLX.length:=by omega
  rw [aMO (by omega)]
  simp only [go_sem,jb,aA]
theorem jmZ (y:Yd) (ht:jt y<=2000000) (wf:wfL y):kg Tryz.prog 50 [.agg (jb y)] (.c (qW (kC y))):=by
 refine pf_ jiZ ?_;unfold jgU;have hl:=jg7 ht;have cO:qN kQ y.aLX<=2000000:=by simp only [jt,jac] at ht;omega
 rw [jrx];simp only [go_sem,jb];intro b;refine vo (λi:Nat×jm=>St.of [(1,Bx 100 b),(3,Hd 7 i.2),(9,Ro (jI y.aLX)),(10,Ni y.aLX.length),(11,Ni i.1)] [(100,Bi b _ (jb y)),(7,.loose (qW ((y.aLX.take i.1).flatMap (jj3 y.now))) i.2)]) (λi=>i.1<=y.aLX.length) (λi=>y.aLX.length-i.1) (0,jcF) (zo [some 100,none] (by simp only [go_sem,jb]<;>trivial)) ?_
 rintro ⟨i0,η⟩ hi;dsimp only at hi;by_cases aB:i0<y.aLX.length
 ·have aA:(i0:Int)<y.aLX.length:=by omega
  obtain ⟨r,hr⟩:=jd aB;have hrw:=wf.2 r (aMJ hr);have iR:=kX i0;have hbi:=jvp y.now (y.aLX.take i0);have gA:=vK (tot:=kQ) hr;have cP:=jak kQ y.aLX (i0+1);have uS:r.aLT.length<=kQ r:=by simp only [kQ];omega
  have cQ:=joF (now:=y.now) hr;simp only [go_sem,jb,aB,aA,jU hr,jc,ja];generalize hL:(y.aLX.take i0).flatMap (jj3 y.now)=L at*;intro b2;refine vo (λi:Nat×jm=>St.of [(1,Bx 100 b),(3,Hd 7 i.2),(5,Bx 500 b2),(9,Ro (jI y.aLX)),(10,Ni y.aLX.length),(11,Ni i0),(16,Ro (jC r.aLT)),(17,Ni r.aLT.length),(18,Ni i.1)] [(100,Bi b _ (jb y)),(500,Bi b2 _ (jc r)),(7,.loose (qW (L++jag y.now r 0 (r.aLT.take i.1))) i.2)]) (λi=>i.1<=r.aLT.length) (λi=>r.aLT.length-i.1) (0,η) (jy [100,500,7] (by simp only [go_sem,jb,jc,ja,aNM,jag,aNI]<;>trivial)) ?_
  rintro ⟨j,dB⟩ hj;dsimp only at hj;by_cases dA:j<r.aLT.length
  ·have aZ:(j:Int)<r.aLT.length:=by omega
   obtain ⟨x,hx⟩:=jd dA;have hxw:=hrw x (aMJ hx);have dM:=kX j;have hlr:=jfT y.now r (r.aLT.take j) 0;have hn:=jlW (now:=y.now) (r:=r) hx;rw [aMP] at hlr;obtain ⟨bK,bW⟩:=hxw;obtain ⟨⟨pJ,hy2⟩,-⟩:=wf;simp only [go_sem,jb,dA,aZ,jS hx,jk];generalize hM:jag y.now r 0 (r.aLT.take j)=M at*;have eI:(L++M).length+1<=maxLen:=by rw [aMR];unfold maxLen;omega
   have eC:((L++M).length+1)*24<=140737488355328:=by rw [aMR];omega
   intro b3;by_cases hs:x.aLV=3
   ·by_cases cX:x.til<=y.now
    ·have cY:jaz y.now r.id x j=some [r.id,j,x.tri]:=by simp [jaz,hs,cX]
     rw [cY] at hn;simp only [go_sem,jb,jk,jc,ja,hs,cX,aOY,eI,eC,jfU,dM];intro aV cT fO;exact ql (j+1,fO) (jy [100,500,4900] (by simp only [go_sem,jb,jc,ja,hn,Option.toList,aNA]<;>trivial))
    ·by_cases fD:x.til-1=y.now
     ·have cY:jaz y.now r.id x j=some [r.id,j,x.tri]:=by simp [jaz,hs,fD]
      have tV:(x.til-1==y.now)=true:=by simpa using fD
      have bB:IntKind.i64.wrap (x.til-1)=x.til-1:=zy;rw [cY] at hn;simp only [go_sem,jb,jk,jc,ja,hs,cX,bB,tV,aOY,eI,eC,jfU,dM];intro aV cT fO;exact ql (j+1,fO) (jy [100,500,4900] (by simp only [go_sem,jb,jc,ja,hn,Option.toList,aNA]<;>trivial))
     ·have cY:jaz y.now r.id x j=none:=by simp [jaz,cX,fD]
      have bB:IntKind.i64.wrap (x.til-1)=x.til-1:=zy;have tV:(x.til-1==y.now)=false:=by simpa using fD
      rw [cY] at hn;simp only [go_sem,jb,jk,hs,cX,bB,tV,aOY,dM];exact ql (j+1,dB) (jy [100,500,7] (by simp only [go_sem,jb,jc,ja,hn,Option.toList,aNI]<;>trivial))
   ·have cY:jaz y.now r.id x j=none:=by simp [jaz,hs]
    have lG:(x.aLV==3)=false:=by simpa using hs
    rw [cY] at hn;simp only [go_sem,jb,jk,lG,dM];exact ql (j+1,dB) (jy [100,500,7] (by simp only [go_sem,jb,jc,ja,hn,Option.toList,aNI]<;>trivial))
  ·have aZ:¬(j:Int)<r.aLT.length:=by omega
   rw [aMO (by omega)]
   simp only [go_sem,aZ,iR];exact ql (i0+1,dB) (jy [100,7] (by simp only [go_sem,jb,cQ,jj3]<;>trivial))
 ·have aA:¬(i0:Int)<y.aLX.length:=by omega
  rw [aMO (by omega)]
  simp only [go_sem,jb,aA]
theorem joG (now:Int) (r:Rn):∀(ts:List Tk) (k:Nat) (l:List Int),l∈jag now r k ts->∃(t:Nat) (x:Tk),ts[t]?=some x/\x.aLV=3/\l=[r.id,((k+t:Nat):Int),x.tri]
 |[],_,_,h=>by simp [jag] at h
 |z::ts,k,l,h=>by
  rw [jag] at h;rcases aMN.1 h with h|h
  ·unfold jaz at h
   split at h
   ·rename_i hc
    simp at h;simp only [aMY,aOO] at hc;exact ⟨0,z,rfl,hc.1,by rw [h];rfl⟩
   ·simp at h
  ·obtain ⟨t,x,h1,h2,h3⟩:=joG now r ts (k+1) l h
   exact ⟨t+1,x,by simpa using h1,h2,by rw [h3,Nat.add_right_comm,aPT]⟩
theorem jrw {y:Yd} (hP:YardOkP y) {l:List Int} (h:l∈kC y):∃(k t:Nat) (r:Rn) (x:Tk),y.aLX[k]?=some r/\r.aLT[t]?=some x/\runAt y r.id=k/\x.aLV=3/\l=[r.id,(t:Int),x.tri]:=by
 obtain ⟨r,hr,hl⟩:=aPS.1 h;obtain ⟨k,hk,rfl⟩:=aNO hr;have mO:y.aLX[k]?=some y.aLX[k]:=aMK hk;obtain ⟨t,x,h1,h2,h3⟩:=joG _ _ _ _ _ hl;exact ⟨k,t,_,x,mO,h1,hP.place k _ mO,h2,by rw [h3,aOK]⟩
theorem jm8 {y:Yd} (hP:YardOkP y):(kC y).length<=96:=by
 have h:∀l:List Rn,(∀r∈l,r.aLT.length<=12)->(l.flatMap λr=>jag y.now r 0 r.aLT).length<=12*l.length:=by
  intro l
  induction l with
  |nil=>intro;simp
  |cons r l ih=>
   intro h;have h1:=h r (by simp)
   have h2:=ih λr hr=>h r (by simp [hr])
   have h3:=jfT y.now r r.aLT 0;simp only [aNL,aMR,aNG] at h2⊢;omega
 have h1:=h y.aLX λr hr=>(hP.right r hr).le12
 have h2:=hP.eight;have e:(kC y).length=(y.aLX.flatMap λr=>jag y.now r 0 r.aLT).length:=rfl
 omega
noncomputable def jmu (z:Yd) (l:List Int):Yd:=failK z (runAt z (l.headD 0)).toNat (l.tail.headD 0).toNat
noncomputable def tickI (y:Yd) (i:Nat):Yd:=((kC y).take i).foldl jmu y
noncomputable def ja3 (y:Yd):Int:=if jw y=false then 8 else if y.now+1>999999980 then 7 else 0
noncomputable def jaE (y:Yd):Yd:=if ja3 y=0 then ⟨y.now+1,(tickI y (kC y).length).seq,(tickI y (kC y).length).aLU,(tickI y (kC y).length).aLX⟩ else y
theorem je0 {y:Yd} {i:Nat} {l:List Int} (h:(kC y)[i]?=some l):tickI y (i+1)=jmu (tickI y i) l:=by
 rw [tickI,aMT,h,List.foldl_append];rfl
theorem jdz {y:Yd} (hP:YardOkP y):∀i,StepI y (tickI y i) i
 |0=>.refl hP
 |i+1=>by
  have ih:=jdz hP i;cases h:(kC y)[i]? with
  |none=>
   have:tickI y (i+1)=tickI y i:=by rw [tickI,tickI,aMT,h];simp
   rw [this];exact ih.mono (Nat.le_succ i)
  |some l=>rw [je0 h];exact ih.fail _ _
section
variable {L:List (List Int)} {i:Nat} {l:List Int}
theorem jqo (h:L[i]?=some l):D.get [i] (qW L)=some (je l):=by
 have e:L.flatMap (λes=>[je es])=L.map je:=by clear h;induction L<;>simp_all
 simp [qW,D.get,e,h,jb8]
theorem jwv (h:L[i]?=some l):((L.flatMap λes=>[je es]).drop i).take 1=[je l]:=by have:=jww h;rwa [aMZ] at this
theorem jvC (h:L[i]?=some l):i+1<=(L.flatMap λes=>[je es]).length:=by have:=jvD (aMI.1 h).1;rwa [aMZ] at this
end
theorem jnH {y:Yd} (h:YardOkP y):wfL y:=by
 refine ⟨by have:=h.now;simp only [inR];omega,λr hr x hx=>?_⟩
 obtain ⟨k,hk,rfl⟩:=aNO hx;have h1:=taskB_iff.1 ((h.right r hr).aLT k _ (aMK hk));have h2:=h1.2.2.2.1;unfold jbz at h2;split at h2
 ·simp only [inB,aMY,aNC] at h2;simp only [inR];omega
 ·have:r.aLT[k].til=0:=by simpa using h2
  simp only [inR];omega
def jkz:C:=iS [iA 1 (.box 27 4 (.t 0)),iA 2 wAK,aN 3 0] (iS [aT 8 4 1,iA 9 (iK 67 [8]),iA 4 wAK,wAA 4 9] (.seq (iS [aT 10 4 1,iA 11 (iK 66 [10]),aU 12 11] (iD 12 (iS [aT 13 4 4,wAA 2 13,aN 3 8] .ret) .skip)) (.seq (iS [aF 14 0 1,aL 15 14,aQ 16 .add 3 15 1,aQ 17 .gtr 3 16 999999980] (iD 17 (iS [aT 18 4 4,wAA 2 18,aN 3 7] .ret) .skip)) (iS [aT 19 4 1,iA 20 (iK 54 [19]),aM 5 20] (.seq (iS [aN 6 0] (.blk 0 (.loop (.seq (iS [aM 21 6,aM 22 5,aG 23 22,aP 24 .lss 3 21 23] (iD 24 .skip (.exit 0))) (.seq (.blk 1 (.seq (.dreg (tA 0 27 (iT 4 4) (tA 1 28 (iM 5) (tA 2 29 (iM 6) (tA 3 30 (iI 1 28 29) (tA 4 31 (iL 30) (tA 5 32 (.ia 1 (.t 31) (oI 0)) (tA 6 33 (iL 32) (tC 34 (iK 26 [27,33]) [] (tA 8 7 (iM 34) .done) .stop))))))))) (.seq (.dreg (tA 0 35 (iF 3 4) (tA 1 36 (iL 35) (tA 2 37 (iM 7) (tA 3 38 (iI 8 36 37) (tA 4 39 (iF 7 38) (tA 5 40 (iL 39) (tA 6 41 (iM 5) (tA 7 42 (iM 6) (tA 8 43 (iI 1 41 42) (tA 9 44 (iL 43) (tA 10 45 (.ia 1 (.t 44) (oI 1)) (tA 11 46 (iL 45) (tA 12 47 (iI 4 40 46) (tA 13 48 (iF 0 47) (tA 14 49 (iL 48) (tA 15 50 (iQ .eql 3 49 3) .done))))))))))))))))) (iD 50 (.dreg (tA 0 51 (iT 4 4) (tA 1 52 (iM 7) (tA 2 53 (iF 3 4) (tA 3 54 (iL 53) (tA 4 55 (iM 7) (tA 5 56 (iI 8 54 55) (tA 6 57 (iT 8 56) (tA 7 58 (iM 5) (tA 8 59 (iM 6) (tA 9 60 (iI 1 58 59) (tA 10 61 (iL 60) (tA 11 62 (.ia 1 (.t 61) (oI 1)) (tA 12 63 (iL 62) (tC 64 (iK 120 [57,63]) [1,0] (tC 65 (iK 119 [51,52,64]) [] (.alt (wAA 4 65) [] .done .stop) .stop) .stop))))))))))))))) .skip)))) (.reg [aM 25 6,aQ 26 .add 3 25 1,aM 6 26])))))) (iS [aF 66 0 4,aL 67 66,aQ 68 .add 3 67 1,aF 69 0 4,wAD 69 68] (iS [aT 70 4 4,wAA 2 70,aN 3 0] .ret)))))))
theorem jld:fnC Tryz.prog Tryz.f52=some (jkz,[.cell 2 true 4,.t 3],71):=by kernel_rfl
def jkD:C:=iS [iA 1 (.box 27 4 (.t 0)),iA 2 wAK,aN 3 0] (iS [aT 7 4 1,iA 8 (iK 61 [7]),iA 4 wAK,wAA 4 8] (.seq (.blk 0 (iS [aT 10 4 1,iA 11 (iK 18 [10]),aU 12 11,aM 9 12] (iD 9 (iS [aT 13 4 4,wAA 2 13,aN 3 8] .ret) (iS [aF 15 0 1,aL 16 15,aQ 17 .add 3 16 1,aQ 18 .gtr 3 17 999999980,aM 14 18] (iD 14 (iS [aT 19 4 4,wAA 2 19,aN 3 7] .ret) .skip))))) (iS [aF 20 0 4,aL 21 20,aQ 22 .add 3 21 1,aF 23 0 4,wAD 23 22] (.seq (iS [aT 24 4 1,iA 25 (iK 50 [24]),aG 26 25,aN 27 0] (.blk 1 (.loop (iS [aP 28 .lss 3 27 26] (.seq (iD 28 .skip (.exit 1)) (.seq (.blk 2 (iS [aI 29 1 25 27,aL 30 29,iA 6 (.alloc 29 [.slice none 0 0]),iC (.st 1 [some (1,3)] (.t 6) (.t 30))] (.seq (.dreg (tA 0 31 (iT 4 4) (tA 1 32 (iL 6) (tA 2 33 (.ia 1 (.t 32) (oI 0)) (tA 3 34 (iL 33) (tA 4 35 (iL 6) (tA 5 36 (.ia 1 (.t 35) (oI 1)) (tA 6 37 (iL 36) (tA 7 38 (iL 6) (tA 8 39 (.ia 1 (.t 38) (oI 2)) (tA 9 40 (iL 39) (tC 41 (iK 53 [31,34,37,40]) [] .done .stop)))))))))))) (iD 41 (.dreg (tA 0 42 (iT 4 4) (tA 1 43 (iL 6) (tA 2 44 (.ia 1 (.t 43) (oI 0)) (tA 3 45 (iL 44) (tA 5 47 (.mkf 121 [.t 6]) (tC 46 (iK 25 [42,45]) [5] (tC 48 (iK 116 [4,46,47]) [] .done .stop) .stop))))))) .skip)))) (.reg [aQ 49 .add 3 27 1,aM 27 49]))))))) (iS [aT 50 4 4,wAA 2 50,aN 3 0] .ret)))))
theorem jli:fnC Tryz.prog Tryz.f51=some (jkD,[.cell 2 true 4,.t 3],51):=by kernel_rfl
def jgQ:C:=.reg [aM 3 0,aL 4 1,iA 5 (.ia 1 (.t 4) (oI 1)),aL 6 5,iA 7 (iK 118 [3,6])]
theorem jiV:fnC Tryz.prog Tryz.f121=some (jgQ,[],8):=by kernel_rfl
theorem jpW (y:Yd) (ht:jt y<=1990000):kg Tryz.prog 52 [.agg (jb y)] (.tup [(true,jb (jaE y)),(false,[.val (.int .i64 (ja3 y))])]):=by
 refine pf_ jld ?_;unfold jkz;have dZ:jt y<=2000000:=by omega
 simp only [go_sem,jb];intro b1 b2;refine jx (kp y dZ) λbC=>?_
 simp only [go_sem,jb];intro b4;refine jx (qq y dZ) λη=>?_
 simp only [go_sem,jb];cases aC:jw y
 ·have hc:ja3 y=8:=by simp [ja3,aC]
  have hy:jaE y=y:=by rw [jaE,if_neg (by rw [hc];decide)]
  simp only [go_sem,jb,aC,hc,hy];refine qm _ _ _ _ _ ?_;simp only [go_sem,jb]
 have hP:=yard_iff.1 aC;have gW:=hP.now;have eL:IntKind.i64.wrap (y.now+1)=y.now+1:=zy;by_cases g9:y.now+1>999999980
 ·have hc:ja3 y=7:=by rw [ja3,if_neg (by rw [aC];decide),if_pos g9]
  have hy:jaE y=y:=by rw [jaE,if_neg (by rw [hc];decide)]
  simp only [go_sem,jb,aC,eL,g9,hc,hy];refine qm _ _ _ _ _ ?_;simp only [go_sem,jb]
 have hc:ja3 y=0:=by rw [ja3,if_neg (by rw [aC];decide),if_neg g9]
 rw [hc,jaE,if_pos hc];simp only [go_sem,jb,aC,eL,g9];refine jx (jmO y dZ (jnH hP)) λuO=>?_
 simp only [go_sem,jb];have h96:=jm8 hP;refine vo (λi:Nat×jm×jm=>St.of [(2,Bx 92 b2),(4,Bx 90 b4),(5,Hd 93 (uO 0)),(6,Ni i.1)] [(92,ZYd b2 tYd),(90,ka b4 tYd (tickI y i.1).now (tickI y i.1).seq (tickI y i.1).aLU i.2.1 (tickI y i.1).aLX i.2.2),(93,.loose (qW (kC y)) (uO 0))]) (λi=>i.1<=(kC y).length) (λi=>(kC y).length-i.1) (0,bC 2,bC 3) (jy [200,400,2000] (by simp only [go_sem,jb,show tickI y 0=y from rfl]<;>trivial)) ?_
 rintro ⟨i,f2,f3⟩ hi;dsimp only at hi;have hJ:=jdz hP i;by_cases aB:i<(kC y).length
 ·have aA:(i:Int)<(kC y).length:=by omega
  have eK:=qT i;obtain ⟨l,hl⟩:=jd aB;obtain ⟨k,t,r0,x0,lQ,mG,nS,hs0,eV⟩:=jrw hP (aMJ hl);have hw:=kX i;have gG:tickI y (i+1)=failK (tickI y i) k t:=by rw [je0 hl,eV,jmu];simp only [List.headD_cons,List.tail_cons,hJ.later.runAt,nS,aMQ]
  generalize tickI y i=z at*;obtain ⟨r,hr,hid,iW,hR,bZ,oG⟩:=hJ.later.aLX k r0 lQ;have cZ:=(aMI.1 hr).1;have bD:=qT k;have cC:=hR.le12;have cP:=(aMI.1 mG).1;have gZ:t<r.aLT.length:=by omega
  have eY:=qT t;obtain ⟨x,hx⟩:=jd gZ;have hO:failK z k t=if x.aLV==3 then kT z k (jz r t) else z:=by rw [failK,hr,aMM,kt hx]
  have gV:runAt z r0.id=(k:Int):=by rw [hJ.later.runAt,nS]
  subst eV;simp only [go_sem,aA,aB,eK,aMZ,jwv hl,jvC hl,jqo hl];refine jx (qr z r0.id) λη=>?_
  simp only [go_sem,jb];rw [gV];simp only [go_sem,aA,aB,eK,aMZ,jwv hl,jvC hl,jqo hl,aMX,cZ,bD,qL hr,qU hr,jW hr,gZ,eY,zF hx,vi hx];cases hs:x.aLV==3
  ·rw [hs,if_neg (by decide)] at hO
   rw [hO] at gG;simp only [go_sem,hs,hw];exact ql (i+1,f2,f3) (jy [92,90,93] (by simp only [go_sem,gG]<;>trivial))
  ·rw [hs,if_pos rfl] at hO
   rw [hO] at gG;simp only [go_sem,hs,aA,aB,eK,aMZ,jwv hl,jvC hl,jqo hl,aMX,cZ,bD,jkJ hr,je9 hr,jc,ja];refine jn (jaJ r t (by have:=jcH hR.aLW;obtain ⟨n,_,_,_,dS,_⟩:=this;omega) (by omega)) (by simp only [go_sem,jc,ja,kj hr,kz hr]) λdL=>?_
   simp only [go_sem,jc,ja,kj hr,kz hr];have oR:=kF r t;generalize jz r t=r2 at*;refine jaG [some 90,some 92,some 93,some 6405,some 6407] [(90,ka b4 tYd z.now z.seq z.aLU f2 z.aLX f3),(92,ZYd b2 tYd),(93,.loose (qW (kC y)) (uO 0)),(97,.loose (jv r2.aLW.aLY) (dL 5)),(98,.loose (jC r2.aLT) (dL 7))] [.agg [.v (.int .i64 z.now),.v (.int .i64 z.seq),.h 90 2 [] (f2 []),.h 90 3 [] (f3 [])],Ni k,.agg [.v (.int .i64 r2.id),.v (.int .i64 r2.aLW.aMC),.v (.int .i64 r2.aLW.aMG),.v (.int .i64 r2.aLW.aMF),.v (.int .i64 r2.aLW.aLT),.h 97 0 [] (dL 5 []),.v (.int .i64 r2.aLV),.h 98 0 [] (dL 7 [])]] (by simp only [go_sem]<;>and_intros<;>rfl) (by simp only [go_sem]<;>and_intros<;>rfl) (jfW hr oR cC hJ.four (by have:=hJ.seq;omega) (by have:=hJ.tot;omega) rfl rfl rfl) ?_
   rintro _ o1 ⟨c,g2,g3,x2,x3,rfl,j99,j90,j91,j92,j93,j94,j95,j96⟩;have j92':o1 92=ZYd b2 tYd:=j92;have j93':o1 93=.loose (qW (kC y)) (uO 0):=j93;generalize kT z k r2=z2 at*;simp only [go_sem,j99,j90,j92',hw];exact ql (i+1,g2,g3) (jy [92,90,93] (by simp only [go_sem,gG,j90,j92',j93']<;>trivial))
 have aA:¬(i:Int)<(kC y).length:=by omega
 obtain rfl:i=(kC y).length:=by omega
 have hzn:=hJ.now;generalize tickI y (kC y).length=z at*;have aAQ:IntKind.i64.wrap (z.now+1)=y.now+1:=by rw [hzn,eL]
 simp only [go_sem,aA,aAQ];refine qm _ _ _ _ _ ?_;simp only [go_sem,jb]
section
variable {L:List (List Int)} {i:Nat} {d:D}
theorem jqf (L:List (List Int)):(L.flatMap λes=>[je es]).length=L.length:=by rw [jG (enc:=λes=>[je es]) (size:=1) (λ_=>rfl),aMZ]
theorem je8:((L.flatMap λes=>[je es]).set i d).length=L.length:=by rw [aMU,jqf]
theorem joK:(D.sl 1 tIs ((L.flatMap λes=>[je es]).set i d)).len=L.length:=by
 simp only [D.len,D.cells,D.size,je8,Nat.div_one]
theorem jtf (h:i<L.length):(((L.flatMap λes=>[je es]).set i d).drop i).take 1=[d]:=by
 have hl:i<((L.flatMap λes=>[je es]).set i d).length:=by rw [je8];exact h
 rw [aOC hl,List.take_succ_cons,aNM,List.getElem_set_self]
theorem jqg {l:List Int} (h:L[i]?=some l):(L.flatMap λes=>[je es])[i]?=some (je l):=by
 have e:L.flatMap (λes=>[je es])=L.map je:=by clear h;induction L<;>simp_all
 simp [e,h]
end
theorem jwd {k t b6:Nat} {y:Yd} {r:Rn} {id tri:Int} {v9:jm} (hr:y.aLX[k]?=some r) (aS:vL r t=true):jwH Tryz.prog 121 [.bp 91 0 b6] (.box b6 tIs [.own (je [id,(t:Int),tri]) v9]) k y (jz r t):=by
 intro o b e2 e3 mA nM;refine ji7 (β:=6000000) Tryz.func121 jiV (by simp) ?_
 unfold jgQ;simp only [go_sem,nM,aMZ];refine kL (vs:=[.c (.ep 90 3 [] (k*8) (e3 [])),Ni t]) (by simp only [go_sem]) (jnm hr aS _ b e2 e3 (by simp only [go_sem];exact mA)) ?_
 rintro _ o1 ⟨rfl,j90,j91,j92,j93,j94,j95,j96,j97⟩;simp only [go_sem] at j91 j92 j93 j94 j95 j96 j97;rw [nM] at j91;exact ⟨.tup [],⟨by decide,rfl⟩,rfl,rfl,j90,j91,j92,j93,j94,j95,j96,j97⟩
theorem jp1 (y:Yd) (ht:jt y<=1990000):kg Tryz.prog 51 [.agg (jb y)] (.tup [(true,jb (jaE y)),(false,[.val (.int .i64 (ja3 y))])]):=by
 refine vZ [[1,1,1,1,0,1,0,0,1,1,0,0,0],[1,1,1,1,0,1,0,0,1,1,0,0,1,0],[1,1,1,1,0,1,0,0,1,1,1]] Tryz.func51 jli (by simp) ?_
 unfold jkD;simp only [C.ghs,C.ghAt,List.foldr];have dZ:jt y<=2000000:=by omega
 simp only [go_sem,jb];intro b1 b2;refine jx (ke y dZ) λbC=>?_
 simp only [go_sem,jb];intro b4;refine jx (kJ y dZ) λη=>?_
 simp only [go_sem,jb];cases aC:jw y
 ·have hc:ja3 y=8:=by simp [ja3,aC]
  have hy:jaE y=y:=by rw [jaE,if_neg (by rw [hc];decide)]
  simp only [go_sem,jb,aC,hc,hy];refine qm _ _ _ _ _ ?_;simp only [go_sem,jb]
 have hP:=yard_iff.1 aC;have gW:=hP.now;have eL:IntKind.i64.wrap (y.now+1)=y.now+1:=zy;by_cases g9:y.now+1>999999980
 ·have hc:ja3 y=7:=by rw [ja3,if_neg (by rw [aC];decide),if_pos g9]
  have hy:jaE y=y:=by rw [jaE,if_neg (by rw [hc];decide)]
  simp only [go_sem,jb,aC,eL,g9,hc,hy];refine qm _ _ _ _ _ ?_;simp only [go_sem,jb]
 have hc:ja3 y=0:=by rw [ja3,if_neg (by rw [aC];decide),if_neg g9]
 rw [hc,jaE,if_pos hc];simp only [go_sem,jb,aC,eL,g9];refine jx (jmZ y dZ (jnH hP)) λuO=>?_
 simp only [go_sem,jb];have h96:=jm8 hP;refine vo (λi:Nat×jm×jm×jm=>St.of [(2,Bx 92 b2),(4,Bx 90 b4),(25,Hd 93 i.2.2.2),(26,Ni (kC y).length),(27,Ni i.1)] [(92,ZYd b2 tYd),(90,ka b4 tYd (y.now+1) (tickI y i.1).seq (tickI y i.1).aLU i.2.1 (tickI y i.1).aLX i.2.2.1),(93,.loose (qW (kC y)) i.2.2.2)]) (λi=>i.1<=(kC y).length) (λi=>(kC y).length-i.1) (0,bC 2,bC 3,uO 0) (jy [200,400,2500] (by simp only [go_sem,jb,show tickI y 0=y from rfl]<;>trivial)) ?_
 rintro ⟨i,f2,f3,f9⟩ hi;dsimp only at hi;have hJ:=jdz hP i;by_cases aB:i<(kC y).length
 ·have aA:(i:Int)<(kC y).length:=by omega
  have eK:=qT i;obtain ⟨l,hl⟩:=jd aB;obtain ⟨k,t,r0,x0,lQ,mG,nS,hs0,eV⟩:=jrw hP (aMJ hl);have hw:=kX i;have gG:tickI y (i+1)=failK (tickI y i) k t:=by rw [je0 hl,eV,jmu];simp only [List.headD_cons,List.tail_cons,hJ.later.runAt,nS,aMQ]
  generalize tickI y i=z at*;obtain ⟨r,hr,hid,iW,hR,bZ,oG⟩:=hJ.later.aLX k r0 lQ;have cC:=hR.le12;have cP:=(aMI.1 mG).1;have gZ:t<r.aLT.length:=by omega
  obtain ⟨x,hx⟩:=jd gZ;have hO:failK z k t=if x.aLV==3 then kT z k (jz r t) else z:=by rw [failK,hr,aMM,kt hx]
  have hho:qw z r0.id t x0.tri=(x.aLV==3):=by rw [jl3 hJ.later lQ nS mG,hr,aMM,kt hx]
  have gV:runAt z r0.id=(k:Int):=by rw [hJ.later.runAt,nS]
  subst eV;simp only [go_sem,aA];refine qa ?_;refine jeW 93 0 i 94 (η:=f9) (sz:=1) (tyo:=tIs) (ds0:=(kC y).flatMap λes=>[je es]) (cs:=[r0.id,(t:Int),x0.tri].flatMap λn=>[iv n]) rfl (jqg hl) rfl (by decide) λbH eP yJ mV nW=>?_
  rw [<-mV];rw [<-mV] at nW;refine WkK.wk (s':=St.of [(2,Bx 92 b2),(4,Bx 90 b4),(25,Hd 93 eP),(26,Ni (kC y).length),(27,Ni i)] [(92,ZYd b2 tYd),(90,ka b4 tYd (y.now+1) z.seq z.aLU f2 z.aLX f3),(93,.loose (.sl 1 tIs (((kC y).flatMap λes=>[je es]).set i (.val (bH [])))) eP),(94,.loose (je [r0.id,(t:Int),x0.tri]) bH)]) (jy [92,90,93,94] (by simp only [go_sem,yJ]<;>trivial)) ?_
  refine WkK.of ?_;have gJ:i+1<=(kC y).length:=aB;simp only [go_sem,aA,aB,eK,aMZ,joK,je8,jtf aB,nW,gJ];intro b6;refine qa ?_;refine WkK.wk (s':=St.of [(2,Bx 92 b2),(4,Bx 90 b4),(6,Bx 91 b6),(25,Hd 93 eP),(26,Ni (kC y).length),(27,Ni i)] [(92,ZYd b2 tYd),(90,ka b4 tYd (y.now+1) z.seq z.aLU f2 z.aLX f3),(93,.loose (.sl 1 tIs (((kC y).flatMap λes=>[je es]).set i (.val (bH [])))) eP),(94,.loose (je [r0.id,(t:Int),x0.tri]) bH),(91,.box b6 tIs [.a (.v (bH []))])]) (jy [92,90,93,94,600]) ?_
  refine ve 91 0 94 (d:=je [r0.id,(t:Int),x0.tri]) (η:=bH) rfl rfl rfl ?_;refine WkK.wk (s':=St.of [(2,Bx 92 b2),(4,Bx 90 b4),(6,Bx 91 b6),(25,Hd 93 eP),(26,Ni (kC y).length),(27,Ni i)] [(92,ZYd b2 tYd),(90,ka b4 tYd (y.now+1) z.seq z.aLU f2 z.aLX f3),(93,.loose (.sl 1 tIs (((kC y).flatMap λes=>[je es]).set i (.val (bH [])))) eP),(91,.box b6 tIs [.own (je [r0.id,(t:Int),x0.tri]) bH])]) (jy [92,90,93,91]) ?_
  refine WkK.of ?_;simp only [go_sem,aMZ];refine jx (jae ⟨y.now+1,z.seq,z.aLU,z.aLX⟩ r0.id t x0.tri) λη=>?_
  simp only [go_sem,jb];rw [show qw ⟨y.now+1,z.seq,z.aLU,z.aLX⟩ r0.id t x0.tri=(x.aLV==3) from hho]
  cases hs:x.aLV==3
  ·rw [hs,if_neg (by decide)] at hO
   rw [hO] at gG;simp only [go_sem,hs];refine qa ?_;refine WkK.wk (s':=St.of [(2,Bx 92 b2),(4,Bx 90 b4),(25,Hd 93 eP),(26,Ni (kC y).length),(27,Ni i)] [(92,ZYd b2 tYd),(90,ka b4 tYd (y.now+1) z.seq z.aLU f2 z.aLX f3),(93,.loose (.sl 1 tIs (((kC y).flatMap λes=>[je es]).set i (.val (bH [])))) eP),(91,.box b6 tIs [.own (je [r0.id,(t:Int),x0.tri]) bH])]) (jy [92,90,93,91]) ?_
   refine qY 91 0 94 (d:=je [r0.id,(t:Int),x0.tri]) (η:=bH) rfl rfl (by decide) λ_=>?_
   refine qI 93 0 i 94 (η:=eP) (aV:=bH) (sz:=1) (tyo:=tIs) (ds0:=((kC y).flatMap λes=>[je es]).set i (.val (bH []))) (cs:=[r0.id,(t:Int),x0.tri].flatMap λn=>[iv n]) rfl (aML (by rw [jqf];exact aB)) (.inl rfl) rfl (by decide) λrS hE=>?_
   rw [aNP,show D.sl 1 jg3 ([r0.id,(t:Int),x0.tri].flatMap λn=>[iv n])=je [r0.id,(t:Int),x0.tri] from rfl,jaw (jqg hl)]
   refine WkK.of ?_;simp only [go_sem,hw];exact ql (i+1,f2,f3,rS) (jy [92,90,93] (by simp only [go_sem,gG,hE,qW]<;>trivial))
  ·rw [hs,if_pos rfl] at hO
   rw [hO] at gG;have lG:x.aLV=3:=by simpa using hs
   simp only [go_sem,hs,aMZ];refine jx (qg ⟨y.now+1,z.seq,z.aLU,z.aLX⟩ r0.id) λη=>?_
   simp only [go_sem,jb];rw [show runAt ⟨y.now+1,z.seq,z.aLU,z.aLX⟩ r0.id=(k:Int) from gV]
   have hq:=hJ.seq;have htz:=hJ.tot
   have hte:jt ⟨y.now+1,z.seq,z.aLU,z.aLX⟩<=2000000:=by
    have e:jt ⟨y.now+1,z.seq,z.aLU,z.aLX⟩=jt z:=rfl;rw [e];omega
   refine kL (vs:=[Bx 90 b4,Ni k,.fn 121 [.bp 91 0 b6]]) (by simp only [go_sem]) (jdR (y:=⟨y.now+1,z.seq,z.aLU,z.aLX⟩) (H:=.box b6 tIs [.own (je [r0.id,(t:Int),x0.tri]) bH]) hr (kF r t) cC hJ.four (by dsimp only;omega) hte (jwd hr (je2 hR hx lG)) (e2:=f2) (e3:=f3) (by simp only [go_sem]) (by simp only [go_sem])) ?_
   rintro _ o1 ⟨rfl,⟨g2,g3,j90⟩,j91,j92,j93,j94,j95,j96⟩;have j92':o1 92=ZYd b2 tYd:=j92;have j93':o1 93=.loose (.sl 1 tIs (((kC y).flatMap λes=>[je es]).set i (.val (bH [])))) eP:=j93
   have j90':o1 90=ka b4 tYd (y.now+1) (kT z k (jz r t)).seq (kT z k (jz r t)).aLU g2 (kT z k (jz r t)).aLX g3:=j90;generalize kT z k (jz r t)=z2 at*;refine qa ?_;refine WkK.wk (s':=St.of [(2,Bx 92 b2),(4,Bx 90 b4),(25,Hd 93 eP),(26,Ni (kC y).length),(27,Ni i)] [(92,ZYd b2 tYd),(90,ka b4 tYd (y.now+1) z2.seq z2.aLU g2 z2.aLX g3),(93,.loose (.sl 1 tIs (((kC y).flatMap λes=>[je es]).set i (.val (bH [])))) eP),(91,.box b6 tIs [.own (je [r0.id,(t:Int),x0.tri]) bH])]) (jy [92,90,93,91] (by simp only [go_sem,j90',j91,j92',j93']<;>trivial)) ?_
   refine qY 91 0 94 (d:=je [r0.id,(t:Int),x0.tri]) (η:=bH) rfl rfl (by decide) λ_=>?_
   refine qI 93 0 i 94 (η:=eP) (aV:=bH) (sz:=1) (tyo:=tIs) (ds0:=((kC y).flatMap λes=>[je es]).set i (.val (bH []))) (cs:=[r0.id,(t:Int),x0.tri].flatMap λn=>[iv n]) rfl (aML (by rw [jqf];exact aB)) (.inl rfl) rfl (by decide) λrS hE=>?_
   rw [aNP,show D.sl 1 jg3 ([r0.id,(t:Int),x0.tri].flatMap λn=>[iv n])=je [r0.id,(t:Int),x0.tri] from rfl,jaw (jqg hl)]
   refine WkK.of ?_;simp only [go_sem,hw];exact ql (i+1,g2,g3,rS) (jy [92,90,93] (by simp only [go_sem,gG,hE,qW]<;>trivial))
 have aA:¬(i:Int)<(kC y).length:=by omega
 obtain rfl:i=(kC y).length:=by omega
 generalize tickI y (kC y).length=z at*;simp only [go_sem,aA];refine qm _ _ _ _ _ ?_;simp only [go_sem,jb]
