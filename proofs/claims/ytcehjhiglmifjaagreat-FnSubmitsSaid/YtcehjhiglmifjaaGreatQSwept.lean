/- Parts. -/
import Derived.Test.YtcehjhiglmifjaaGreatQCopyY
set_option linter.all false
set_option maxHeartbeats 8000000
set_option maxRecDepth 100000
namespace Go.Proofs.YtcehjhiglmifjaaGreat
open Go.RowKit Go.Sort
structure jBy (p:En->Bool) (l L:List En) (i j:Nat):Prop where
 len:L.length=l.length
 ij:i<j
 jl:j<=l.length
 pre:L.take i=(l.take j).filter λe=>!p e
 suf:∀q,j<=q->L[q]?=l[q]?
section
variable {p:En->Bool} {l L:List En} {i j:Nat} {e:En}
theorem jFQ (h:l[i]?=some e) (he:p e=true) (hn:∀y∈l.take i,p y=false):jBy p l l i (i+1):=by
 refine ⟨rfl,by omega,(aOS.1 h).1,?_,λ_ _=>rfl⟩
 rw [aPE,h,aRD];simp only [Option.toList_some,aRX,he,Bool.not_true,aRG,if_false,List.filter_nil,aPR];exact (List.filter_eq_self.2 λy hy=>by rw [hn y hy];rfl).symm
theorem jBj (hd:jBy p l L i j) (h:l[j]?=some e) (he:p e=true):jBy p l L i (j+1):=by
 refine ⟨hd.len,by have:=hd.ij;omega,(aOS.1 h).1,?_,λq hq=>hd.suf q (by omega)⟩
 rw [hd.pre,aPE,h,aRD];simp [he]
theorem jxK (hd:jBy p l L i j) (h:l[j]?=some e) (he:p e=false):jBy p l (L.set i e) (i+1) (j+1):=by
 have hj:=(aOS.1 h).1;have h1:=hd.ij;have h2:=hd.len;refine ⟨by rw [aPF];exact h2,by omega,hj,?_,λq hq=>?_⟩
 ·rw [aPE,aOY (by omega),List.take_set_of_le (aPD _),hd.pre,aPE,h,aRD]
  simp [he]
 ·rw [aPW (by omega)];exact hd.suf q (by omega)
theorem jxL (hd:jBy p l L i l.length):L.take i=l.filter λe=>!p e:=by rw [hd.pre,aRC]
end
def kJ:C:=iS [aN 4 0] (.seq (iS [aM 6 0,aG 7 6,aN 8 0] (.blk 0 (.loop (iS [aP 9 .lss 3 8 7] (.seq (iD 9 .skip (.exit 0)) (.seq (.blk 1 (iS [aM 10 8,aM 5 10] (iS [aM 11 1,aM 12 0,aM 13 5,aI 14 4 12 13,aT 15 4 14,iA 16 (.callv (.t 11) [.t 15])] (iD 16 (iS [aM 17 5,aM 4 17] .ret) .skip)))) (.reg [aQ 18 .add 3 8 1,aM 8 18]))))))) (iS [aN 4 (-1)] .ret))
theorem qQ:fnC Tryz.prog Tryz.f141=some (kJ,[.t 4],19):=by kernel_rfl
theorem jcj (l:List En) (f:Nat) (cd:List D) (p:En->Bool) (hf:∀x,jZ Tryz.prog f [.agg (jj x),.ptr cd] (.c (.val (.bool (p x))))) (hl:l.length<=4000000):jZ Tryz.prog 141 [.c (jf l),.fn f [cd]] (.c (.val (.int .i64 (jew p l)))):=by
 refine pf_ qQ ?_;unfold kJ;simp only [go_sem];refine qP (λi:Nat=>St.of [(0,Ro (jf l)),(1,.fn f [.rp cd]),(7,Ni l.length),(8,Ni i)] []) (λi=>i<=l.length/\∀y∈l.take i,p y=false) (λi=>l.length-i) 0 (vU [] (by simp only [go_sem]<;>trivial)) ?_
 rintro k ⟨hk,cX⟩;by_cases aB:k<l.length
 ·have aA:(k:Int)<l.length:=by omega
  have bL:=qN k;obtain ⟨x,hx⟩:=ja aB;have hw:=kw k;simp only [go_sem,aB,aA,bL,jU hx,jj];refine jkM (by simp only [go_sem];rfl) (hf x) (by simp only [go_sem,jj]) λη=>?_
  cases hp:p x
  ·simp only [go_sem,hw]
   exact ⟨k+1,⟨aB,jnD hx hp cX⟩,(vU [] (by simp only [go_sem]<;>trivial)),by (try dsimp only);omega⟩
  ·simp only [go_sem,jbW hx hp cX]
 ·have aA:¬(k:Int)<l.length:=by omega
  rw [aOW (by omega)] at cX
  simp only [go_sem,aA,jaO cX]
def qr (y:Yd) (k:Int):Yd:=if 0<=k/\k<=(y.aOE.length:Int)-1 then ⟨y.now,y.seq,y.aOE.set k.toNat (((y.aOE[k.toNat]?).getD []).filter (jJ y)),y.aOH⟩ else y
theorem jsr {y:Yd} {k:Int} (h:¬(0<=k/\k<=(y.aOE.length:Int)-1)):qr y k=y:=by rw [qr,if_neg h]
theorem jgc {y:Yd} {k:Nat} {l:List En} (h:y.aOE[k]?=some l):qr y k=⟨y.now,y.seq,y.aOE.set k (l.filter (jJ y)),y.aOH⟩:=by
 have:=(aOS.1 h).1;rw [qr,if_pos (by omega)]
 simp [h]
theorem jxy (l:List En) (a:En):D.sl 4 tEn (l.flatMap jj++[.val (.int .i64 a.aOL),.val (.int .i64 a.seq),.val (.int .i64 a.run),.val (.int .i64 a.aOK)])=jf (l++[a]):=by simp [jf,jj]
theorem jmK (sh:List (List En)):(sh.flatMap λes=>[jf es])=sh.map jf:=by induction sh<;>simp_all
theorem jii {sh:List (List En)} {k:Nat} {l:List En} (h:sh[k]?=some l):(sh.flatMap λes=>[jf es])[k]?=some (.sl 4 tEn (l.flatMap jj)):=by
 rw [jmK,aRQ,h];rfl
theorem jrk {sh:List (List En)} {k i:Nat} {l l2:List En} {ds:List D} (h:sh[k]?=some l) (hp:D.put [] i ds (jf l)=jf l2):D.put [k] i ds (ke sh)=ke (sh.set k l2):=by
 have hd:(sh.flatMap λes=>[jf es])[k]?=some (jf l):=jii h
 simp only [ke,D.put,hd,hp];simp only [jmK,List.map_set]
theorem jsO {sh:List (List En)} {k i:Nat} {l:List En} (e:En) (h:sh[k]?=some l) (hi:i<l.length):D.put [k] (i*4) [.val (.int .i64 e.aOL),.val (.int .i64 e.seq),.val (.int .i64 e.run),.val (.int .i64 e.aOK)] (ke sh)=ke (sh.set k (l.set i e)):=jrk h (juo e hi)
def jeH:En:=⟨0,0,0,0⟩
theorem jAW (n:Nat):(List.replicate n [D.val (.int .i64 0),D.val (.int .i64 0),D.val (.int .i64 0),D.val (.int .i64 0)]).flatten=(List.replicate n jeH).flatMap jj:=by
 rw [List.flatMap_replicate];rfl
theorem jBn {l:List En} {i n:Nat} (h:i+n=l.length):D.put [] (i*4) ((List.replicate n jeH).flatMap jj) (jf l)=jf (l.take i++List.replicate n jeH):=by
 have h4:∀x:En,(jj x).length=4:=λ_=>rfl
 have e1:l.flatMap jj=(l.take i).flatMap jj++(l.drop i).flatMap jj:=by rw [<-aQO,aQR]
 have l1:((l.take i).flatMap jj).length=i*4:=by rw [jD h4,aOZ,aQL (by omega)]
 have l2:((l.drop i).flatMap jj).length=n*4:=by rw [jD h4,aPN];congr 1;omega
 have l3:((List.replicate n jeH).flatMap jj).length=n*4:=by rw [jD h4,aRW]
 simp only [jf,D.put];rw [kY _ _ _ (by rw [e1,aOU];omega),e1,List.take_left' l1,l3,List.drop_eq_nil_of_le (by rw [aOU];omega),aPR,aQO]
theorem jzZ:∀{l m:List D},(∀x∈m,x∈l)->ka l=true->ka m=true:=by
 intro l m h hl
 have key:∀{l:List D},ka l=true↔∀x∈l,∃u,x=.val u/\u.oneCell'=true:=by
  intro l
  induction l with
  |nil=>simp [ka]
  |cons a l ih=>
   cases a with
   |val u=>
    simp only [ka,aPG,ih,aPL];constructor
    ·rintro ⟨h1,h2⟩ x (rfl|hx)
     ·exact ⟨u,rfl,h1⟩
     ·exact h2 x hx
    ·intro h
     refine ⟨?_,λx hx=>h x (.inr hx)⟩
     obtain ⟨v,h1,h2⟩:=h _ (.inl rfl);cases h1;exact h2
   |sl a b c=>
    simp only [ka,aRG,false_iff];intro h;obtain ⟨v,h1,_⟩:=h _ (List.mem_cons_self);cases h1
 exact key.2 λx hx=>key.1 hl x (h x hx)
theorem jqm (l:List En) (a b:Nat):ka (((l.flatMap jj).drop a).take b)=true:=jzZ (λx hx=>aSA (aRU hx)) (jbm l)
def jeT (sh:List (List En)) (n:Nat) (v:Value):D:=.sl 1 jq4 ((sh.flatMap λes=>[jf es]).set n (.val v))
theorem jgM (sh:List (List En)) (n:Nat) (v:Value):D.sl 1 jq4 ((sh.flatMap λes=>[jf es]).set n (.val v))=jeT sh n v:=rfl
theorem jkD (sh:List (List En)) (n:Nat) (v:Value):(jeT sh n v).isSl=true:=rfl
theorem jkx (sh:List (List En)) (n:Nat) (v:Value):(jeT sh n v).size=1:=rfl
theorem jgw (sh:List (List En)) (n:Nat) (v:Value):(jeT sh n v).len=sh.length:=by simp [jeT,D.len,D.cells,D.size,jmK]
theorem jb1 (sh:List (List En)) (n:Nat) (v:Value):(jeT sh n v).cells.length=sh.length:=by simp [jeT,D.cells,jmK]
theorem jgn {sh:List (List En)} {n:Nat} (v:Value) (l:List En) (h:n<sh.length):D.put [] n [jf l] (jeT sh n v)=ke (sh.set n l):=by
 simp only [jeT,D.put,kz,ke,jmK,aQB,List.map_set]
theorem jna (o:Nat->Ob) (g c g2:Nat) (d:D) (aH:jg) (d2:D) (aS:jg) (j:Nat):jC1 o g c g2 d aH d2 aS j=if j=g2 then .loose d2 aS else if j=g then (o g).putOwn c d aH else o j:=rfl
theorem jaH {α:Type} {l:List α} {k:Nat} {x:α} (h:l[k]?=some x):l.set k x=l:=by
 apply aRB
 intro j;by_cases e:k=j
 ·subst e;rw [aOY (aOS.1 h).1,h]
 ·rw [aPW e]
def jjg:C:=iS [iA 2 (.box 27 4 (.t 0)),iA 4 wAL] (iS [aT 8 4 2,iA 9 (iK 67 [8]),iA 5 wAL,wAA 5 9] (.seq (iS [aM 10 1,aF 11 2 2,aL 12 11,aG 13 12,aQ 14 .sub 3 13 1,iA 15 (.call 68 [.t 10,oI 0,.t 14]),aU 16 15] (iD 16 (iS [aT 17 4 5,wAA 4 17] .ret) .skip)) (iS [iA 18 (wAZ []),aM 6 18] (.seq (iS [aN 7 0] (.blk 0 (.loop (.seq (iS [aM 19 7,aF 20 2 2,aL 21 20,aM 22 1,aI 23 1 21 22,aL 24 23,aG 25 24,aP 26 .lss 3 19 25] (iD 26 .skip (.exit 0))) (.seq (.blk 1 (.seq (.dreg (tA 0 29 (iT 4 2) (tA 1 30 (iF 2 2) (tA 2 31 (iL 30) (tA 3 32 (iM 1) (tA 4 33 (iI 1 31 32) (tA 5 34 (iL 33) (tA 6 35 (iM 7) (tA 7 36 (iI 4 34 35) (tA 8 37 (iT 4 36) (tC 38 (iK 75 [29,37]) [] .done .stop))))))))))) (iD 38 (.reg [aM 39 6,aF 40 2 2,aL 41 40,aM 42 1,aI 43 1 41 42,aL 44 43,aM 45 7,aI 46 4 44 45,aT 47 4 46,iA 48 (wA0 [(0,4,.t 47)]),iA 49 (wA8 39 48),aM 6 49]) .skip))) (.reg [aM 27 7,aQ 28 .add 3 27 1,aM 7 28])))))) (iS [aF 50 2 5,aL 51 50,aM 52 1,aM 53 6,aI 54 1 51 52,wAE 54 53] (iS [aT 55 4 5,wAA 4 55] .ret))))))
theorem jlz:fnC Tryz.prog Tryz.f23=some (jjg,[.cell 4 true 4],56):=by kernel_rfl
def jfs:C:=iS [iA 2 (.box 44 4 (.t 0)),aO 3 false] (iS [aT 4 4 1,aT 5 4 2,iA 6 (iK 84 [4,5]),aU 7 6,aM 3 7] .ret)
theorem jiR:fnC Tryz.prog Tryz.f86=some (jfs,[.t 3],8):=by kernel_rfl
def jjm:C:=iS [iA 2 (.box 27 4 (.t 0)),iA 4 wAL] (iS [aT 6 4 2,iA 7 (iK 61 [6]),iA 5 wAL,wAA 5 7] (.seq (iS [aM 8 1,aF 9 2 2,aL 10 9,aG 11 10,aQ 12 .sub 3 11 1,iA 13 (.call 62 [.t 8,oI 0,.t 12]),aU 14 13] (iD 14 (iS [aT 15 4 5,wAA 4 15] .ret) .skip)) (.seq (.dreg (tA 0 16 (iF 2 5) (tA 1 17 (iL 16) (tA 2 18 (iM 1) (tA 3 19 (iF 2 5) (tA 4 20 (iL 19) (tA 5 21 (iM 1) (tA 6 22 (iI 1 20 21) (tA 7 23 (iL 22) (tA 8 24 (.mkf 86 [.t 2]) (tC 25 (iK 85 [23,24]) [2,1,0] (tA 10 26 (iI 1 17 18) (.alt (wAE 26 25) [] .done .stop)) .stop))))))))))) (iS [aT 27 4 5,wAA 4 27] .ret))))
theorem jlG:fnC Tryz.prog Tryz.f24=some (jjm,[.cell 4 true 4],28):=by kernel_rfl
def kf:C:=iS [iA 4 (.mov (.c (.slice none 0 0)))] (iS [aM 8 0,aM 9 1,iA 10 (iK 141 [8,9]),aM 5 10] (.seq (iS [aM 11 5,aQ 12 .eql 3 11 (-1)] (iD 12 (iS [aM 13 0,aM 4 13] .ret) .skip)) (.seq (iS [aM 14 5,aQ 15 .add 3 14 1,aM 6 15] (.blk 0 (.loop (.seq (iS [aM 16 6,aM 17 0,aG 18 17,aP 19 .lss 3 16 18] (iD 19 .skip (.exit 0))) (.seq (.blk 1 (iS [aM 22 0,aM 23 6,aI 24 4 22 23,aT 25 4 24,iA 7 wAP,wAB 7 25] (iS [aM 26 1,aT 27 4 7,iA 28 (.callv (.t 26) [.t 27]),aU 29 28] (iD 29 (iS [aM 30 0,aM 31 5,aT 32 4 7,aI 33 4 30 31,wAB 33 32] (.reg [aM 34 5,aQ 35 .add 3 34 1,aM 5 35])) .skip)))) (.reg [aM 20 6,aQ 21 .add 3 20 1,aM 6 21])))))) (iS [aM 36 0,aM 37 5,iA 38 (.sl 4 (.t 36) (some (.t 37)) none),iC (.clr 4 [D.val (.int .i64 0),D.val (.int .i64 0),D.val (.int .i64 0),D.val (.int .i64 0)] (.t 38))] (iS [aM 39 0,aM 40 5,iA 41 (.sl 4 (.t 39) none (some (.t 40))),aM 4 41] .ret)))))
theorem kv:fnC Tryz.prog Tryz.f85=some (kf,[.t 4],42):=by kernel_rfl
theorem jdi (y:Yd) (k:Int) (ht:jB y<=2000000):jZ Tryz.prog 23 [.agg (jb y),.c (.val (.int .i64 k))] (.agg (jb (qr y k))):=by
 refine pf_ jlz ?_;unfold jjg;have fH:y.aOE.length<=2000000:=by simp only [jB,jbG] at ht;omega
 have rM:IntKind.i64.wrap ((y.aOE.length:Int)-1)=(y.aOE.length:Int)-1:=zm;simp only [go_sem,jb];intro b2 b4;refine jk (kp y ht) λbI=>?_
 simp only [go_sem,jb];intro b5;simp only [go_sem,rM];refine jk (jK k 0 (y.aOE.length-1)) λη=>?_
 simp only [go_sem];cases h:decide (0<=k/\k<=(y.aOE.length:Int)-1)
 ·simp only [go_sem,jsr (of_decide_eq_false h)]
 have h':=aPV h;obtain ⟨n,rfl⟩:=Int.eq_ofNat_of_zero_le h'.1;have hn:n<y.aOE.length:=by omega
 have l9:=qN n;obtain ⟨l,hl⟩:=ja hn;have eR:=jbL ht (aOT hl);rw [jgc hl];simp only [go_sem,jif];intro t6;refine qP (λi:Nat×jg=>St.of [(1,Ni n),(2,Bx 200 b2),(4,Bx 400 b4),(5,Bx 500 b5),(6,Hd 6 i.2),(7,Ni i.1)] [(200,Bi b2 _ (jb y)),(400,ZYd b4 _),(500,jX b5 _ y.now y.seq y.aOE (bI 2) y.aOH (bI 3)),(6,.loose (jf ((l.take i.1).filter (jJ y))) i.2)]) (λi=>i.1<=l.length) (λi=>l.length-i.1) (0,t6) (js [200,400,500,1800] (by simp only [go_sem,jb,aQH,List.filter_nil]<;>trivial)) ?_
 rintro ⟨j,mW⟩ hj;dsimp only at hj;by_cases aB:j<l.length
 ·have aA:(j:Int)<l.length:=by omega
  have dK:=qN j;obtain ⟨e,he⟩:=ja aB;have hw:=kw j;have e9:=jfK (f:=jJ y) he;have f8:((l.take j).filter (jJ y)).length<=4000000:=aQJ (aPT _ _) (by rw [aOZ];omega)
  generalize (l.take j).filter (jJ y)=M at*;have m1:M.length+1<=maxLen:=vT;have m2:(M.length+1)*32<=140737488355328:=by omega
  simp only [go_sem,jb,hn,l9,kC hl,aB,aA,dK,jU he,jj];refine jk (ji7 y e) λη=>?_
  simp only [go_sem];cases hf:jJ y e
  ·rw [hf] at e9
   simp only [aRG,if_false] at e9;simp only [go_sem,hw];exact qc (j+1,mW) (js [200,400,500,6] (by simp only [go_sem,e9]<;>trivial))
  ·rw [hf] at e9
   simp only [if_true] at e9;simp only [go_sem,hn,l9,kC hl,aB,dK,jU he,jj,m1,m2,jxy,hw];intro rJ aBM;exact qc (j+1,aBM) (js [200,400,500,4900] (by simp only [go_sem,e9]<;>trivial))
 have aA:¬(j:Int)<l.length:=by omega
 rw [aOW (by omega)]
 generalize l.filter (jJ y)=M at*;simp only [go_sem,jb,hn,l9,kC hl,aA,jaK hn,jwv M hn];exact λ_ _=>trivial
theorem jsX (y:Yd) (e:En):jZ Tryz.prog 86 [.agg (jj e),.ptr (jb y)] (.c (.val (.bool (!jJ y e)))):=by
 refine pf_ jiR ?_;unfold jfs;simp only [go_sem,jb,jj];intro b2;refine jk (jdo y e) λη=>?_
 simp only [go_sem]
theorem jdm (y:Yd) (k:Int) (ht:jB y<=2000000):jZ Tryz.prog 24 [.agg (jb y),.c (.val (.int .i64 k))] (.agg (jb (qr y k))):=by
 refine pf_ jlG ?_;unfold jjm;have fH:y.aOE.length<=2000000:=by simp only [jB,jbG] at ht;omega
 have rM:IntKind.i64.wrap ((y.aOE.length:Int)-1)=(y.aOE.length:Int)-1:=zm;simp only [go_sem,jb];intro b2 b4;refine jk (kj y ht) λbI=>?_
 simp only [go_sem,jb];intro b5;simp only [go_sem,rM];refine jk (jx k 0 (y.aOE.length-1)) λη=>?_
 simp only [go_sem];cases h:decide (0<=k/\k<=(y.aOE.length:Int)-1)
 ·simp only [go_sem,jsr (of_decide_eq_false h)]
 have h':=aPV h;obtain ⟨n,rfl⟩:=Int.eq_ofNat_of_zero_le h'.1;have hn:n<y.aOE.length:=by omega
 have l9:=qN n;obtain ⟨l,hl⟩:=ja hn;have eR:=jbL ht (aOT hl);rw [jgc hl];have gX:n+1<=(y.aOE.flatMap λes=>[jf es]).length:=by have:=jaK hn;rwa [aPK] at this
 have nG:((y.aOE.flatMap λes=>[jf es]).drop n).take 1=[jf l]:=by have:=jbs hl;rwa [aPK] at this
 simp only [go_sem,hn,l9,nG,gX,aPK];refine kW (jxh ?_);refine qm (β:=7000000) Tryz.func85 kv (by simp) ?_
 unfold kf;simp only [go_sem];refine jw (jcj l _ (jb y) (λe=>!jJ y e) (λx=>jsX y x) eR) (by simp only [go_sem,jb,qn hl]) λη=>?_
 simp only [go_sem]
 have hcut:∀(L:List En) (m:Nat),m<=L.length->(L.flatMap jj).take (m*4)=(L.take m).flatMap jj:=λL m hm=>by
  have e1:L.flatMap jj=(L.take m).flatMap jj++(L.drop m).flatMap jj:=by rw [<-aQO,aQR]
  rw [e1,List.take_left' (by rw [jD jtr,aOZ,aQL hm])]
 rcases zW (λe=>!jJ y e) l with ⟨h1,h2⟩|⟨i0,x0,h1,h2,h3,h4⟩
 ·have f8:l.filter (jJ y)=l:=List.filter_eq_self.2 λe he=>by have:=h2 e he;simpa using this
  simp only [go_sem,h1,aQD];refine ⟨500,2,n,777,l.length,4,tEn,jq4,l.flatMap jj,_,bI 2,.inr ⟨rfl,(jD jtr l).symm⟩,by simp only [go_sem];rfl,jii hl,by simp only [go_sem],by decide,by decide,by rw [jD jtr];exact aPD _,λaS aH hη=>?_⟩
  rw [hcut l l.length (aPD _),aRC,f8];simp only [go_sem,jna,jgM,hη,jkD,jkx,jgw,hn,aPK,jb1,jgn _ l hn,kE];exact ⟨hn,λ_ _=>trivial⟩
 ·have tO:=(aOS.1 h2).1
  have aK:((i0:Int)==-1)=false:=by simp
  have hw0:=kw i0;have oV:=jaH hl;simp only [go_sem,h1,aK,hw0];refine kh (λi:Nat×Nat×List En=>St.of [(0,.c (.h 500 2 [n] (bI 2 [n]))),(1,.fn 86 [.bp 200 0 b2]),(5,Ni i.1),(6,Ni i.2.1)] [(200,Bi b2 _ (jb y)),(400,ZYd b4 _),(500,jX b5 _ y.now y.seq (y.aOE.set n i.2.2) (bI 2) y.aOH (bI 3))]) (λi=>jBy (λe=>!jJ y e) l i.2.2 i.1 i.2.1) (λi=>l.length-i.2.1) (i0,i0+1,l) (jFQ h2 h3 h4) (js [200,400,500] (by simp only [go_sem,jb,oV]<;>trivial)) ?_
  rintro ⟨i,j,L⟩ hd;dsimp only at hd;have hL:(y.aOE.set n L)[n]?=some L:=aOY hn;have pQ:=hd.len;have hij:=hd.ij;have bJ:=hd.jl;have hU:=qN i;by_cases aB:j<l.length
  ·have aA:(j:Int)<l.length:=by omega
   have dK:=qN j;obtain ⟨e,he⟩:=ja aB;have yS:L[j]?=some e:=by rw [hd.suf j (aPD _)];exact he
   have yL:i<L.length:=by omega
   have hjL:j<L.length:=by omega
   obtain ⟨xi,lH⟩:=ja yL;have hw:=kw j;have gI:=kw i;simp only [go_sem,jb,qn hL,pQ,aB,aA,dK,jvj yS,juU yS,jj];intro b7;refine jkM (by simp only [go_sem];rfl) (jsX y e) (by simp only [go_sem,jb,jj]) λη=>?_
   cases hf:jJ y e
   ·simp only [go_sem,hw]
    exact ⟨(i,j+1,L),jBj hd he (by simp [hf]),(js [200,400,500]),by (try dsimp only);omega⟩
   ·simp only [go_sem,jj,hw,gI,qn hL,pQ,hU,jvj lH,juU lH,jsO e hL yL,aQB,(show i<l.length by omega)]
    exact ⟨(i+1,j+1,L.set i e),jxK hd he (by simp [hf]),(js [200,400,500]),by (try dsimp only);omega⟩
  ·have aA:¬(j:Int)<l.length:=by omega
   obtain rfl:j=l.length:=by omega
   have yU:=jxL hd;have yR:l.filter (λe=>!!jJ y e)=l.filter (jJ y):=by simp
   rw [yR] at yU;have cJ:i<=l.length:=by omega
   have lB:0<l.length-i:=by omega
   have eI:i+(l.length-i)=l.length:=by omega
   have oS:i+(l.length-i)=L.length:=by omega
   have uI:ka ((List.replicate (l.length-i) jeH).flatMap jj)=true:=jbm _;obtain ⟨L2,wB⟩:∃L2,L2=L.take i++List.replicate (l.length-i) jeH:=⟨_,rfl⟩;have wA:L2.length=l.length:=by rw [wB];simp;omega
   have v9:L2.take i=l.filter (jJ y):=by rw [wB,List.take_left' (by rw [aOZ];omega),yU]
   have tF:D.put [n] (i*4) ((List.replicate (l.length-i) jeH).flatMap jj) (ke (y.aOE.set n L))=ke (y.aOE.set n L2):=by rw [jrk hL (jBn oS),aQB,wB]
   have mD:(y.aOE.set n L2)[n]?=some L2:=aOY hn;have gE:n<(y.aOE.set n L2).length:=by rw [aPF];exact hn
   simp only [go_sem,jb,qn hL,pQ,aA,hU,cJ,aPD,lB,eI,jAW,jqm,tF,qn mD,wA];refine ⟨500,2,n,777,i,4,tEn,jq4,L2.flatMap jj,_,bI 2,.inl rfl,by simp only [go_sem];rfl,jii mD,by simp only [go_sem],by decide,by decide,by rw [jD jtr];omega,λaS aH hη=>?_⟩
   rw [hcut L2 i (by omega),v9]
   simp only [go_sem,jna,jgM,hη,jkD,jkx,jgw,aPK,jb1,jgn _ (l.filter (jJ y)) gE,kE,aQB,aPF,hn];exact ⟨hn,λ_ _=>trivial⟩
def jl1 (l:List En) (e:En):Nat:=if jew (λx=>!km x e) l<0 then l.length else (jew (λx=>!km x e) l).toNat
def jcy (l:List En) (e:En):List En:=jm7 l (jl1 l e) e
theorem jCs {l:List En} {e x:En} {k:Nat} (h:l[k]?=some x) (hx:km x e=false) (hn:∀y∈l.take k,(λx=>!km x e) y=false):jl1 l e=k:=by
 have h1:=jbW (f:=λx=>!km x e) h (by simp [hx]) hn
 rw [jl1,h1,if_neg (by omega)];exact aPB k
theorem jsT {l:List En} {e:En} (hn:∀y∈l,(λx=>!km x e) y=false):jl1 l e=l.length:=by
 rw [jl1,jaO hn];rfl
theorem jwx (l:List En) (e:En):jl1 l e<=l.length:=by
 rcases zW (λx=>!km x e) l with ⟨_,h2⟩|⟨k,x,h1,h2,h3,h4⟩
 ·rw [jsT h2];exact aPD _
 ·rw [jl1,h1,if_neg (by omega),aPB];exact Nat.le_of_lt (aOS.1 h2).1
theorem jsS (l:List En) (e:En):(jcy l e).length=l.length+1:=by
 have:=jwx l e;simp [jcy,jm7];omega
theorem jz6 (e:En):D.sl 4 tEn [.val (.int .i64 e.aOL),.val (.int .i64 e.seq),.val (.int .i64 e.run),.val (.int .i64 e.aOK)]=jf [e]:=rfl
theorem jxz (l:List En) (e:En):l.flatMap jj++[.val (.int .i64 e.aOL),.val (.int .i64 e.seq),.val (.int .i64 e.run),.val (.int .i64 e.aOK)]=(l++[e]).flatMap jj:=by simp [jj]
theorem jBg (l m:List En):l.flatMap jj++m.flatMap jj=(l++m).flatMap jj:=aQO.symm
def jdL:C:=iS [iA 3 (.box 44 4 (.t 1)),iA 4 (.mov (.c (.slice none 0 0)))] (iS [aN 5 0] (.seq (.blk 0 (.loop (.seq (.seq (.dreg (tA 0 7 (iM 5) (tA 1 8 (iM 0) (tA 2 9 (iG 8) (tA 3 10 (iP .lss 3 7 9) (tA 4 11 (iM 10) (tB 5 12 11 true (iM 0) (tB 6 13 11 true (iM 5) (tB 7 14 11 true (iI 4 12 13) (tB 8 15 11 true (iT 4 14) (tB 9 16 11 true (iT 4 3) (.alt (iB 17 11 true (iK 180 [15,16])) [] (tA 11 18 (iY 11 (.t 17) (oF)) .done) .stop)))))))))))) (iD 18 .skip (.exit 0))) (.blk 1 (.reg [aM 19 5,aQ 20 .add 3 19 1,aM 5 20]))))) (iS [iA 21 (wAZ []),aM 22 0,aM 23 5,iA 24 (.sl 4 (.t 22) none (some (.t 23))),iA 25 (wA8 21 24),aM 6 25] (iS [aM 26 6,aT 27 4 3,iA 28 (wA0 [(0,4,.t 27)]),iA 29 (wA8 26 28),aM 6 29] (iS [aM 30 6,aM 31 0,aM 32 5,iA 33 (.sl 4 (.t 31) (some (.t 32)) none),iA 34 (wA8 30 33),aM 4 34] .ret)))))
theorem jg1:fnC Tryz.prog Tryz.f135=some (jdL,[.t 4],35):=by kernel_rfl
def jd0:C:=iS [iA 3 (.box 44 4 (.t 1)),iA 4 (.mov (.c (.slice none 0 0)))] (iS [aM 6 0,iA 7 (.mkf 175 [.t 3]),iA 8 (iK 141 [6,7]),aM 5 8] (.seq (iS [aM 9 5,aQ 10 .lss 3 9 0] (iD 10 (.reg [aM 11 0,aG 12 11,aM 5 12]) .skip)) (.seq (.dreg (tA 0 13 (iM 0) (tA 2 15 (iM 5) (tA 3 16 (iT 4 3) (tC 14 (iK 126 [13]) [3,2] (tC 17 (wA0 [(0,4,.t 16)]) [2,0] (tC 18 (iK 176 [14,15,17]) [] (tA 6 4 (iM 18) .done) .stop) .stop) (tC 17 (wA0 [(0,4,.t 16)]) [2,0] (tC 14 (iK 126 [13]) [3,2] (tC 18 (iK 176 [14,15,17]) [] (tA 6 4 (iM 18) .done) .stop) .stop) .stop)))))) .ret)))
theorem jhe:fnC Tryz.prog Tryz.f128=some (jd0,[.t 4],19):=by kernel_rfl
def jb8:C:=iS [iA 2 (.box 44 4 (.t 0)),aO 3 false] (iS [aT 4 4 2,aT 5 4 1,iA 6 (iK 138 [4,5]),aU 7 6,aM 3 7] .ret)
theorem jeE:fnC Tryz.prog Tryz.f175=some (jb8,[.t 3],8):=by kernel_rfl
theorem jaW (l:List En) (e:En) (hl:l.length<=4000000):jZ Tryz.prog 135 [.c (jf l),.agg (jj e)] (.c (jf (jcy l e))):=by
 refine pf_ jg1 ?_;unfold jdL;simp only [go_sem,jj];intro b3;refine qP (λi:Nat=>St.of [(0,Ro (jf l)),(3,Bx 300 b3),(5,Ni i)] [(300,Bi b3 _ (jj e))]) (λi=>i<=l.length/\∀y∈l.take i,(λx=>!km x e) y=false) (λi=>l.length-i) 0 (js [300] (by simp only [go_sem,jj]<;>trivial)) ?_
 rintro k ⟨hk,cX⟩;have bL:=qN k;have dM:=hk;have rN:(l.drop k).take (l.length-k)=l.drop k:=aOW (by rw [aPN];omega)
 obtain ⟨A,hA⟩:∃A,l.take k++[e]=A:=⟨_,rfl⟩;have hAl:A.length=k+1:=by rw [<-hA,aOU,aOZ,aQL hk];rfl
 have hM:∀(hp:jl1 l e=k),jf (jcy l e)=jf (A++l.drop k):=λhp=>by rw [jcy,hp,jm7,<-hA];simp
 have l1:(l.take k).length<=4000000:=by rw [aOZ];omega
 have l2:(l.drop k).length<=4000000:=by rw [aPN];omega
 have m1:(l.take k).length<=maxLen:=vT;have m2:(l.take k).length*32<=140737488355328:=by omega
 have m3:(l.take k).length+1<=maxLen:=vT;have m4:((l.take k).length+1)*32<=140737488355328:=by omega
 have m5:A.length+(l.drop k).length<=maxLen:=vT;have m6:(A.length+(l.drop k).length)*32<=140737488355328:=by omega
 by_cases aB:k<l.length
 ·have aA:(k:Int)<l.length:=by omega
  obtain ⟨x,hx⟩:=ja aB;have hw:=kw k;simp only [go_sem,jj,aB,aA,bL,jU hx];refine jk (ji8 x e) λη=>?_
  simp only [go_sem];cases ha:km x e
  ·rw [hM (jCs hx ha cX)]
   simp only [go_sem,hk,bL,aPD,rN,m1,m2,m3,m4,jxz,hA,m5,m6,jBg,kE]
  ·simp only [go_sem,hw]
   exact ⟨k+1,⟨aB,jnD hx (by simp [ha]) cX⟩,(js [300]),by (try dsimp only);omega⟩
 have aA:¬(k:Int)<l.length:=by omega
 have aDI:∀y∈l,(λx=>!km x e) y=false:=by rw [aOW (by omega)] at cX;exact cX
 rw [hM (by rw [jsT aDI];omega)]
 simp only [go_sem,jj,aA,hk,bL,aPD,rN,m1,m2,m3,m4,jxz,hA,m5,m6,jBg,kE]
theorem jE0 (x e:En):jZ Tryz.prog 175 [.agg (jj x),.ptr (jj e)] (.c (.val (.bool (!km x e)))):=by
 refine pf_ jeE ?_;unfold jb8;simp only [go_sem,jj];intro b2;refine jk (jja x e) λη=>?_
 simp only [go_sem]
theorem jaY (l:List En) (e:En) (hl:l.length<=4000000):jZ Tryz.prog 128 [.c (jf l),.agg (jj e)] (.c (jf (jcy l e))):=by
 refine pf_ jhe ?_;unfold jd0;simp only [go_sem,jj];intro b3;refine jk (jcj l _ (jj e) (λx=>!km x e) (λx=>jE0 x e) hl) λη=>?_
 have dM:=jwx l e;have fT:∀(n:Nat),jl1 l e=n->jcy l e=jm7 l n e:=λn h=>by rw [jcy,h]
 by_cases aV:jew (λx=>!km x e) l<0
 ·have hp:jl1 l e=l.length:=by rw [jl1,if_pos aV]
  rw [fT _ hp];simp only [go_sem,aV];refine ⟨?_,?_⟩
  ·refine jk (ki l hl) λbM=>?_
   simp only [go_sem,jz6];intro nL;refine jgg (R:=λrt _=>rt=.c (jf (jm7 l l.length e))) (by simp only [go_sem];exact (jj8 l l.length e (by omega) hl (by simp only [go_sem]) (by simp only [go_sem]) (by decide)).mono λrt o' h=>h.1) λrt o' hR η=>?_
   subst hR;simp only [go_sem]
  ·simp only [go_sem,jz6]
   intro nL;refine jk (ki l hl) λbM=>?_
   simp only [go_sem];refine jgg (R:=λrt _=>rt=.c (jf (jm7 l l.length e))) (by simp only [go_sem];exact (jj8 l l.length e (by omega) hl (by simp only [go_sem]) (by simp only [go_sem]) (by decide)).mono λrt o' h=>h.1) λrt o' hR η=>?_
   subst hR;simp only [go_sem]
 ·have hn:jew (λx=>!km x e) l=((jl1 l e:Nat):Int):=by rw [jl1,if_neg aV];omega
  rw [fT _ rfl];generalize jl1 l e=n at*;have nC:¬(n:Int)<0:=by omega
  rw [hn];simp only [go_sem,nC];refine ⟨?_,?_⟩
  ·refine jk (ki l hl) λbM=>?_
   simp only [go_sem,jz6];intro nL;refine jgg (R:=λrt _=>rt=.c (jf (jm7 l n e))) (by simp only [go_sem];exact (jj8 l n e (by omega) hl (by simp only [go_sem]) (by simp only [go_sem]) (by decide)).mono λrt o' h=>h.1) λrt o' hR η=>?_
   subst hR;simp only [go_sem]
  ·simp only [go_sem,jz6]
   intro nL;refine jk (ki l hl) λbM=>?_
   simp only [go_sem];refine jgg (R:=λrt _=>rt=.c (jf (jm7 l n e))) (by simp only [go_sem];exact (jj8 l n e (by omega) hl (by simp only [go_sem]) (by simp only [go_sem]) (by decide)).mono λrt o' h=>h.1) λrt o' hR η=>?_
   subst hR;simp only [go_sem]
section
variable {P:Program} {β:Nat} {s:St} {K:St->Prop} {Q:Ex->St->Prop}
theorem ky {a:C} (h:WkK s (wpC P β a Q)):wpC P β (.gh a) Q s:=h
theorem WkK.of {K:St->Prop} (h:K s):WkK s K:=λ_ _ _ _ _ F hr=>⟨s,F,hr,h⟩
theorem WkK.wk {s':St} (h:Wk s s') (hk:WkK s' K):WkK s K:=λB N w0 w a F hr=>let ⟨F',h1,_⟩:=h B N w0 w a F hr;hk B N w0 w a F' h1
theorem jpa {u:Value} (h:∃A n c,u=.slice A n c):u.oneCell'=true:=by obtain ⟨_,_,_,rfl⟩:=h;rfl
theorem jxb {w:World} {own:Bool} {d:D} {u:Value} {S:List Nat} (hd:d.isSl=true) (h:Rep w own d u S):∃A n c,u=.slice A n c:=by
 cases d with
 |val _=>cases hd
 |sl _ _ _=>exact zr h
theorem qD (g c g2:Nat) {d:D} {η:jg} (ho:(s.o g).own c=some (d,η)) (h2:s.o g2=.none) (aK:g2≠g) (hk:(η []).oneCell'=true->WkK ((s.rm g c).setO g2 (.loose d η)) K):WkK s K:=by
 intro B N w0 w a F h;obtain ⟨u,S,F',j1,j2,j3,j4,j5,j6,j7,j8⟩:=h.rm ho;have e:η []=u:=by rw [j3,jax j1]
 exact hk (e▸jpa (jxb j1 j2)) _ _ _ _ _ _ (j5.setO (g:=g2) (ob:=.loose d η) (S:=S) ⟨j1,u,j2,j3⟩ j4 (λg' _ b hb=>j6 g' b hb))
theorem joP {B:Nat} {w:World} {d:D} {η:jg} {u:Value} {S2:List Nat} (hd:d.isSl=true) (hr:Rep w true d u S2) (hh:∀p,η p=hdr w p d u):∀{c:Nat} {l:List Cell} {us:List Value} {S:List Nat},CRel B w l us S->l[c]?=some (.a (.v u))->
 ∃S',CRel B w (l.set c (.own d η)) us S'/\S'.Perm (S++S2)
 |_,[],_,_,_,h=>by simp at h
 |0,.a x::l,_,S,⟨v,us',rfl,h1,h2⟩,h=>by
  simp at h;subst h;have:v=u:=h1;subst this;exact ⟨S2++S,⟨v,us',S2,S,rfl,rfl,hd,hr,hh,h2⟩,aRO⟩
 |0,.own e ε::l,_,_,_,h=>by simp at h
 |c+1,.a x::l,_,S,⟨v,us',rfl,h1,h2⟩,h=>by
  simp at h;obtain ⟨S',a1,a2⟩:=joP hd hr hh h2 h;exact ⟨S',⟨v,us',rfl,h1,a1⟩,a2⟩
 |c+1,.own e ε::l,_,_,⟨v,us',T1,T2,rfl,rfl,h1,h2,h3,h4⟩,h=>by
  simp at h;obtain ⟨S',a1,a2⟩:=joP hd hr hh h4 h;exact ⟨T1++S',⟨v,us',T1,S',rfl,rfl,h1,h2,h3,a1⟩,by rw [aPH];exact aRN _ a2⟩
theorem qx (g c g2:Nat) {b ty:Nat} {cs:List Cell} {d:D} {η:jg} (hb:s.o g=.box b ty cs) (hc:cs[c]?=some (.a (.v (η [])))) (h2:s.o g2=.loose d η) (hk:WkK ((s.setO g2 .none).setO g (.box b ty (cs.set c (.own d η)))) K):WkK s K:=by
 intro B N w0 w a F h;have aK:g2≠g:=λe=>by rw [e,hb] at h2;cases h2
 have h3:=h.ob g2;rw [h2] at h3;obtain ⟨k1,u,k2,k3⟩:=h3;have e:η []=u:=by rw [k3,jax k1]
 rw [e] at hc;have h4:=h.ob g;rw [hb] at h4;obtain ⟨us,S1,q1,q2,q3⟩:=h4;obtain ⟨S',q4,q5⟩:=joP k1 k2 k3 q2 hc;have t1:=h.setO (g:=g2) (ob:=.none) (S:=[]) rfl (Fresh.nil _) (by simp)
 have hp:(b::S').Perm (F g++F g2):=by rw [q3];exact q5.cons b
 have aY:(F g++F g2).Nodup:=aPC.2 ⟨(h.fr g).1,(h.fr g2).1,λx hx y hy e=>h.dj g g2 (λe=>aK e.symm) x hx (e▸hy)⟩
 refine hk _ _ _ _ _ _ (t1.setO (g:=g) (ob:=.box b ty (cs.set c (.own d η))) (S:=b::S') ⟨us,S',q1,q4,rfl⟩ ⟨hp.nodup_iff.2 aY,λx hx=>?_⟩ (λg' dE x hx=>?_))
 ·rcases aOX.1 (hp.mem_iff.1 hx) with hx|hx
  ·exact (h.fr g).2 x hx
  ·exact (h.fr g2).2 x hx
 ·split
  ·simp
  ·rename_i mD
   intro hh;rcases aOX.1 (hp.mem_iff.1 hx) with hx|hx
   ·exact h.dj g' g dE x hh hx
   ·exact h.dj g' g2 mD x hh hx
theorem jfC (g c k g2:Nat) {sz tyo size ty:Nat} {ds0 cs:List D} {η:jg} (ho:(s.o g).own c=some (.sl sz tyo ds0,η)) (hk:ds0[k]?=some (.sl size ty cs)) (h2:s.o g2=.none) (aK:g2≠g)
 (hK:∀aS aH,aH []=η []->aS []=η [k]->(η [k]).oneCell'=true->WkK ((s.setO g ((s.o g).putOwn c (.sl sz tyo (ds0.set k (.val (η [k])))) aH)).setO g2 (.loose (.sl size ty cs) aS)) K):WkK s K:=by
 intro B N w0 w a F h;obtain ⟨v,Sk,a1,a2,_,a4,a5,a6⟩:=joF (h.ob g) ho hk;have hv:=a2 rfl;obtain ⟨aH,S',b1,b2,R,b3,b4⟩:=a6 (.val v) [] ⟨rfl,rfl⟩;rw [aPR] at b4;have aY:=b3.nodup_iff.1 (h.fr g).1;have bC:∀b∈S',b∈F g:=λb hb=>b3.mem_iff.2 (aOX.2 (.inl (b4.mem_iff.1 hb)))
 have t1:=h.setO (g:=g) b1 ⟨b4.nodup_iff.2 (aPC.1 aY).1,λb hb=>(h.fr g).2 b (bC b hb)⟩ (λg' dE b hb hh=>h.dj g' g dE b hh (bC b hb))
 have t2:=t1.setO (g:=g2) (ob:=.loose (.sl size ty cs) (λp=>hdr w p (.sl size ty cs) v)) (S:=Sk) ⟨rfl,v,a1,λ_=>rfl⟩ ⟨(aPC.1 aY).2.1,λb hb=>(h.fr g).2 b (a4 b hb)⟩ (λg' _ b hb=>by
  split
  ·exact λhh=>(aPC.1 aY).2.2 b (b4.mem_iff.1 hh) b hb rfl
  ·rename_i yO
   exact λhh=>h.dj g' g yO b hh (a4 b hb))
 have:=hK (λp=>hdr w p (.sl size ty cs) v) aH b2 (by rw [hv];rfl) (by rw [hv];exact jpa (zr a1))
 rw [hv] at this;exact this _ _ _ _ _ _ t2
theorem qL (g c k g2:Nat) {sz tyo size ty:Nat} {ds0 cs:List D} {e:D} {η aS:jg} (ho:(s.o g).own c=some (.sl sz tyo ds0,η)) (hk:ds0[k]?=some e) (he:e=.val (aS [])\/e=js2 (some (size,ty)) (aS [])) (h2:s.o g2=.loose (.sl size ty cs) aS) (aK:g2≠g)
 (hK:∀aH,aH []=η []->WkK ((s.setO g2 .none).setO g ((s.o g).putOwn c (.sl sz tyo (ds0.set k (.sl size ty cs))) aH)) K):WkK s K:=by
 intro B N w0 w a F h;have h3:=h.ob g2;rw [h2] at h3;obtain ⟨_,u,k2,k3⟩:=h3;have eu:aS []=u:=by rw [k3];rfl
 rw [eu] at he;obtain ⟨v,Sk,a1,a2,a3,a4,a5,a6⟩:=joF (h.ob g) ho hk
 have hX:∃X,Rep w true (.sl size ty cs) v X/\(X=F g2\/X=Sk):=by
  by_cases hn:u=.slice none 0 0/\e=js2 (some (size,ty)) u
  ·obtain ⟨hu,eS⟩:=hn
   subst hu
   have fI:cs=[]:=by
    obtain ⟨vs,T,S',bD,cH,_⟩:=k2;rcases qM bD with ⟨_,rfl⟩|⟨gg,nn,c2,e2,_⟩
    ·exact aPS (RepL.length _ cH).symm
    ·cases e2
   subst fI;subst eS;exact ⟨Sk,a1,.inr rfl⟩
  ·refine ⟨F g2,?_,.inl rfl⟩
   have hvu:v=u:=by
    rcases he with he|he
    ·exact a3 u he
    ·refine a3 _ ?_
     by_cases lW:u=.slice none 0 0
     ·exact absurd ⟨lW,he⟩ hn
     ·rw [he]
      obtain ⟨A,n,cc,rfl⟩:=zr k2;unfold js2;split
      ·rename_i e1;exact absurd e1 lW
      ·rfl
   exact hvu▸k2
 obtain ⟨X,hX1,hX2⟩:=hX;obtain ⟨aH,S',b1,b2,R,b3,b4⟩:=a6 (.sl size ty cs) X hX1;have t1:=h.setO (g:=g2) (ob:=.none) (S:=[]) rfl (Fresh.nil _) (by simp)
 have aY:=b3.nodup_iff.1 (h.fr g).1;have hR:∀b∈R,b∈F g:=λb hb=>b3.mem_iff.2 (aOX.2 (.inl hb))
 have hX3:∀b∈X,b∈F g\/b∈F g2:=λb hb=>by
  rcases hX2 with rfl|rfl
  ·exact .inr hb
  ·exact .inl (a4 b hb)
 have aDB:(R++X).Nodup:=by
  rcases hX2 with rfl|rfl
  ·exact aPC.2 ⟨(aPC.1 aY).1,(h.fr g2).1,λx hx y hy e=>h.dj g g2 (λe=>aK e.symm) x (hR x hx) (e▸hy)⟩
  ·exact aY
 refine hK aH b2 _ _ _ _ _ _ (t1.setO (g:=g) (ob:=(s.o g).putOwn c (.sl sz tyo (ds0.set k (.sl size ty cs))) aH) b1 ⟨b4.nodup_iff.2 aDB,λx hx=>?_⟩ (λg' dE x hx=>?_))
 ·rcases aOX.1 (b4.mem_iff.1 hx) with hx|hx
  ·exact (h.fr g).2 x (hR x hx)
  ·rcases hX3 x hx with hx|hx
   ·exact (h.fr g).2 x hx
   ·exact (h.fr g2).2 x hx
 ·split
  ·simp
  ·rename_i mD
   intro hh;rcases aOX.1 (b4.mem_iff.1 hx) with hx|hx
   ·exact h.dj g' g dE x hh (hR x hx)
   ·rcases hX3 x hx with hx|hx
    ·exact h.dj g' g dE x hh hx
    ·exact h.dj g' g2 mD x hh hx
end
theorem jvv {a b:Int} (ha:0<=a/\a<4294967296) (hb:0<=b/\b<4294967296):0<=jvo a b/\jvo a b<4294967296:=by
 obtain ⟨a,rfl⟩:=Int.eq_ofNat_of_zero_le ha.1;obtain ⟨b,rfl⟩:=Int.eq_ofNat_of_zero_le hb.1;have h1:a^^^b<2^32:=Nat.xor_lt_two_pow (by omega) (by omega)
 have h2:(BitVec.ofInt 64 (a:Int)^^^BitVec.ofInt 64 (b:Int)).toNat=a^^^b:=by
  rw [BitVec.toNat_xor,BitVec.ofInt_natCast,BitVec.ofInt_natCast,BitVec.toNat_ofNat,BitVec.toNat_ofNat,Nat.mod_eq_of_lt (by omega),Nat.mod_eq_of_lt (by omega)]
 rw [jvo,h2,kU (by omega) (by omega)]
 omega
theorem jyS {c:Int} (h:0<=c/\c<4294967296):0<=jmE c/\jmE c<4294967296:=by
 have h2:c.tdiv 2=c/2:=Int.tdiv_eq_ediv_of_nonneg h.1;have h3:IntKind.i64.wrap (c.tdiv 2)=c/2:=by rw [h2];exact kU (by omega) (by omega)
 rw [jmE,h3];split
 ·exact jvv (by omega) (by omega)
 ·omega
theorem jxa {c:Int} (h:0<=c/\c<4294967296):∀n,0<=jp7 n c/\jp7 n c<4294967296
 |0=>h
 |n+1=>jyS (jxa h n)
theorem jDW {c:Int} (h:0<=c/\c<4294967296) (b:UInt8):0<=jAE c b/\jAE c b<4294967296:=by
 have:=b.toNat_lt;refine jxa (jvv h ?_) 8;rw [kU (by omega) (by omega)]
 omega
theorem jDV (b:ByteArray):0<=jDB b/\jDB b<4294967296:=by
 refine jvv ?_ (by omega)
 have:∀(l:List UInt8) (c:Int),0<=c/\c<4294967296->0<=l.foldl jAE c/\l.foldl jAE c<4294967296:=by
  intro l
  induction l with
  |nil=>exact λc h=>h
  |cons x l ih=>exact λc h=>ih _ (jDW h x)
 exact this _ _ (by omega)
def shN (id:Int):Nat:=(jda id).toNat
theorem jBY (id:Int):jda id=(shN id:Int)/\shN id<4:=by
 have h:=jDV (jd8 id)
 have h1:0<=jda id/\jda id<4:=by
  unfold jda;split
  ·omega
  ·rw [aQA h.1];omega
 unfold shN;omega
def zo (aOL id:Int) (ids:List Int) (s:List En×Int):List En×Int:=ids.foldl (λs t=>(jcy s.1 ⟨aOL,s.2,id,t⟩,s.2+1)) s
theorem jgx (aOL id:Int) (ids:List Int) (t:Int) (s:List En×Int):zo aOL id (ids++[t]) s=(jcy (zo aOL id ids s).1 ⟨aOL,(zo aOL id ids s).2,id,t⟩,(zo aOL id ids s).2+1):=by simp [zo]
theorem jgz (aOL id:Int) (s:List En×Int):zo aOL id [] s=s:=rfl
theorem zx (aOL id:Int):∀(ids:List Int) (s:List En×Int),(zo aOL id ids s).2=s.2+ids.length
 |[],s=>by simp [zo]
 |t::ids,s=>by
  have:=zx aOL id ids (jcy s.1 ⟨aOL,s.2,id,t⟩,s.2+1);simp only [zo,aRL,aPI] at this⊢;rw [this];omega
theorem jem (aOL id:Int):∀(ids:List Int) (s:List En×Int),(zo aOL id ids s).1.length=s.1.length+ids.length
 |[],s=>by simp [zo]
 |t::ids,s=>by
  have:=jem aOL id ids (jcy s.1 ⟨aOL,s.2,id,t⟩,s.2+1);simp only [zo,aRL,aPI] at this⊢;rw [this,jsS];omega
def jqW (was ts:List Tk) (k:Nat):Bool:=(stT ts k==2)&&!(decide (k<was.length)&&(stT was k==2))
def zn (was ts:List Tk) (k:Nat):List Int:=((List.range k).filter (jqW was ts)).map λ(j:Nat)=>(j:Int)
theorem jA6 (was ts:List Tk):zn was ts 0=[]:=rfl
theorem jA5 (was ts:List Tk) (k:Nat):zn was ts (k+1)=zn was ts k++(if jqW was ts k then [(k:Int)] else []):=by
 cases h:jqW was ts k<;>simp [zn,List.range_succ,h]
theorem jej (was ts:List Tk) (k:Nat):(zn was ts k).length<=k:=by
 simp only [zn,aQI];exact aQJ (aPT _ _) (by simp)
theorem jzA (ts:List Tk) (k:Nat):zn [] ts k=zk 2 ts k:=by
 have:jqW [] ts=λ(j:Nat)=>stT ts (j:Int)==2:=by funext j;simp [jqW]
 simp [zn,zk,this]
def jrI (y:Yd) (r:Rn) (ids:List Int):Yd:=
 let p:=zo r.aOF.aOL r.id ids ((y.aOE[shN r.id]?).getD default,y.seq)
 ⟨y.now,p.2,y.aOE.set (shN r.id) p.1,y.aOH⟩
abbrev rnH (r:Rn) (x5 x7:Value):List D:=[.val (.int .i64 r.id),.val (.int .i64 r.aOF.aOL),.val (.int .i64 r.aOF.aOQ),.val (.int .i64 r.aOF.aOP),.val (.int .i64 r.aOF.aOD),js2 (some (2,tEd)) x5,.val (.int .i64 r.aOG),js2 (some (4,tTk)) x7]
abbrev jqS (b ty:Nat) (r:Rn) (x5 x7:Value):Ob:=.box b ty [.a (.v (.int .i64 r.id)),.a (.v (.int .i64 r.aOF.aOL)),.a (.v (.int .i64 r.aOF.aOQ)),.a (.v (.int .i64 r.aOF.aOP)),.a (.v (.int .i64 r.aOF.aOD)),.a (.v x5),.a (.v (.int .i64 r.aOG)),.a (.v x7)]
abbrev vC (b ty:Nat) (now seq:Int) (sh:List (List En)) (e1:jg) (d:D) (e2:jg):Ob:=.box b ty [.a (.v (.int .i64 now)),.a (.v (.int .i64 seq)),.own (ke sh) e1,.own d e2]
theorem jk5 (k:Nat×Nat) {x:Value} (h:x.oneCell'=true) (l:List D):jk6 (js2 (some k) x::l)=jk6 l:=by
 unfold js2;split<;>simp [jk6, *]
theorem jse {P:Program} {β:Nat} {fl:Prop} [Decidable fl] {m1 m2 o:Prop} {a:C} {Q:Ex->St->Prop} {f g:jg->St} (st:jg->St) (h1:m1) (h2:m2) (ho:o) (hf:∀η,Wk (f η) (st η)) (hg:∀η,Wk (g η) (st η)) (key:∀η,WkK (st η) (wpC P β a Q)):
 if fl then m1/\m2/\∀η,wpC P β (.gh a) Q (f η) else o/\m1/\m2/\∀η,wpC P β (.gh a) Q (g η):=by
 split
 ·exact ⟨h1,h2,λη=>ky (WkK.wk (hf η) (key η))⟩
 ·exact ⟨ho,h1,h2,λη=>ky (WkK.wk (hg η) (key η))⟩
theorem jbv {sh:List (List En)} {n:Nat} (l:List En):D.put [] n [jf l] (ke sh)=ke (sh.set n l):=by
 simp only [ke,D.put,kz,jmK,List.map_set]
theorem jzB {ts:List Tk} {k:Nat} {x:Tk} (h:ts[k]?=some x):jqW [] ts k=(x.aOG==2):=by
 simp [jqW,kr h]
theorem jk7 {α:Type} {l:List α}:∀{L:List (List α)},l∈L->l.length<=L.flatten.length
 |[],h=>by simp at h
 |x::L,h=>by
  rcases aPL.1 h with rfl|h
  ·simp
  ·have:=jk7 h
   simp only [aSB,aOU];omega
theorem zq {y:Yd} (ht:jB y<=2000000) {l:List En} (h:l∈y.aOE):l.length<=2000000:=aQJ (jk7 h) (vi ht)
theorem jh3 (l:List Rn):(l.flatMap jd).length=l.length*8:=jD (enc:=jd) (λ_=>rfl) l
theorem jsL (l:List Rn) (row:List D) (j:Nat):(l.flatMap jd++row)[l.length*8+j]?=row[j]?:=by
 rw [aQF (by rw [jh3];omega),jh3,aQE]
theorem jnR (l:List Rn) (row:List D) (j:Nat) (d:D):(l.flatMap jd++row).set (l.length*8+j) d=l.flatMap jd++row.set j d:=by
 rw [aSC _ _ (by rw [jh3];omega),jh3,aQE]
theorem jpu (l:List Rn) (r:Rn):D.sl 8 tRn (l.flatMap jd++jd r)=jG (l++[r]):=by simp [jG]
theorem jaU {P:Program} {β:Nat} {a b:C} {Q:Ex->St->Prop} {s:St} {ι:Type} (mk:ι->St) (h1:wpC P β a (Ex.thn (λs'=>∃i,Wk s' (mk i)) Q) s) (h2:∀i,wpC P β b Q (mk i)):wpC P β (.seq a (.gh b)) Q s:=by
 rw [jqY];exact jaa a (jgb (λs' ⟨i,h⟩=>wp_gh (mk i) h (h2 i)) λ_ _ h=>h) h1
theorem jme (y:Yd) (p:Pl) (ht:jB y<=2000000):jZ Tryz.prog 113 [.agg (jb y),.agg (je p)] (.c (.val (.bool (kX y p)))):=jpB ⟨_,Tryz.func113,by kernel_rfl,by kernel_rfl⟩ λw a b ⟨S,ha⟩ ⟨S',hb⟩=>jud y p a b S S' w false false ha hb ht
theorem jby (y:Yd) (p:Pl) (ht:jB y<=2000000):jZ Tryz.prog 46 [.agg (jb y),.agg (je p)] (.c (.val (.bool (kX y p)))):=jpB ⟨_,Tryz.func46,by kernel_rfl,by kernel_rfl⟩ λw a b ⟨S,ha⟩ ⟨S',hb⟩=>juW y p a b S S' w false false ha hb ht
open Classical in
noncomputable def jbu (y:Yd) (id:Int) (p:Pl):Int:=if jt y=false then 8 else if¬(1<=id/\id<=9999) then 5 else if 0<=runAt y id then 6 else if jm p≠0 then jm p else if kX y p=false then 7 else 0
noncomputable def jaS (y:Yd) (id:Int) (p:Pl):Yd:=if jbu y id p=0 then jrI ⟨y.now,y.seq,y.aOE,y.aOH++[jO id p]⟩ (jO id p) (qG 2 (jO id p).aOD) else y
def jhq:C:=iS [iA 3 (.box 27 4 (.t 0)),iA 5 (.box 49 5 (.t 2)),iA 6 wAL,aN 7 0] (iS [aT 11 4 3,iA 12 (iK 67 [11]),iA 8 wAL,wAA 8 12] (.seq (.blk 0 (iS [aT 14 4 3,iA 15 (iK 66 [14]),aU 16 15,aM 13 16] (iD 13 (iS [aT 17 4 8,wAA 6 17,aN 7 8] .ret) (iS [aM 19 1,iA 20 (.call 68 [.t 19,oI 1,oI 9999]),aU 21 20,aM 18 21] (iD 18 (iS [aT 22 4 8,wAA 6 22,aN 7 5] .ret) (iS [aT 24 4 3,aM 25 1,iA 26 (iK 26 [24,25]),aQ 27 .geq 3 26 0,aM 23 27] (iD 23 (iS [aT 28 4 8,wAA 6 28,aN 7 6] .ret) (iS [aT 30 5 5,iA 31 (iK 112 [30]),aQ 32 .neq 3 31 0,aM 29 32] (iD 29 (.seq (.dreg (tA 0 33 (iT 4 8) (tA 1 34 (iT 5 5) (tC 35 (iK 112 [34]) [0] (.alt (wAA 6 33) [] (tA 4 7 (iM 35) .done) .stop) .stop)))) .ret) (iS [aT 37 4 3,aT 38 5 5,iA 39 (iK 113 [37,38]),aU 40 39,aM 36 40] (iD 36 (iS [aT 41 4 8,wAA 6 41,aN 7 7] .ret) .skip))))))))))) (iS [aM 43 1,aT 44 5 5,iA 45 (iK 114 [43,44]),aM 42 45,aE 46 42 0,aE 47 42 1,iA 9 wAM,wAC 9 46,aM 10 47] (iS [aF 48 3 8,aL 49 48,aT 50 8 9,iA 51 (wA3 [(0,8,.t 50)]),iA 52 (wA9 49 51),aF 53 3 8,wAI 53 52] (iS [aT 54 4 8,iA 55 (wAW []),aT 56 8 9,iA 57 (iK 115 [54,55,56]),wAA 6 57,aN 7 0] .ret)))))
theorem jjF:fnC Tryz.prog Tryz.f45=some (jhq,[.cell 6 true 4,.t 7],58):=by kernel_rfl
def jcs:C:=iS [iA 3 (.box 27 4 (.t 0)),iA 4 (.box 52 8 (.t 1)),iA 5 (.box 52 8 (.t 2)),iA 6 wAL] (iS [aF 9 0 5,aL 10 9,iA 11 (iK 170 [10]),aM 7 11] (.seq (iS [aN 8 0] (.blk 0 (.loop (.seq (iS [aM 12 8,aF 13 7 5,aL 14 13,aG 15 14,aP 16 .lss 3 12 15] (iD 16 .skip (.exit 0))) (.seq (.blk 1 (.seq (iS [aF 19 7 5,aL 20 19,aM 21 8,aI 22 4 20 21,aF 23 0 22,aL 24 23,aQ 25 .neq 3 24 2,aM 26 25,iB 27 26 false (iM 8),iB 28 26 false (iF 7 4),iB 29 26 false (iL 28),iB 30 26 false (iG 29),iB 31 26 false (iP .lss 3 27 30),iB 32 26 false (iM 31),iB 33 32 true (iF 7 4),iB 34 32 true (iL 33),iB 35 32 true (iM 8),iB 36 32 true (iI 4 34 35),iB 37 32 true (iF 0 36),iB 38 32 true (iL 37),iB 39 32 true (iQ .eql 3 38 2),iB 40 26 false (iY 32 (.t 39) (oF)),iA 41 (iY 26 (oT) (.t 40))] (iD 41 (.exit 1) .skip)) (.seq (.dreg (tA 0 42 (iF 2 3) (tA 1 43 (iL 42) (tA 2 44 (iM 7) (tA 3 45 (iF 2 3) (tA 4 46 (iL 45) (tA 5 47 (iM 7) (tA 6 48 (iI 1 46 47) (tA 7 49 (iL 48) (tA 8 50 (iF 1 5) (tA 9 51 (iF 0 50) (tA 10 52 (iL 51) (tA 11 53 (iF 1 3) (tA 12 54 (iL 53) (tA 13 55 (iF 0 5) (tA 14 56 (iL 55) (tA 15 57 (iM 8) (tA 16 58 (wAT [(0,1,.t 52),(1,1,.t 54),(2,1,.t 56),(3,1,.t 57)]) (tC 59 (iK 135 [49,58]) [2,1,0] (tA 18 60 (iI 1 43 44) (.alt (wAE 60 59) [] .done .stop)) .stop))))))))))))))))))) (.reg [aF 61 1 3,aL 62 61,aQ 63 .add 3 62 1,aF 64 1 3,wAD 64 63])))) (.reg [aM 17 8,aQ 18 .add 3 17 1,aM 8 18])))))) (iS [aT 65 4 3,wAA 6 65] .ret)))
theorem jcD:fnC Tryz.prog Tryz.f115=some (jcs,[.cell 6 true 4],66):=by kernel_rfl
theorem jgr (y:Yd) (id:Int) (p:Pl) (ht:jB y<=2000000) (hp:p.aOI.length<=4000000):jZ Tryz.prog 45 [.agg (jb y),.c (.val (.int .i64 id)),.agg (je p)] (.tup [(true,jb (jaS y id p)),(false,[.val (.int .i64 (jbu y id p))])]):=by
 refine vx [[1,1,1,1,0],[1,1,1,1,1,0],[1,1,1,1,1,1]] Tryz.func45 jjF (by simp) ?_
 unfold jhq;simp only [C.ghs,C.ghAt,List.foldr];simp only [go_sem,jb,je];intro b3 b5 b6;refine jk (kp y ht) λbI=>?_
 simp only [go_sem,jb];intro b8;refine jk (qb y ht) λη=>?_
 simp only [go_sem];cases aR:jt y
 ·have hc:jbu y id p=8:=by simp [jbu,aR]
  have hy:jaS y id p=y:=by simp [jaS,hc]
  simp only [go_sem,hc,hy]
  apply qa
  simp only [go_sem]
 simp only [go_sem];refine jk (jK id 1 9999) λη=>?_
 simp only [go_sem];cases hid:decide (1<=id/\id<=9999)
 ·have hc:jbu y id p=5:=by simp [jbu,aR,of_decide_eq_false hid]
  have hy:jaS y id p=y:=by simp [jaS,hc]
  simp only [go_sem,hc,hy]
  apply qa
  simp only [go_sem]
 have uO:=aPV hid;simp only [go_sem];refine jk (qf y id) λη=>?_
 simp only [go_sem];by_cases tP:runAt y id>=0
 ·have hc:jbu y id p=6:=by unfold jbu;rw [if_neg (by simp [aR]),if_neg (by omega),if_pos tP]
  have hy:jaS y id p=y:=by simp [jaS,hc]
  simp only [go_sem,tP,hc,hy]
  apply qa
  simp only [go_sem]
 simp only [go_sem,tP];refine jk (vS p) λη=>?_
 simp only [go_sem];cases tE:jm p !=0;rotate_left
 ·have eW:jm p≠0:=by simpa using tE
  have hc:jbu y id p=jm p:=by unfold jbu;rw [if_neg (by simp [aR]),if_neg (by omega),if_neg (by omega),if_pos eW]
  have hy:jaS y id p=y:=by rw [jaS,if_neg (by rw [hc];exact eW)]
  simp only [go_sem];refine jk (vS p) λη=>?_
  simp only [go_sem];rw [hc,hy]
  apply qa
  simp only [go_sem]
 have eW:jm p=0:=by simpa using tE
 simp only [go_sem];refine jk (jme y p ht) λη=>?_
 simp only [go_sem];cases uI:kX y p
 ·have hc:jbu y id p=7:=by unfold jbu;rw [if_neg (by simp [aR]),if_neg (by omega),if_neg (by omega),if_neg (by simp [eW]),if_pos uI]
  have hy:jaS y id p=y:=by simp [jaS,hc]
  simp only [go_sem,hc,hy]
  apply qa
  simp only [go_sem]
 have hc:jbu y id p=0:=by unfold jbu;rw [if_neg (by simp [aR]),if_neg (by omega),if_neg (by omega),if_neg (by simp [eW]),if_neg (by simp [uI])]
 rw [hc,jaS,if_pos hc];simp only [go_sem];refine jk (jnZ id p uO eW) λdO=>?_
 simp only [go_sem,je,jd];intro b9;refine ky ?_;obtain ⟨r,hr⟩:∃r,jO id p=r:=⟨_,rfl⟩;have hri:r.id=id:=by rw [<-hr];rfl
 refine WkK.wk (s':=St.of [(6,Bx 600 b6),(8,Bx 800 b8),(9,Bx 900 b9)] [(600,ZYd b6 _),(800,jX b8 _ y.now y.seq y.aOE (bI 2) y.aOH (bI 3)),(900,ja7 b9 _ r (dO 5) (dO 7))]) (js [600,800,900] (by simp only [go_sem,hr]<;>trivial)) ?_
 refine qD 900 5 901 (d:=jn r.aOF.aOI) (η:=dO 5) (by simp only [go_sem]) (by simp only [go_sem]) (by decide) λuA=>?_
 refine qD 900 7 902 (d:=ju r.aOD) (η:=dO 7) (by simp only [go_sem]) (by simp only [go_sem]) (by decide) λt9=>?_
 refine WkK.of ?_;generalize dO 5=bR at*;generalize dO 7=bK at*;simp only [go_sem,uA,t9];have m1:y.aOH.length+1<=maxLen:=by unfold maxLen;have:=(yard_iff.1 aR).eight;omega
 have m2:(y.aOH.length+1)*96<=140737488355328:=by have:=(yard_iff.1 aR).eight;omega
 intro aBL;refine jse (λfG=>St.of [(6,Bx 600 b6),(8,Bx 800 b8),(9,Bx 900 b9)] [(600,ZYd b6 tYd),(800,vC b8 tYd y.now y.seq y.aOE (bI 2) (.sl 8 tRn (y.aOH.flatMap jd++rnH r (bR []) (bK []))) fG),(900,jqS b9 tRn r (bR []) (bK [])),(901,.loose (jn r.aOF.aOI) bR),(902,.loose (ju r.aOD) bK)]) m1 m2 ?_ (λfG=>js [600,800,900,901,902]) (λfG=>js [600,800,900,901,902]) ?_
 ·simp only [jk5 _ uA,jk5 _ t9,jk6];rfl
 intro fG;rw [hr];generalize rG:D.sl 8 tRn (y.aOH.flatMap jd++rnH r (bR []) (bK []))=dR;refine qx 900 5 901 (d:=jn r.aOF.aOI) (η:=bR) rfl rfl rfl ?_;refine qx 900 7 902 (d:=ju r.aOD) (η:=bK) rfl rfl rfl ?_;refine WkK.wk (s':=St.of [(6,Bx 600 b6),(8,Bx 800 b8),(9,Bx 900 b9)] [(600,ZYd b6 _),(800,vC b8 _ y.now y.seq y.aOE (bI 2) dR fG),(900,ja7 b9 _ r bR bK)]) (js [600,800,900]) ?_;refine WkK.of ?_;simp only [go_sem];refine kW (qm (β:=7000000) Tryz.func115 jcD (by simp) ?_)
 unfold jcs;simp only [go_sem];intro b73 b74 b75 b76;refine jk (jeP r.id) λη=>?_
 simp only [go_sem];obtain ⟨lI,rP⟩:=jBY r.id;rw [lI];have v8:jrI ⟨y.now,y.seq,y.aOE,y.aOH++[r]⟩ r (qG 2 r.aOD)=⟨y.now,(zo r.aOF.aOL r.id (qG 2 r.aOD) ((y.aOE[shN r.id]?).getD default,y.seq)).2,y.aOE.set (shN r.id) (zo r.aOF.aOL r.id (qG 2 r.aOD) ((y.aOE[shN r.id]?).getD default,y.seq)).1,y.aOH++[r]⟩:=rfl;rw [v8];generalize shN r.id=n at*;have h4:=(yard_iff.1 aR).four;have hq:=(yard_iff.1 aR).seq;have hn:n<y.aOE.length:=by omega
 have l9:=qN n;obtain ⟨l,hl⟩:=ja hn;have eR:=zq ht (aOT hl);rw [hl,aPA];obtain ⟨t0,ht0,-,cC,-⟩:=ja8 eW;have wK:r.aOD.length<=12:=by rw [<-hr,jO,jbR];omega
 have aCH:zn [] r.aOD r.aOD.length=qG 2 r.aOD:=jzA _ _;refine qP (λi:Nat×jg=>St.of [(3,Bx 3 b73),(4,Bx 4 b74),(5,Bx 5 b75),(6,Bx 66 b76),(7,Ni n),(8,Ni i.1)] [(600,ZYd b6 _),(3,vC b73 _ y.now (zo r.aOF.aOL r.id (zn [] r.aOD i.1) (l,y.seq)).2 (y.aOE.set n (zo r.aOF.aOL r.id (zn [] r.aOD i.1) (l,y.seq)).1) i.2 dR fG),(4,ZRn b74 _),(5,ja7 b75 _ r bR bK),(66,ZYd b76 _)]) (λi=>i.1<=r.aOD.length) (λi=>r.aOD.length-i.1) (0,bI 2) (js [600,700000300,700000400,700000500,700000600] (by simp only [go_sem,jA6,jgz,jaH hl]<;>trivial)) ?_
 rintro ⟨k,η⟩ hk;dsimp only at hk;have uE:=zx r.aOF.aOL r.id (zn [] r.aOD k) (l,y.seq);have cR:=jem r.aOF.aOL r.id (zn [] r.aOD k) (l,y.seq);have iV:=jej [] r.aOD k;have eJ:=jgx r.aOF.aOL r.id (zn [] r.aOD k) k (l,y.seq);have cE:=jA5 [] r.aOD k;dsimp only at uE cR;by_cases aB:k<r.aOD.length
 ·have aA:(k:Int)<r.aOD.length:=by omega
  have bL:=qN k;have cI:¬(k:Int)<0:=by omega
  obtain ⟨x,hx⟩:=ja aB;have hw:=kw k;rw [jzB hx] at cE;have bX:IntKind.i64.wrap ((zo r.aOF.aOL r.id (zn [] r.aOD k) (l,y.seq)).2+1)=(zo r.aOF.aOL r.id (zn [] r.aOD k) (l,y.seq)).2+1:=zm;generalize wS:zo r.aOF.aOL r.id (zn [] r.aOD k) (l,y.seq)=P at*;obtain ⟨sh,eD⟩:∃s,y.aOE.set n P.1=s:=⟨_,rfl⟩;have l8:sh[n]?=some P.1:=by rw [<-eD];exact aOY hn
  have gE:n<sh.length:=by rw [<-eD,aPF];exact hn
  have iJ:∀L,sh.set n L=y.aOE.set n L:=λL=>by rw [<-eD,aQB]
  have gX:n+1<=(sh.flatMap λes=>[jf es]).length:=by have:=jaK gE;rwa [aPK] at this
  have nG:((sh.flatMap λes=>[jf es]).drop n).take 1=[jf P.1]:=by have:=jbs l8;rwa [aPK] at this
  rw [eD];cases h2:x.aOG !=2
  ·have bP:(x.aOG==2)=true:=by have:x.aOG=2:=by simpa using h2
                               simp [this]
   rw [bP,if_pos rfl] at cE;rw [<-cE] at eJ;simp only [go_sem,aA,bL,cI,aB,vP hx,jf2 hx,h2];simp only [go_sem,gE,aPK,nG,gX];refine jw (jaW P.1 ⟨r.aOF.aOL,P.2,r.id,k⟩ (by omega)) (by simp only [go_sem,jj,qn l8]) λtW=>?_
   simp only [go_sem];simp only [go_sem,gE,aPK,gX,jbv,bX,hw,iJ];refine λaH hη'=>?_
   exact qc (k+1,aH) (js [600,3,4,5,66] (by simp only [go_sem,eJ]<;>trivial))
  ·have bP:(x.aOG==2)=false:=by simpa using h2
   rw [bP] at cE;simp only [aRG,if_false,aPR] at cE;simp only [go_sem,aA,bL,aB,vP hx,jf2 hx,h2,hw];exact qc (k+1,η) (js [600,3,4,5,66] (by simp only [go_sem,cE,wS,eD]<;>trivial))
 obtain rfl:k=r.aOD.length:=by omega
 have aA:¬((r.aOD.length:Nat):Int)<r.aOD.length:=by omega
 rw [aCH];generalize zo r.aOF.aOL r.id (qG 2 r.aOD) (l,y.seq)=P at*;simp only [go_sem,aA];refine ky ?_;subst rG;refine WkK.wk (s':=St.of [(6,Bx 600 b6),(7,Ni 0)] [(600,vC b6 _ y.now P.2 (y.aOE.set n P.1) η (.sl 8 tRn (y.aOH.flatMap jd++rnH r (bR []) (bK []))) fG),(5,ja7 b75 _ r bR bK)]) (js [600,5]) ?_;refine qD 5 5 901 (d:=jn r.aOF.aOI) (η:=bR) rfl rfl (by decide) λ_=>?_
 refine qD 5 7 902 (d:=ju r.aOD) (η:=bK) rfl rfl (by decide) λ_=>?_
 refine qL 600 3 (y.aOH.length*8+5) 901 (η:=fG) (aS:=bR) (cs:=r.aOF.aOI.flatMap kb) rfl (jsL _ _ 5) (.inr rfl) rfl (by decide) λeV _=>?_
 rw [jnR];refine qL 600 3 (y.aOH.length*8+7) 902 (η:=eV) (aS:=bK) (cs:=r.aOD.flatMap jz) rfl (jsL _ _ 7) (.inr rfl) rfl (by decide) λlM _=>?_
 rw [jnR];refine WkK.of ?_;have bD:(List.set (List.set (rnH r (bR []) (bK [])) 5 (.sl 2 tEd (r.aOF.aOI.flatMap kb))) 7 (.sl 4 tTk (r.aOD.flatMap jz)))=jd r:=rfl;rw [bD,jpu]
 apply qa
 simp only [go_sem]
def jhG:C:=iS [iA 3 (.box 27 4 (.t 0)),iA 5 (.box 49 5 (.t 2)),iA 6 wAL,aN 7 0] (iS [aT 11 4 3,iA 12 (iK 61 [11]),iA 8 wAL,wAA 8 12] (.seq (.blk 0 (iS [aT 14 4 3,iA 15 (iK 18 [14]),aU 16 15,aM 13 16] (iD 13 (iS [aT 17 4 8,wAA 6 17,aN 7 8] .ret) (iS [aM 19 1,iA 20 (.call 62 [.t 19,oI 1,oI 9999]),aU 21 20,aM 18 21] (iD 18 (iS [aT 22 4 8,wAA 6 22,aN 7 5] .ret) (iS [aT 24 4 3,aM 25 1,iA 26 (iK 25 [24,25]),aQ 27 .geq 3 26 0,aM 23 27] (iD 23 (iS [aT 28 4 8,wAA 6 28,aN 7 6] .ret) (iS [aT 30 5 5,iA 31 (iK 109 [30]),aQ 32 .neq 3 31 0,aM 29 32] (iD 29 (.seq (.dreg (tA 0 33 (iT 4 8) (tA 1 34 (iT 5 5) (tC 35 (iK 109 [34]) [0] (.alt (wAA 6 33) [] (tA 4 7 (iM 35) .done) .stop) .stop)))) .ret) (iS [aT 37 4 3,aT 38 5 5,iA 39 (iK 46 [37,38]),aU 40 39,aM 36 40] (iD 36 (iS [aT 41 4 8,wAA 6 41,aN 7 7] .ret) .skip))))))))))) (iS [aM 43 1,aT 44 5 5,iA 45 (iK 110 [43,44]),aM 42 45,aE 46 42 0,aE 47 42 1,iA 9 wAM,wAC 9 46,aM 10 47] (iS [aF 48 3 8,aL 49 48,aT 50 8 9,iA 51 (wA3 [(0,8,.t 50)]),iA 52 (wA9 49 51),aF 53 3 8,wAI 53 52] (.seq (.dreg (tA 0 54 (iT 8 9) (tA 1 55 (iT 8 9) (tC 56 (.call 47 [.t 55,oI 2]) [0] (tC 57 (iK 111 [8,54,56]) [] .done .stop) .stop)))) (iS [aT 58 4 8,wAA 6 58,aN 7 0] .ret))))))
theorem jjV:fnC Tryz.prog Tryz.f44=some (jhG,[.cell 6 true 4,.t 7],59):=by kernel_rfl
def jdT:C:=iS [iA 4 (.box 52 8 (.t 1))] (iS [aF 9 0 4,aL 10 9,iA 11 (iK 165 [10]),aM 6 11] (iS [aM 12 2,aG 13 12,aN 14 0] (.blk 0 (.loop (iS [aP 15 .lss 3 14 13] (.seq (iD 15 .skip (.exit 0)) (.seq (.blk 1 (iS [aI 16 1 12 14,aL 17 16,aM 8 17] (.seq (.dreg (tA 0 18 (iM 0) (tA 1 19 (iF 0 18) (tA 2 20 (iF 2 19) (tA 3 21 (iL 20) (tA 4 22 (iM 6) (tA 5 23 (iM 0) (tA 6 24 (iF 0 23) (tA 7 25 (iF 2 24) (tA 8 26 (iL 25) (tA 9 27 (iM 6) (tA 10 28 (iI 1 26 27) (tA 11 29 (iL 28) (tA 12 30 (iF 1 4) (tA 13 31 (iF 0 30) (tA 14 32 (iL 31) (tA 15 33 (iM 0) (tA 16 34 (iF 0 33) (tA 17 35 (iF 1 34) (tA 18 36 (iL 35) (tA 19 37 (iF 0 4) (tA 20 38 (iL 37) (tA 21 39 (iM 8) (tA 22 40 (wAT [(0,1,.t 32),(1,1,.t 36),(2,1,.t 38),(3,1,.t 39)]) (tC 41 (iK 128 [29,40]) [4,3,2,1,0] (tA 24 42 (iI 1 21 22) (.alt (wAE 42 41) [] .done .stop)) .stop))))))))))))))))))))))))) (.reg [aM 43 0,aF 44 0 43,aF 45 1 44,aL 46 45,aQ 47 .add 3 46 1,aF 48 0 43,aF 49 1 48,wAD 49 47])))) (.reg [aQ 50 .add 3 14 1,aM 14 50]))))))))
theorem jdA:fnC Tryz.prog Tryz.f111=some (jdT,[],51):=by kernel_rfl
theorem zu (y:Yd) (id:Int) (p:Pl) (ht:jB y<=2000000) (hp:p.aOI.length<=4000000):jZ Tryz.prog 44 [.agg (jb y),.c (.val (.int .i64 id)),.agg (je p)] (.tup [(true,jb (jaS y id p)),(false,[.val (.int .i64 (jbu y id p))])]):=by
 refine vx [[1,1,1,1,0],[1,1,1,1,1,0],[1,1,1,1,1,1,1]] Tryz.func44 jjV (by simp) ?_
 unfold jhG;simp only [C.ghs,C.ghAt,List.foldr];simp only [go_sem,jb,je];intro b3 b5 b6;refine jk (kj y ht) λbI=>?_
 simp only [go_sem,jb];intro b8;refine jk (kn y ht) λη=>?_
 simp only [go_sem];cases aR:jt y
 ·have hc:jbu y id p=8:=by simp [jbu,aR]
  have hy:jaS y id p=y:=by simp [jaS,hc]
  simp only [go_sem,hc,hy]
  apply qa
  simp only [go_sem]
 simp only [go_sem];refine jk (jx id 1 9999) λη=>?_
 simp only [go_sem];cases hid:decide (1<=id/\id<=9999)
 ·have hc:jbu y id p=5:=by simp [jbu,aR,of_decide_eq_false hid]
  have hy:jaS y id p=y:=by simp [jaS,hc]
  simp only [go_sem,hc,hy]
  apply qa
  simp only [go_sem]
 have uO:=aPV hid;simp only [go_sem];refine jk (kQ y id) λη=>?_
 simp only [go_sem];by_cases tP:runAt y id>=0
 ·have hc:jbu y id p=6:=by unfold jbu;rw [if_neg (by simp [aR]),if_neg (by omega),if_pos tP]
  have hy:jaS y id p=y:=by simp [jaS,hc]
  simp only [go_sem,tP,hc,hy]
  apply qa
  simp only [go_sem]
 simp only [go_sem,tP];refine jk (qw p hp) λη=>?_
 simp only [go_sem];cases tE:jm p !=0;rotate_left
 ·have eW:jm p≠0:=by simpa using tE
  have hc:jbu y id p=jm p:=by unfold jbu;rw [if_neg (by simp [aR]),if_neg (by omega),if_neg (by omega),if_pos eW]
  have hy:jaS y id p=y:=by rw [jaS,if_neg (by rw [hc];exact eW)]
  simp only [go_sem];refine jk (qw p hp) λη=>?_
  simp only [go_sem];rw [hc,hy]
  apply qa
  simp only [go_sem]
 have eW:jm p=0:=by simpa using tE
 simp only [go_sem];refine jk (jby y p ht) λη=>?_
 simp only [go_sem];cases uI:kX y p
 ·have hc:jbu y id p=7:=by unfold jbu;rw [if_neg (by simp [aR]),if_neg (by omega),if_neg (by omega),if_neg (by simp [eW]),if_pos uI]
  have hy:jaS y id p=y:=by simp [jaS,hc]
  simp only [go_sem,hc,hy]
  apply qa
  simp only [go_sem]
 have hc:jbu y id p=0:=by unfold jbu;rw [if_neg (by simp [aR]),if_neg (by omega),if_neg (by omega),if_neg (by simp [eW]),if_neg (by simp [uI])]
 rw [hc,jaS,if_pos hc];simp only [go_sem];refine jk (jn9 id p uO eW) λdO=>?_
 simp only [go_sem,je,jd];intro b9;refine ky ?_;obtain ⟨r,hr⟩:∃r,jO id p=r:=⟨_,rfl⟩;have hri:r.id=id:=by rw [<-hr];rfl
 refine WkK.wk (s':=St.of [(6,Bx 600 b6),(8,Bx 800 b8),(9,Bx 900 b9)] [(600,ZYd b6 _),(800,jX b8 _ y.now y.seq y.aOE (bI 2) y.aOH (bI 3)),(900,ja7 b9 _ r (dO 5) (dO 7))]) (js [600,800,900] (by simp only [go_sem,hr]<;>trivial)) ?_
 refine qD 900 5 901 (d:=jn r.aOF.aOI) (η:=dO 5) (by simp only [go_sem]) (by simp only [go_sem]) (by decide) λuA=>?_
 refine qD 900 7 902 (d:=ju r.aOD) (η:=dO 7) (by simp only [go_sem]) (by simp only [go_sem]) (by decide) λt9=>?_
 refine WkK.of ?_;generalize dO 5=bR at*;generalize dO 7=bK at*;simp only [go_sem,uA,t9];have m1:y.aOH.length+1<=maxLen:=by unfold maxLen;have:=(yard_iff.1 aR).eight;omega
 have m2:(y.aOH.length+1)*96<=140737488355328:=by have:=(yard_iff.1 aR).eight;omega
 intro aBL;refine jse (λfG=>St.of [(6,Bx 600 b6),(8,Bx 800 b8),(9,Bx 900 b9)] [(600,ZYd b6 tYd),(800,vC b8 tYd y.now y.seq y.aOE (bI 2) (.sl 8 tRn (y.aOH.flatMap jd++rnH r (bR []) (bK []))) fG),(900,jqS b9 tRn r (bR []) (bK [])),(901,.loose (jn r.aOF.aOI) bR),(902,.loose (ju r.aOD) bK)]) m1 m2 ?_ (λfG=>js [600,800,900,901,902]) (λfG=>js [600,800,900,901,902]) ?_
 ·simp only [jk5 _ uA,jk5 _ t9,jk6];rfl
 intro fG;rw [hr];generalize rG:D.sl 8 tRn (y.aOH.flatMap jd++rnH r (bR []) (bK []))=dR;refine qx 900 5 901 (d:=jn r.aOF.aOI) (η:=bR) rfl rfl rfl ?_;refine qx 900 7 902 (d:=ju r.aOD) (η:=bK) rfl rfl rfl ?_;refine WkK.wk (s':=St.of [(6,Bx 600 b6),(8,Bx 800 b8),(9,Bx 900 b9)] [(600,ZYd b6 _),(800,vC b8 _ y.now y.seq y.aOE (bI 2) dR fG),(900,ja7 b9 _ r bR bK)]) (js [600,800,900]) ?_;refine WkK.of ?_;obtain ⟨t0,ht0,-,cC,-⟩:=ja8 eW;have wK:r.aOD.length<=12:=by rw [<-hr,jO,jbR];omega
 simp only [go_sem];refine jk (qg r 2 (by omega)) λsK=>?_
 simp only [go_sem];refine kW (qm (β:=7000000) Tryz.func111 jdA (by simp) ?_)
 unfold jdT;simp only [go_sem];intro b74;refine jk (jeS r.id) λη=>?_
 simp only [go_sem];obtain ⟨lI,rP⟩:=jBY r.id;rw [lI];have v8:jrI ⟨y.now,y.seq,y.aOE,y.aOH++[r]⟩ r (qG 2 r.aOD)=⟨y.now,(zo r.aOF.aOL r.id (qG 2 r.aOD) ((y.aOE[shN r.id]?).getD default,y.seq)).2,y.aOE.set (shN r.id) (zo r.aOF.aOL r.id (qG 2 r.aOD) ((y.aOE[shN r.id]?).getD default,y.seq)).1,y.aOH++[r]⟩:=rfl;rw [v8];generalize shN r.id=n at*;have h4:=(yard_iff.1 aR).four;have hq:=(yard_iff.1 aR).seq;have hn:n<y.aOE.length:=by omega
 have l9:=qN n;obtain ⟨l,hl⟩:=ja hn;have eR:=zq ht (aOT hl);rw [hl,aPA];have hil:(qG 2 r.aOD).length<=12:=aQJ (va _ _ _) wK;generalize qG 2 r.aOD=ids at*;refine qP (λi:Nat×jg=>St.of [(0,Bx 800 b8),(4,Bx 4 b74),(6,Ni n),(12,Hd 56 (sK 0)),(13,Ni ids.length),(14,Ni i.1)] [(600,ZYd b6 _),(800,vC b8 _ y.now (zo r.aOF.aOL r.id (ids.take i.1) (l,y.seq)).2 (y.aOE.set n (zo r.aOF.aOL r.id (ids.take i.1) (l,y.seq)).1) i.2 dR fG),(4,ja7 b74 _ r bR bK),(56,.loose (jc ids) (sK 0))]) (λi=>i.1<=ids.length) (λi=>ids.length-i.1) (0,bI 2) (js [600,800,700000400,5600] (by simp only [go_sem,aQH,jgz,jaH hl]<;>trivial)) ?_
 rintro ⟨k,η⟩ hk;dsimp only at hk;have uE:=zx r.aOF.aOL r.id (ids.take k) (l,y.seq);have cR:=jem r.aOF.aOL r.id (ids.take k) (l,y.seq);have iV:(ids.take k).length=k:=by rw [aOZ];omega
 dsimp only at uE cR;by_cases aB:k<ids.length
 ·have aA:(k:Int)<ids.length:=by omega
  have bL:=qN k;obtain ⟨x,hx⟩:=ja aB;have eJ:=jgx r.aOF.aOL r.id (ids.take k) x (l,y.seq);have cE:ids.take (k+1)=ids.take k++[x]:=by rw [aPE,hx];rfl
  rw [<-cE] at eJ;have hw:=kw k;have bX:IntKind.i64.wrap ((zo r.aOF.aOL r.id (ids.take k) (l,y.seq)).2+1)=(zo r.aOF.aOL r.id (ids.take k) (l,y.seq)).2+1:=zm;generalize wS:zo r.aOF.aOL r.id (ids.take k) (l,y.seq)=P at*;obtain ⟨sh,eD⟩:∃s,y.aOE.set n P.1=s:=⟨_,rfl⟩;have l8:sh[n]?=some P.1:=by rw [<-eD];exact aOY hn
  have gE:n<sh.length:=by rw [<-eD,aPF];exact hn
  have iJ:∀L,sh.set n L=y.aOE.set n L:=λL=>by rw [<-eD,aQB]
  have gX:n+1<=(sh.flatMap λes=>[jf es]).length:=by have:=jaK gE;rwa [aPK] at this
  have nG:((sh.flatMap λes=>[jf es]).drop n).take 1=[jf P.1]:=by have:=jbs l8;rwa [aPK] at this
  have lH:k+1<=(ids.flatMap λn=>[iv n]).length:=by have:=jp aB;rwa [aPK] at this
  have n7:((ids.flatMap λn=>[iv n]).drop k).take 1=[iv x]:=by have:=jq hx;rwa [aPK] at this
  rw [eD];simp only [go_sem,aA,bL,aB,n7,lH,aPO,gE,aPK,nG,gX,l9];refine jw (jaY P.1 ⟨r.aOF.aOL,P.2,r.id,x⟩ (by omega)) (by simp only [go_sem,jj,qn l8]) λtW=>?_
  simp only [go_sem];simp only [go_sem,gE,aPK,gX,jbv,bX,hw,iJ];refine λaH hη'=>?_
  exact qc (k+1,aH) (js [600,800,4,56] (by simp only [go_sem,eJ]<;>trivial))
 obtain rfl:k=ids.length:=by omega
 have aA:¬((ids.length:Nat):Int)<ids.length:=by omega
 rw [aRC];generalize zo r.aOF.aOL r.id ids (l,y.seq)=P at*;simp only [go_sem,aA];refine ky ?_;subst rG;refine WkK.wk (s':=St.of [(6,Bx 600 b6),(7,Ni 0)] [(600,vC b6 _ y.now P.2 (y.aOE.set n P.1) η (.sl 8 tRn (y.aOH.flatMap jd++rnH r (bR []) (bK []))) fG),(5,ja7 b74 _ r bR bK)]) (js [600,4]) ?_;refine qD 5 5 901 (d:=jn r.aOF.aOI) (η:=bR) rfl rfl (by decide) λ_=>?_
 refine qD 5 7 902 (d:=ju r.aOD) (η:=bK) rfl rfl (by decide) λ_=>?_
 refine qL 600 3 (y.aOH.length*8+5) 901 (η:=fG) (aS:=bR) (cs:=r.aOF.aOI.flatMap kb) rfl (jsL _ _ 5) (.inr rfl) rfl (by decide) λeV _=>?_
 rw [jnR];refine qL 600 3 (y.aOH.length*8+7) 902 (η:=eV) (aS:=bK) (cs:=r.aOD.flatMap jz) rfl (jsL _ _ 7) (.inr rfl) rfl (by decide) λlM _=>?_
 rw [jnR];refine WkK.of ?_;have bD:(List.set (List.set (rnH r (bR []) (bK [])) 5 (.sl 2 tEd (r.aOF.aOI.flatMap kb))) 7 (.sl 4 tTk (r.aOD.flatMap jz)))=jd r:=rfl;rw [bD,jpu]
 apply qa
 simp only [go_sem]
theorem qZ {α:Type} {f:α->Nat} (v:α):∀{l:List α} {k:Nat} {x:α},l[k]?=some x->vh f (l.set k v)+f x=vh f l+f v
 |[],_,_,h=>by simp at h
 |y::l,0,x,h=>by
  simp at h;subst h;simp only [vh,List.set_cons_zero,aQX,aRV];omega
 |y::l,k+1,x,h=>by
  have:=qZ (f:=f) v (l:=l) (k:=k) (by simpa using h)
  simp only [vh,List.set_cons_succ,aQX,aRV] at this⊢;omega
theorem jBH {y:Yd} {r:Rn} {ids:List Int}:jB (jrI y r ids)<=jB y+ids.length:=by
 have h4:∀l:List En,zb l=l.length:=λ_=>rfl
 cases h:y.aOE[shN r.id]? with
 |none=>
  have:y.aOE.set (shN r.id) (zo r.aOF.aOL r.id ids ((y.aOE[shN r.id]?).getD default,y.seq)).1=y.aOE:=List.set_eq_of_length_le (aRJ.1 h);simp only [jB,jbG,jrI,this];omega
 |some l=>
  have h1:=jem r.aOF.aOL r.id ids ((y.aOE[shN r.id]?).getD default,y.seq);have h2:=qZ (f:=zb) (zo r.aOF.aOL r.id ids ((y.aOE[shN r.id]?).getD default,y.seq)).1 h;simp only [jB,jbG,jrI,aPF] at*;rw [h4,h4] at h2;rw [h,aPA] at*;omega
def C.sub:List Nat->C->C
 |[],c=>c
 |0::p,.seq a _=>a.sub p
 |_::p,.seq _ b=>b.sub p
 |0::p,.cond _ a _=>a.sub p
 |_::p,.cond _ _ b=>b.sub p
 |_::p,.blk _ a=>a.sub p
 |_::p,.loop a=>a.sub p
 |_,c=>c
section
variable {s:St}
def resT (s:St) (rs:List R) (K:List (Bool×List A0)->Prop):AV->Prop
 |.agg l=>jjs s rs λps=>K ((true,l)::ps)
 |.c a=>jjs s rs λps=>K ((false,[a])::ps)
 |_=>False
def resC (s:St) (agg:Bool) (size:Nat) (rs:List R) (K:List (Bool×List A0)->Prop):AV->Prop
 |.c (.bp g c b)=>ldB (s.o g) g c b size λl=>(agg=true\/l.length=1)/\jjs s rs λps=>K ((agg,l)::ps)
 |_=>False
theorem vl (rs:List R) (rt:RT):jvs rs rt s=jjs s rs λps=>ja6 rt ps/\qC s (ps.flatMap (·.2)) λcs _=>IsD cs rt.flat:=rfl
theorem jS (K:List (Bool×List A0)->Prop):jjs s [] K=K []:=rfl
theorem jgm (n:Nat) (rs:List R) (K:List (Bool×List A0)->Prop):jjs s (.t n::rs) K=resT s rs K (s.t n):=by
 simp only [jjs,resT];split<;>simp_all
theorem jgl (rs:List R) (K:List (Bool×List A0)->Prop) (a:A0):resT s rs K (.c a)=jjs s rs λps=>K ((false,[a])::ps):=rfl
theorem jA (agg:Bool) (size:Nat) (rs:List R) (K:List (Bool×List A0)->Prop) (g c b:Nat):resC s agg size rs K (.c (.bp g c b))=ldB (s.o g) g c b size λl=>(agg=true\/l.length=1)/\jjs s rs λps=>K ((agg,l)::ps):=rfl
theorem ji (n:Nat) (agg:Bool) (size:Nat) (rs:List R) (K:List (Bool×List A0)->Prop) (h:resC s agg size rs K (s.t n)):jjs s (.cell n agg size::rs) K:=by
 unfold resC at h;split at h
 ·rename_i g c b he
  simp only [ldB] at h;split at h
  ·rename_i b' ty cs ho
   obtain ⟨e1,e2,e3,e4⟩:=h;subst e1;simp only [jjs,he];exact ⟨_,⟨ty,cs,ho,e2,rfl⟩,e3,e4⟩
  ·exact h.elim
 ·exact h.elim
theorem jI (l:List (Bool×List D)) (ps:List (Bool×List A0)):ja6 (.tup l) ps=(ps.length≠1/\ps.map (λp=>(p.1,p.2.length))=l.map (λp=>(p.1,p.2.length))):=rfl
end
def vf (l:List En):List En:=l.take ((l.length+1)/2)
def ja2 (l:List En):List En:=l.drop ((l.length+1)/2)
def jhu:C:=iS [iA 2 (.mov (.c (.slice none 0 0))),iA 3 (.mov (.c (.slice none 0 0)))] (iS [aM 5 0,aG 6 5,aQ 7 .add 3 6 1,aQ 8 .quo 3 7 2,aM 4 8] (.seq (.dreg (tA 1 10 (iM 0) (tA 2 11 (iM 4) (tA 3 12 (.sl 4 (.t 10) none (some (.t 11))) (tA 6 15 (iM 0) (tA 7 16 (iM 4) (tA 8 17 (.sl 4 (.t 15) (some (.t 16)) none) (tC 9 (wAZ []) [8,7,6,3,2,1] (tC 13 (wA8 9 12) [8,7,6] (tC 14 (wAZ []) [8,7,6,3,2,1] (tC 18 (wA8 14 17) [] (tA 10 2 (iM 13) (tA 11 3 (iM 18) .done)) .stop) .stop) (tC 14 (wAZ []) [8,7,6,3,2,1] (tC 13 (wA8 9 12) [8,7,6] (tC 18 (wA8 14 17) [] (tA 10 2 (iM 13) (tA 11 3 (iM 18) .done)) .stop) .stop) .stop)) (tC 14 (wAZ []) [8,7,6,3,2,1] (tC 9 (wAZ []) [8,7,6,3,2,1] (tC 13 (wA8 9 12) [8,7,6] (tC 18 (wA8 14 17) [] (tA 10 2 (iM 13) (tA 11 3 (iM 18) .done)) .stop) .stop) .stop) .stop))))))))) .ret))
theorem jjJ:fnC Tryz.prog Tryz.f70=some (jhu,[.t 2,.t 3],19):=by kernel_rfl
def jhK:C:=iS [iA 2 (.mov (.c (.slice none 0 0))),iA 3 (.mov (.c (.slice none 0 0)))] (iS [aM 5 0,aG 6 5,aQ 7 .add 3 6 1,aQ 8 .quo 3 7 2,aM 4 8] (.seq (.dreg (tA 0 9 (iM 0) (tA 1 10 (iM 4) (tA 2 11 (.sl 4 (.t 9) none (some (.t 10))) (tA 4 13 (iM 0) (tA 5 14 (iM 4) (tA 6 15 (.sl 4 (.t 13) (some (.t 14)) none) (tC 12 (iK 126 [11]) [6,5,4] (tC 16 (iK 126 [15]) [] (tA 8 2 (iM 12) (tA 9 3 (iM 16) .done)) .stop) .stop)))))))) .ret))
theorem jjZ:fnC Tryz.prog Tryz.f63=some (jhK,[.t 2,.t 3],17):=by kernel_rfl
theorem jn2 (l:List En) (hl:l.length<=4000000):jZ Tryz.prog 70 [.c (jf l)] (.tup [(false,[jf (vf l)]),(false,[jf (ja2 l)])]):=by
 refine pf_ jjJ ?_;unfold jhu;have hw:IntKind.i64.wrap ((l.length:Int)+1)=(l.length:Int)+1:=zm
 have hq:IntKind.i64.wrap (((l.length:Int)+1).tdiv 2)=(((l.length+1)/2:Nat):Int):=by
  rw [Int.tdiv_eq_ediv_of_nonneg (by omega)];exact kU (by omega) (by omega)|>.trans (by omega)
 have hn:(l.length+1)/2<=l.length\/l.length=0:=by omega
 have rW:(l.length+1)/2<=l.length:=by omega
 unfold vf ja2;generalize (l.length+1)/2=n at*;have l9:=qN n;have m1:(l.take n).length<=maxLen:=by unfold maxLen;rw [aOZ];omega
 have m2:(l.take n).length*32<=140737488355328:=by rw [aOZ];omega
 have m3:(l.drop n).length<=maxLen:=by unfold maxLen;rw [aPN];omega
 have m4:(l.drop n).length*32<=140737488355328:=by rw [aPN];omega
 have rN:(l.drop n).take (l.length-n)=l.drop n:=aOW (by rw [aPN];omega)
 simp only [go_sem,hw,hq,rW,l9,aPD,rN,m1,m2,m3,m4,kE];simp only [go_sem,vl,jgm,jgl,jS,jI]
theorem joc (l:List En) (hl:l.length<=4000000):jZ Tryz.prog 63 [.c (jf l)] (.tup [(false,[jf (vf l)]),(false,[jf (ja2 l)])]):=by
 refine pf_ jjZ ?_;unfold jhK;have hw:IntKind.i64.wrap ((l.length:Int)+1)=(l.length:Int)+1:=zm
 have hq:IntKind.i64.wrap (((l.length:Int)+1).tdiv 2)=(((l.length+1)/2:Nat):Int):=by
  rw [Int.tdiv_eq_ediv_of_nonneg (by omega)];exact kU (by omega) (by omega)|>.trans (by omega)
 have rW:(l.length+1)/2<=l.length:=by omega
 unfold vf ja2;generalize (l.length+1)/2=n at*;have l9:=qN n;have rN:(l.drop n).take (l.length-n)=l.drop n:=aOW (by rw [aPN];omega)
 simp only [go_sem,hw,hq,rW,l9,aPD,rN];refine jk (ki (l.take n) (by rw [aOZ];omega)) λbM=>?_
 simp only [go_sem];refine jk (ki (l.drop n) (by rw [aPN];omega)) λcO=>?_
 simp only [go_sem];simp only [go_sem,vl,jgm,jgl,jS,jI]
def kS (a b:List En):List En:=if a.length+b.length>80 then a else b.foldl jcy a
theorem jkd:∀(b a:List En),(b.foldl jcy a).length=a.length+b.length
 |[],a=>by simp
 |e::b,a=>by rw [aRL,jkd b,jsS,aPI];omega
theorem juJ (a b:List En):(kS a b).length<=a.length+b.length:=by
 unfold kS;split
 ·omega
 ·rw [jkd];exact aPD _
theorem jpA {b:List En} {k:Nat} {e:En} (h:b[k]?=some e) (a:List En):(b.take (k+1)).foldl jcy a=jcy ((b.take k).foldl jcy a) e:=by
 rw [aPE,h];simp
def jhs:C:=iS [iA 4 (.mov (.c (.slice none 0 0)))] (iS [iA 7 (wAZ []),aM 8 0,iA 9 (wA8 7 8),aM 5 9] (.seq (iS [aM 10 0,aG 11 10,aM 12 1,aG 13 12,aP 14 .add 3 11 13,aQ 15 .gtr 3 14 80] (iD 15 (iS [aM 16 5,aM 4 16] .ret) .skip)) (.seq (iS [aN 6 0] (.blk 0 (.loop (.seq (iS [aM 17 6,aM 18 1,aG 19 18,aP 20 .lss 3 17 19] (iD 20 .skip (.exit 0))) (.seq (.blk 1 (.reg [aM 23 5,aM 24 1,aM 25 6,aI 26 4 24 25,aT 27 4 26,iA 28 (iK 135 [23,27]),aM 5 28])) (.reg [aM 21 6,aQ 22 .add 3 21 1,aM 6 22])))))) (iS [aM 29 5,aM 4 29] .ret))))
theorem jjH:fnC Tryz.prog Tryz.f71=some (jhs,[.t 4],30):=by kernel_rfl
def jhI:C:=iS [iA 4 (.mov (.c (.slice none 0 0)))] (iS [aM 8 0,iA 9 (iK 126 [8]),aM 5 9] (.seq (iS [aM 10 0,aG 11 10,aM 12 1,aG 13 12,aP 14 .add 3 11 13,aQ 15 .gtr 3 14 80] (iD 15 (iS [aM 16 5,aM 4 16] .ret) .skip)) (.seq (iS [aM 17 1,aG 18 17,aN 19 0] (.blk 0 (.loop (iS [aP 20 .lss 3 19 18] (.seq (iD 20 .skip (.exit 0)) (.seq (.blk 1 (iS [aI 21 4 17 19,aT 22 4 21,iA 7 wAP,wAB 7 22] (.reg [aM 23 5,aT 24 4 7,iA 25 (iK 128 [23,24]),aM 5 25]))) (.reg [aQ 26 .add 3 19 1,aM 19 26]))))))) (iS [aM 27 5,aM 4 27] .ret))))
theorem jjX:fnC Tryz.prog Tryz.f64=some (jhI,[.t 4],28):=by kernel_rfl
theorem jn0 (a b:List En) (hl:a.length+b.length<=4000000):jZ Tryz.prog 71 [.c (jf a),.c (jf b)] (.c (jf (kS a b))):=by
 refine pf_ jjH ?_;unfold jhs;have m1:a.length<=maxLen:=vT;have m2:a.length*32<=140737488355328:=by omega
 have hw:IntKind.i64.wrap ((a.length:Int)+b.length)=((a.length+b.length:Nat):Int):=by rw [kU (by omega) (by omega)];omega
 simp only [go_sem,m1,m2,kE];intro eP dF;by_cases lD:a.length+b.length>80
 ·have mO:((a.length+b.length:Nat):Int)>80:=by omega
  have e:kS a b=a:=if_pos lD;simp only [go_sem,hw,mO,e]
 have mO:¬((a.length+b.length:Nat):Int)>80:=by omega
 have e:kS a b=b.foldl jcy a:=if_neg lD;simp only [go_sem,hw,mO];refine qP (λi:Nat×jg=>St.of [(1,Ro (jf b)),(5,Hd 5 i.2),(6,Ni i.1)] [(5,.loose (jf ((b.take i.1).foldl jcy a)) i.2)]) (λi=>i.1<=b.length) (λi=>b.length-i.1) (0,dF) (js [900] (by simp only [go_sem,aQH,List.foldl_nil]<;>trivial)) ?_
 rintro ⟨k,η⟩ hk;dsimp only at hk;by_cases aB:k<b.length
 ·have aA:(k:Int)<b.length:=by omega
  have bL:=qN k;obtain ⟨x,hx⟩:=ja aB;have gP:=kw k;have cE:=jpA hx a;have yB:=jkd (b.take k) a;rw [aOZ] at yB;generalize (b.take k).foldl jcy a=L at*;simp only [go_sem,aA,aB,bL,jU hx,jj];refine jk (jaW L x (by omega)) λtW=>?_
  simp only [go_sem];simp only [go_sem,gP];exact qc (k+1,tW 0) (js [2800] (by simp only [go_sem,cE]<;>trivial))
 have aA:¬(k:Int)<b.length:=by omega
 rw [aOW (by omega),e]
 simp only [go_sem,aA]
theorem joa (a b:List En) (hl:a.length+b.length<=4000000):jZ Tryz.prog 64 [.c (jf a),.c (jf b)] (.c (jf (kS a b))):=by
 refine pf_ jjX ?_;unfold jhI;have hw:IntKind.i64.wrap ((a.length:Int)+b.length)=((a.length+b.length:Nat):Int):=by rw [kU (by omega) (by omega)];omega
 simp only [go_sem];refine jk (ki a (by omega)) λbM=>?_
 simp only [go_sem];by_cases lD:a.length+b.length>80
 ·have mO:((a.length+b.length:Nat):Int)>80:=by omega
  have e:kS a b=a:=if_pos lD;simp only [go_sem,hw,mO,e]
 have mO:¬((a.length+b.length:Nat):Int)>80:=by omega
 have e:kS a b=b.foldl jcy a:=if_neg lD;simp only [go_sem,hw,mO];refine qP (λi:Nat×jg=>St.of [(5,Hd 5 i.2),(17,Ro (jf b)),(18,Ni b.length),(19,Ni i.1)] [(5,.loose (jf ((b.take i.1).foldl jcy a)) i.2)]) (λi=>i.1<=b.length) (λi=>b.length-i.1) (0,bM 0) (js [900] (by simp only [go_sem,aQH,List.foldl_nil]<;>trivial)) ?_
 rintro ⟨k,η⟩ hk;dsimp only at hk;by_cases aB:k<b.length
 ·have aA:(k:Int)<b.length:=by omega
  have bL:=qN k;obtain ⟨x,hx⟩:=ja aB;have gP:=kw k;have cE:=jpA hx a;have yB:=jkd (b.take k) a;rw [aOZ] at yB;generalize (b.take k).foldl jcy a=L at*;simp only [go_sem,aA,aB,bL,jU hx,jj];intro b7;refine jk (jaY L x (by omega)) λtW=>?_
  simp only [go_sem];simp only [go_sem,gP];exact qc (k+1,tW 0) (js [2500] (by simp only [go_sem,cE]<;>trivial))
 have aA:¬(k:Int)<b.length:=by omega
 rw [aOW (by omega),e]
 simp only [go_sem,aA]
def jyv (l:List En):En:=l.headD ⟨0,0,0,0⟩
def jl3 (l:List En):Bool:=!l.isEmpty
def jcK:C:=iS [iA 2 wAP,iA 3 (.mov (.c (.slice none 0 0))),aO 4 false] (.seq (iS [aM 5 0,aG 6 5,aQ 7 .eql 3 6 0] (iD 7 (iS [iA 8 (wAT []),iA 9 (wAZ []),wAB 2 8,aM 3 9,aO 4 false] .ret) .skip)) (.seq (.dreg (tA 0 10 (iM 0) (tA 1 11 (.ia 4 (.t 10) (oI 0)) (tA 2 12 (iT 4 11) (tA 4 14 (iM 0) (tA 5 15 (.sl 4 (.t 14) (some (oI 1)) none) (tC 13 (wAZ []) [5,4,2,1,0] (tC 16 (wA8 13 15) [2,1,0] (.alt (wAB 2 12) [] (tA 8 3 (iM 16) (tA 9 4 (iO true) .done)) .stop) .stop) .stop))))))) .ret))
theorem jfR:fnC Tryz.prog Tryz.f72=some (jcK,[.cell 2 true 4,.t 3,.t 4],17):=by kernel_rfl
def jcR:C:=iS [iA 2 wAP,iA 3 (.mov (.c (.slice none 0 0))),aO 4 false] (.seq (iS [aM 5 0,aG 6 5,aQ 7 .eql 3 6 0] (iD 7 (iS [iA 8 (wAT []),wAB 2 8,iA 3 (.mov (.c (.slice none 0 0))),aO 4 false] .ret) .skip)) (.seq (.dreg (tA 0 9 (iM 0) (tA 1 10 (.ia 4 (.t 9) (oI 0)) (tA 2 11 (iT 4 10) (tA 3 12 (iM 0) (tA 4 13 (.sl 4 (.t 12) (some (oI 1)) none) (tC 14 (iK 126 [13]) [2,1,0] (.alt (wAB 2 11) [] (tA 7 3 (iM 14) (tA 8 4 (iO true) .done)) .stop) .stop))))))) .ret))
theorem jfY:fnC Tryz.prog Tryz.f65=some (jcR,[.cell 2 true 4,.t 3,.t 4],15):=by kernel_rfl
theorem jcA (l:List En) (hl:l.length<=4000000):jZ Tryz.prog 72 [.c (jf l)] (.tup [(true,jj (jyv l)),(false,[jf l.tail]),(false,[.val (.bool (jl3 l))])]):=by
 refine pf_ jfR ?_;unfold jcK;cases l with
 |nil=>
  simp only [go_sem,jj,jyv,jl3,List.headD_nil,List.isEmpty_nil,List.tail_nil];intro b2 eP;simp only [vl]
  apply ji
  simp only [go_sem,jA,jgm,jgl,jS,jI,true_or,jif]
 |cons x l=>
  have cR:l.length<=4000000:=by rw [aPI] at hl;omega
  have h0:(x::l)[0]?=some x:=rfl;have h1:(((l.length+1:Nat):Int)==0)=false:=by simp only [beq_eq_false_iff_ne,ne_eq];omega
  have h2:1<=l.length+1:=by omega
  have h3:0<l.length+1:=by omega
  have m1:l.length<=maxLen:=vT;have m2:l.length*32<=140737488355328:=by omega
  have hd:List.take l.length l=l:=aRC;simp only [go_sem,jj,jyv,jl3,List.headD_cons,List.isEmpty_cons,List.tail_cons,h1];intro b2;simp only [go_sem,h3,jU h0,jj,hd,aPD,m1,m2,kE,Nat.add_sub_cancel];intro η dF;simp only [vl]
  apply ji
  simp only [go_sem,jA,jgm,jgl,jS,jI,true_or]
def jvS (ts:List Tk) (t:Nat) (x:Tk) (til:Int):List Tk:=ts.set t ⟨3,x.aOO,IntKind.i64.wrap (x.tri+1),til⟩
def kD (r:Rn) (t:Nat) (x:Tk) (now:Int):Rn:=⟨r.id,r.aOF,r.aOG,jvS r.aOD t x (IntKind.i64.wrap (now+r.aOF.aOP))⟩
def jb4:C:=iS [iA 3 (.box 52 8 (.t 0)),iA 6 wAM] (iS [aT 9 8 3,iA 10 (iK 133 [9]),iA 7 wAM,wAC 7 10] (iS [aF 11 7 7,aL 12 11,aM 13 1,aI 14 4 12 13,aT 15 4 14,iA 8 wAN,wAB 8 15] (iS [aF 16 0 8,iC (.st 1 [none] (.t 16) (oI 3))] (iS [aF 17 2 8,aL 18 17,aQ 19 .add 3 18 1,aF 20 2 8,wAD 20 19] (iS [aM 21 2,aF 22 1 3,aF 23 2 22,aL 24 23,aP 25 .add 3 21 24,aF 26 3 8,wAD 26 25] (iS [aF 27 7 7,aL 28 27,aM 29 1,aT 30 4 8,aI 31 4 28 29,wAB 31 30] (iS [aT 32 8 7,wAC 6 32] .ret)))))))
theorem jeA:fnC Tryz.prog Tryz.f73=some (jb4,[.cell 6 true 8],33):=by kernel_rfl
theorem jid (r:Rn) (t:Nat) (x:Tk) (now:Int) (hx:r.aOD[t]?=some x) (cW:r.aOF.aOI.length<=4000000) (ht:r.aOD.length<=4000000):jZ Tryz.prog 73 [.agg (jd r),.c (.val (.int .i64 t)),.c (.val (.int .i64 now))] (.agg (jd (kD r t x now))):=by
 refine pf_ jeA ?_;unfold jb4;have dD:=(aOS.1 hx).1;have eT:=qN t;simp only [go_sem,jd,je];intro b3 b6;refine jk (vL r cW ht) λbI=>?_
 simp only [go_sem,jd,je];intro b7;simp only [go_sem,aPO,dD,eT,jvi hx,jjv hx,jz,kD,jvS,jcg 3 x.aOO (IntKind.i64.wrap (x.tri+1)) (IntKind.i64.wrap (now+r.aOF.aOP)) dD]
