/- Parts. -/
import Derived.Test.YtcehjhiglmifjaaGreatQHole
set_option linter.all false
set_option maxHeartbeats 8000000
set_option maxRecDepth 100000
namespace Go.Proofs.YtcehjhiglmifjaaGreat
open Go.RowKit Go.Sort
structure jzg (p:En->Bool) (l L:List En) (i j:Nat):Prop where
 len:L.length=l.length
 ij:i<j
 jl:j<=l.length
 pre:L.take i=(l.take j).filter λe=>!p e
 suf:∀q,j<=q->L[q]?=l[q]?
section
variable {p:En->Bool} {l L:List En} {i j:Nat} {e:En}
theorem jCZ (h:l[i]?=some e) (he:p e=true) (hn:∀y∈l.take i,p y=false):jzg p l l i (i+1):=by
 refine ⟨rfl,by omega,(aMI.1 h).1,?_,λ_ _=>rfl⟩
 rw [aMT,h,aOV];simp only [Option.toList_some,aOX,he,Bool.not_true,aOZ,if_false,List.filter_nil,aNI];exact (List.filter_eq_self.2 λy hy=>by rw [hn y hy];rfl).symm
theorem jy1 (hd:jzg p l L i j) (h:l[j]?=some e) (he:p e=true):jzg p l L i (j+1):=by
 refine ⟨hd.len,by have:=hd.ij;omega,(aMI.1 h).1,?_,λq hq=>hd.suf q (by omega)⟩
 rw [hd.pre,aMT,h,aOV];simp [he]
theorem jv3 (hd:jzg p l L i j) (h:l[j]?=some e) (he:p e=false):jzg p l (L.set i e) (i+1) (j+1):=by
 have hj:=(aMI.1 h).1;have h1:=hd.ij;have h2:=hd.len;refine ⟨by rw [aMU];exact h2,by omega,hj,?_,λq hq=>?_⟩
 ·rw [aMT,aML (by omega),List.take_set_of_le (aMV _),hd.pre,aMT,h,aOV]
  simp [he]
 ·rw [aNJ (by omega)];exact hd.suf q (by omega)
theorem jv4 (hd:jzg p l L i l.length):L.take i=l.filter λe=>!p e:=by rw [hd.pre,aOI]
end
def kP:C:=iS [aN 4 0] (.seq (iS [aM 6 0,aG 7 6,aN 8 0] (.blk 0 (.loop (iS [aP 9 .lss 3 8 7] (.seq (iD 9 .skip (.exit 0)) (.seq (.blk 1 (iS [aM 10 8,aM 5 10] (iS [aM 11 1,aM 12 0,aM 13 5,aI 14 4 12 13,aT 15 4 14,iA 16 (.callv (.t 11) [.t 15])] (iD 16 (iS [aM 17 5,aM 4 17] .ret) .skip)))) (.reg [aQ 18 .add 3 8 1,aM 8 18]))))))) (iS [aN 4 (-1)] .ret))
theorem qP:fnC Tryz.prog Tryz.f141=some (kP,[.t 4],19):=by kernel_rfl
theorem jb4 (l:List En) (f:Nat) (cd:List D) (p:En->Bool) (hf:∀x,kg Tryz.prog f [.agg (jh x),.ptr cd] (.c (.val (.bool (p x))))) (hl:l.length<=4000000):kg Tryz.prog 141 [.c (ji l),.fn f [cd]] (.c (.val (.int .i64 (jdY p l)))):=by
 refine pf_ qP ?_;unfold kP;simp only [go_sem];refine vo (λi:Nat=>St.of [(0,Ro (ji l)),(1,.fn f [.rp cd]),(7,Ni l.length),(8,Ni i)] []) (λi=>i<=l.length/\∀y∈l.take i,p y=false) (λi=>l.length-i) 0 (zo [] (by simp only [go_sem]<;>trivial)) ?_
 rintro k ⟨hk,cM⟩;by_cases aB:k<l.length
 ·have aA:(k:Int)<l.length:=by omega
  have bD:=qT k;obtain ⟨x,hx⟩:=jd aB;have hw:=kX k;simp only [go_sem,aB,aA,bD,jH hx,jh];refine jjI (by simp only [go_sem];rfl) (hf x) (by simp only [go_sem,jh]) λη=>?_
  cases hp:p x
  ·simp only [go_sem,hp,hw]
   exact ⟨k+1,⟨aB,jmq hx hp cM⟩,(zo [] (by simp only [go_sem]<;>trivial)),by (try dsimp only);omega⟩
  ·simp only [go_sem,hp,jbN hx hp cM]
 ·have aA:¬(k:Int)<l.length:=by omega
  rw [aMO (by omega)] at cM
  simp only [go_sem,aA,jaC cM]
def vE (y:Yd) (k:Int):Yd:=if 0<=k/\k<=(y.aLU.length:Int)-1 then ⟨y.now,y.seq,y.aLU.set k.toNat (((y.aLU[k.toNat]?).getD []).filter (jP y)),y.aLX⟩ else y
theorem jqT {y:Yd} {k:Int} (h:¬(0<=k/\k<=(y.aLU.length:Int)-1)):vE y k=y:=by rw [vE,if_neg h]
theorem jfC {y:Yd} {k:Nat} {l:List En} (h:y.aLU[k]?=some l):vE y k=⟨y.now,y.seq,y.aLU.set k (l.filter (jP y)),y.aLX⟩:=by
 have:=(aMI.1 h).1;rw [vE,if_pos (by omega)]
 simp [h]
theorem jsH {l:List (List En)} {k:Nat} (v:List En) (hk:k<l.length):D.put [] k [ji v] (ku l)=ku (l.set k v):=by
 have:=jn8 v hk
 rwa [aMZ] at this
theorem jvQ (l:List En) (a:En):D.sl 4 tEn (l.flatMap jh++[.val (.int .i64 a.aMC),.val (.int .i64 a.seq),.val (.int .i64 a.run),.val (.int .i64 a.aMA)])=ji (l++[a]):=by simp [ji,jh]
theorem jlz (sh:List (List En)):(sh.flatMap λes=>[ji es])=sh.map ji:=by induction sh<;>simp_all
theorem jj7 {sh:List (List En)} {k:Nat} {l:List En} (h:sh[k]?=some l):(sh.flatMap λes=>[ji es])[k]?=some (.sl 4 tEn (l.flatMap jh)):=by
 rw [jlz,aPG,h];rfl
theorem jpT {sh:List (List En)} {k i:Nat} {l l2:List En} {ds:List D} (h:sh[k]?=some l) (hp:D.put [] i ds (ji l)=ji l2):D.put [k] i ds (ku sh)=ku (sh.set k l2):=by
 have hd:(sh.flatMap λes=>[ji es])[k]?=some (ji l):=jj7 h
 simp only [ku,D.put,hd,hp];simp only [jlz,List.map_set]
theorem jrb {sh:List (List En)} {k i:Nat} {l:List En} (e:En) (h:sh[k]?=some l) (hi:i<l.length):D.put [k] (i*4) [.val (.int .i64 e.aMC),.val (.int .i64 e.seq),.val (.int .i64 e.run),.val (.int .i64 e.aMA)] (ku sh)=ku (sh.set k (l.set i e)):=jpT h (jsJ e hi)
def jd7:En:=⟨0,0,0,0⟩
theorem jyK (n:Nat):(List.replicate n [D.val (.int .i64 0),D.val (.int .i64 0),D.val (.int .i64 0),D.val (.int .i64 0)]).flatten=(List.replicate n jd7).flatMap jh:=by
 rw [List.flatMap_replicate];rfl
theorem jy5 {l:List En} {i n:Nat} (h:i+n=l.length):D.put [] (i*4) ((List.replicate n jd7).flatMap jh) (ji l)=ji (l.take i++List.replicate n jd7):=by
 have h4:∀x:En,(jh x).length=4:=λ_=>rfl
 have e1:l.flatMap jh=(l.take i).flatMap jh++(l.drop i).flatMap jh:=by rw [<-aOE,aNW]
 have l1:((l.take i).flatMap jh).length=i*4:=by rw [jG h4,aMP,aNZ (by omega)]
 have l2:((l.drop i).flatMap jh).length=n*4:=by rw [jG h4,aND];congr 1;omega
 have l3:((List.replicate n jd7).flatMap jh).length=n*4:=by rw [jG h4,aPN]
 simp only [ji,D.put];rw [qd _ _ _ (by rw [e1,aMR];omega),e1,List.take_left' l1,l3,List.drop_eq_nil_of_le (by rw [aMR];omega),aNI,aOE]
theorem jxU:∀{l m:List D},(∀x∈m,x∈l)->jZ l=true->jZ m=true:=by
 intro l m h hl
 have key:∀{l:List D},jZ l=true↔∀x∈l,∃u,x=.val u/\u.oneCell'=true:=by
  intro l
  induction l with
  |nil=>simp [jZ]
  |cons a l ih=>
   cases a with
   |val u=>
    simp only [jZ,aMY,ih,aNB];constructor
    ·rintro ⟨h1,h2⟩ x (rfl|hx)
     ·exact ⟨u,rfl,h1⟩
     ·exact h2 x hx
    ·intro h
     refine ⟨?_,λx hx=>h x (.inr hx)⟩
     obtain ⟨v,h1,h2⟩:=h _ (.inl rfl);cases h1;exact h2
   |sl a b c=>
    simp only [jZ,aOZ,false_iff];intro h;obtain ⟨v,h1,_⟩:=h _ (List.mem_cons_self);cases h1
 exact key.2 λx hx=>key.1 hl x (h x hx)
theorem joW (l:List En) (a b:Nat):jZ (((l.flatMap jh).drop a).take b)=true:=jxU (λx hx=>aPK (aPQ hx)) (jbi l)
def jfY (sh:List (List En)) (n:Nat) (v:Value):D:=.sl 1 jsi ((sh.flatMap λes=>[ji es]).set n (.val v))
theorem jf4 (sh:List (List En)) (n:Nat) (v:Value):D.sl 1 jsi ((sh.flatMap λes=>[ji es]).set n (.val v))=jfY sh n v:=rfl
theorem jmy (sh:List (List En)) (n:Nat) (v:Value):(jfY sh n v).isSl=true:=rfl
theorem jms (sh:List (List En)) (n:Nat) (v:Value):(jfY sh n v).size=1:=rfl
theorem jji (sh:List (List En)) (n:Nat) (v:Value):(jfY sh n v).len=sh.length:=by simp [jfY,D.len,D.cells,D.size,jlz]
theorem jdU (sh:List (List En)) (n:Nat) (v:Value):(jfY sh n v).cells.length=sh.length:=by simp [jfY,D.cells,jlz]
theorem jjf {sh:List (List En)} {n:Nat} (v:Value) (l:List En) (h:n<sh.length):D.put [] n [ji l] (jfY sh n v)=ku (sh.set n l):=by
 simp only [jfY,D.put,kI,ku,jlz,aNP,List.map_set]
theorem jl2 (o:Nat->Ob) (g c g2:Nat) (d:D) (aH:jm) (d2:D) (aV:jm) (j:Nat):jAu o g c g2 d aH d2 aV j=if j=g2 then .loose d2 aV else if j=g then (o g).putOwn c d aH else o j:=rfl
theorem jaw {α:Type} {l:List α} {k:Nat} {x:α} (h:l[k]?=some x):l.set k x=l:=by
 apply aOR
 intro j;by_cases e:k=j
 ·subst e;rw [aML (aMI.1 h).1,h]
 ·rw [aNJ e]
def jig:C:=iS [iA 2 (.box 27 4 (.t 0)),iA 4 wAK] (iS [aT 8 4 2,iA 9 (iK 67 [8]),iA 5 wAK,wAA 5 9] (.seq (iS [aM 10 1,aF 11 2 2,aL 12 11,aG 13 12,aQ 14 .sub 3 13 1,iA 15 (.call 68 [.t 10,oI 0,.t 14]),aU 16 15] (iD 16 (iS [aT 17 4 5,wAA 4 17] .ret) .skip)) (iS [iA 18 (wAX []),aM 6 18] (.seq (iS [aN 7 0] (.blk 0 (.loop (.seq (iS [aM 19 7,aF 20 2 2,aL 21 20,aM 22 1,aI 23 1 21 22,aL 24 23,aG 25 24,aP 26 .lss 3 19 25] (iD 26 .skip (.exit 0))) (.seq (.blk 1 (.seq (.dreg (tA 0 29 (iT 4 2) (tA 1 30 (iF 2 2) (tA 2 31 (iL 30) (tA 3 32 (iM 1) (tA 4 33 (iI 1 31 32) (tA 5 34 (iL 33) (tA 6 35 (iM 7) (tA 7 36 (iI 4 34 35) (tA 8 37 (iT 4 36) (tC 38 (iK 75 [29,37]) [] .done .stop))))))))))) (iD 38 (.reg [aM 39 6,aF 40 2 2,aL 41 40,aM 42 1,aI 43 1 41 42,aL 44 43,aM 45 7,aI 46 4 44 45,aT 47 4 46,iA 48 (wAY [(0,4,.t 47)]),iA 49 (wA2 39 48),aM 6 49]) .skip))) (.reg [aM 27 7,aQ 28 .add 3 27 1,aM 7 28])))))) (iS [aF 50 2 5,aL 51 50,aM 52 1,aM 53 6,aI 54 1 51 52,wAF 54 53] (iS [aT 55 4 5,wAA 4 55] .ret))))))
theorem jkn:fnC Tryz.prog Tryz.f23=some (jig,[.cell 4 true 4],56):=by kernel_rfl
def jeO:C:=iS [iA 2 (.box 44 4 (.t 0)),aO 3 false] (iS [aT 4 4 1,aT 5 4 2,iA 6 (iK 84 [4,5]),aU 7 6,aM 3 7] .ret)
theorem jhR:fnC Tryz.prog Tryz.f86=some (jeO,[.t 3],8):=by kernel_rfl
def jim:C:=iS [iA 2 (.box 27 4 (.t 0)),iA 4 wAK] (iS [aT 6 4 2,iA 7 (iK 61 [6]),iA 5 wAK,wAA 5 7] (.seq (iS [aM 8 1,aF 9 2 2,aL 10 9,aG 11 10,aQ 12 .sub 3 11 1,iA 13 (.call 62 [.t 8,oI 0,.t 12]),aU 14 13] (iD 14 (iS [aT 15 4 5,wAA 4 15] .ret) .skip)) (.seq (.dreg (tA 0 16 (iF 2 5) (tA 1 17 (iL 16) (tA 2 18 (iM 1) (tA 3 19 (iF 2 5) (tA 4 20 (iL 19) (tA 5 21 (iM 1) (tA 6 22 (iI 1 20 21) (tA 7 23 (iL 22) (tA 8 24 (.mkf 86 [.t 2]) (tC 25 (iK 85 [23,24]) [2,1,0] (tA 10 26 (iI 1 17 18) (.alt (wAF 26 25) [] .done .stop)) .stop))))))))))) (iS [aT 27 4 5,wAA 4 27] .ret))))
theorem jku:fnC Tryz.prog Tryz.f24=some (jim,[.cell 4 true 4],28):=by kernel_rfl
def kf:C:=iS [iA 4 (.mov (.c (.slice none 0 0)))] (iS [aM 8 0,aM 9 1,iA 10 (iK 141 [8,9]),aM 5 10] (.seq (iS [aM 11 5,aQ 12 .eql 3 11 (-1)] (iD 12 (iS [aM 13 0,aM 4 13] .ret) .skip)) (.seq (iS [aM 14 5,aQ 15 .add 3 14 1,aM 6 15] (.blk 0 (.loop (.seq (iS [aM 16 6,aM 17 0,aG 18 17,aP 19 .lss 3 16 18] (iD 19 .skip (.exit 0))) (.seq (.blk 1 (iS [aM 22 0,aM 23 6,aI 24 4 22 23,aT 25 4 24,iA 7 wAP,wAB 7 25] (iS [aM 26 1,aT 27 4 7,iA 28 (.callv (.t 26) [.t 27]),aU 29 28] (iD 29 (iS [aM 30 0,aM 31 5,aT 32 4 7,aI 33 4 30 31,wAB 33 32] (.reg [aM 34 5,aQ 35 .add 3 34 1,aM 5 35])) .skip)))) (.reg [aM 20 6,aQ 21 .add 3 20 1,aM 6 21])))))) (iS [aM 36 0,aM 37 5,iA 38 (.sl 4 (.t 36) (some (.t 37)) none),iC (.clr 4 [D.val (.int .i64 0),D.val (.int .i64 0),D.val (.int .i64 0),D.val (.int .i64 0)] (.t 38))] (iS [aM 39 0,aM 40 5,iA 41 (.sl 4 (.t 39) none (some (.t 40))),aM 4 41] .ret)))))
theorem kG:fnC Tryz.prog Tryz.f85=some (kf,[.t 4],42):=by kernel_rfl
theorem jh7 (y:Yd) (k:Int) (ht:jt y<=2000000):kg Tryz.prog 23 [.agg (jb y),.c (.val (.int .i64 k))] (.agg (jb (vE y k))):=by
 refine pf_ jkn ?_;unfold jig;have fP:y.aLU.length<=2000000:=by simp only [jt,jby] at ht;omega
 have mY:IntKind.i64.wrap ((y.aLU.length:Int)-1)=(y.aLU.length:Int)-1:=zy;simp only [go_sem,jb];intro b2 b4;refine jx (kp y ht) λbC=>?_
 simp only [go_sem,jb];intro b5;simp only [go_sem,jb,mY];refine jn (jJ k 0 (y.aLU.length-1)) (by simp only [go_sem,jb,mY]) λη=>?_
 simp only [go_sem,jb,mY];cases h:decide (0<=k/\k<=(y.aLU.length:Int)-1)
 ·simp only [go_sem,jb,h,jqT (of_decide_eq_false h)]
 have h':=aNS h;obtain ⟨n,rfl⟩:=Int.eq_ofNat_of_zero_le h'.1;have hn:n<y.aLU.length:=by omega
 have fM:=qT n;obtain ⟨l,hl⟩:=jd hn;have eV:=jbC ht (aMJ hl);rw [jfC hl];simp only [go_sem,jb,h,jdJ];intro aAG;refine vo (λi:Nat×jm=>St.of [(1,Ni n),(2,Bx 200 b2),(4,Bx 400 b4),(5,Bx 500 b5),(6,Hd 6 i.2),(7,Ni i.1)] [(200,Bi b2 _ (jb y)),(400,ZYd b4 _),(500,ka b5 _ y.now y.seq y.aLU (bC 2) y.aLX (bC 3)),(6,.loose (ji ((l.take i.1).filter (jP y))) i.2)]) (λi=>i.1<=l.length) (λi=>l.length-i.1) (0,aAG) (jy [200,400,500,1800] (by simp only [go_sem,jb,aNM,List.filter_nil]<;>trivial)) ?_
 rintro ⟨j,yO⟩ hj;dsimp only at hj;by_cases aB:j<l.length
 ·have aA:(j:Int)<l.length:=by omega
  have dU:=qT j;obtain ⟨e,he⟩:=jd aB;have hw:=kX j;have fC:=jqt (f:=jP y) he;have fW:((l.take j).filter (jP y)).length<=4000000:=aNX (aNH _ _) (by rw [aMP];omega)
  generalize (l.take j).filter (jP y)=M at*;have m1:M.length+1<=maxLen:=by unfold maxLen;omega
  have m2:(M.length+1)*32<=140737488355328:=by omega
  simp only [go_sem,jb,hn,fM,kY hl,aB,aA,dU,jH he,jh];refine jx (joh y e) λη=>?_
  simp only [go_sem,jb,jh];cases hf:jP y e
  ·rw [hf] at fC
   simp only [aOZ,if_false] at fC;simp only [go_sem,jb,hf,hw];exact ql (j+1,yO) (jy [200,400,500,6] (by simp only [go_sem,jb,fC]<;>trivial))
  ·rw [hf] at fC
   simp only [if_true] at fC;simp only [go_sem,jb,hn,fM,kY hl,aB,aA,dU,jH he,jh,hf,m1,m2,jvQ,hw];intro aGH aAB;exact ql (j+1,aAB) (jy [200,400,500,4900] (by simp only [go_sem,jb,fC]<;>trivial))
 have aA:¬(j:Int)<l.length:=by omega
 rw [aMO (by omega)]
 generalize l.filter (jP y)=M at*;simp only [go_sem,jb,hn,fM,kY hl,aA,jbf hn,jn8 M hn,jsH M hn];exact λ_ _=>trivial
theorem jrl (y:Yd) (e:En):kg Tryz.prog 86 [.agg (jh e),.ptr (jb y)] (.c (.val (.bool (!jP y e)))):=by
 refine pf_ jhR ?_;unfold jeO;simp only [go_sem,jb,jh];intro b2;refine jx (jop y e) λη=>?_
 simp only [go_sem,jb,jh]
theorem jh9 (y:Yd) (k:Int) (ht:jt y<=2000000):kg Tryz.prog 24 [.agg (jb y),.c (.val (.int .i64 k))] (.agg (jb (vE y k))):=by
 refine pf_ jku ?_;unfold jim;have fP:y.aLU.length<=2000000:=by simp only [jt,jby] at ht;omega
 have mY:IntKind.i64.wrap ((y.aLU.length:Int)-1)=(y.aLU.length:Int)-1:=zy;simp only [go_sem,jb];intro b2 b4;refine jx (ke y ht) λbC=>?_
 simp only [go_sem,jb];intro b5;simp only [go_sem,jb,mY];refine jn (jE k 0 (y.aLU.length-1)) (by simp only [go_sem,jb,mY]) λη=>?_
 simp only [go_sem,jb,mY];cases h:decide (0<=k/\k<=(y.aLU.length:Int)-1)
 ·simp only [go_sem,jb,h,jqT (of_decide_eq_false h)]
 have h':=aNS h;obtain ⟨n,rfl⟩:=Int.eq_ofNat_of_zero_le h'.1;have hn:n<y.aLU.length:=by omega
 have fM:=qT n;obtain ⟨l,hl⟩:=jd hn;have eV:=jbC ht (aMJ hl);rw [jfC hl];have gJ:n+1<=(y.aLU.flatMap λes=>[ji es]).length:=by have:=jbf hn;rwa [aMZ] at this
 have gE:((y.aLU.flatMap λes=>[ji es]).drop n).take 1=[ji l]:=by have:=jcd hl;rwa [aMZ] at this
 simp only [go_sem,jb,h,hn,fM,kY hl,gE,gJ,aMZ];refine qe (jvB ?_);refine qv (β:=7000000) Tryz.func85 kG (by simp) ?_
 unfold kf;simp only [go_sem,jb];refine jn (jb4 l _ (jb y) (λe=>!jP y e) (λx=>jrl y x) eV) (by simp only [go_sem,jb,kn hl]) λη=>?_
 simp only [go_sem,jb]
 have hcut:∀(L:List En) (m:Nat),m<=L.length->(L.flatMap jh).take (m*4)=(L.take m).flatMap jh:=λL m hm=>by
  have e1:L.flatMap jh=(L.take m).flatMap jh++(L.drop m).flatMap jh:=by rw [<-aOE,aNW]
  rw [e1,List.take_left' (by rw [jG jrN,aMP,aNZ hm])]
 rcases zO (λe=>!jP y e) l with ⟨h1,h2⟩|⟨i0,x0,h1,h2,h3,h4⟩
 ·have fW:l.filter (jP y)=l:=List.filter_eq_self.2 λe he=>by have:=h2 e he;simpa using this
  simp only [go_sem,jb,h1,aOY];refine ⟨500,2,n,777,l.length,4,tEn,jsi,l.flatMap jh,_,bC 2,.inr ⟨rfl,(jG jrN l).symm⟩,by simp only [go_sem];rfl,jj7 hl,by simp only [go_sem],by decide,by decide,by rw [jG jrN];exact aMV _,λaV aH hη=>?_⟩
  rw [hcut l l.length (aMV _),aOI,fW];simp only [go_sem,jl2,jf4,hη,jmy,jms,jji,hn,fM,aMZ,jdU,gJ,jjf _ l hn,ko];exact ⟨hn,λ_ _=>trivial⟩
 ·have sI:=(aMI.1 h2).1
  have aR:((i0:Int)==-1)=false:=by simp
  have hw0:=kX i0;have oD:=jaw hl;simp only [go_sem,jb,h1,aR,hw0];refine kN (λi:Nat×Nat×List En=>St.of [(0,.c (.h 500 2 [n] (bC 2 [n]))),(1,.fn 86 [.bp 200 0 b2]),(5,Ni i.1),(6,Ni i.2.1)] [(200,Bi b2 _ (jb y)),(400,ZYd b4 _),(500,ka b5 _ y.now y.seq (y.aLU.set n i.2.2) (bC 2) y.aLX (bC 3))]) (λi=>jzg (λe=>!jP y e) l i.2.2 i.1 i.2.1) (λi=>l.length-i.2.1) (i0,i0+1,l) (jCZ h2 h3 h4) (jy [200,400,500] (by simp only [go_sem,jb,oD]<;>trivial)) ?_
  rintro ⟨i,j,L⟩ hd;dsimp only at hd;have hL:(y.aLU.set n L)[n]?=some L:=aML hn;have sO:=hd.len;have hij:=hd.ij;have bJ:=hd.jl;have eK:=qT i;by_cases aB:j<l.length
  ·have aA:(j:Int)<l.length:=by omega
   have dU:=qT j;obtain ⟨e,he⟩:=jd aB;have xT:L[j]?=some e:=by rw [hd.suf j (aMV _)];exact he
   have xN:i<L.length:=by omega
   have hjL:j<L.length:=by omega
   obtain ⟨xi,iJ⟩:=jd xN;have hw:=kX j;have iR:=kX i;simp only [go_sem,jb,kn hL,sO,aB,aA,dU,jtH xT,jtj xT,jh];intro b7;refine jjI (by simp only [go_sem];rfl) (jrl y e) (by simp only [go_sem,jb,jh]) λη=>?_
   cases hf:jP y e
   ·simp only [go_sem,jb,jh,hf,hw]
    exact ⟨(i,j+1,L),jy1 hd he (by simp [hf]),(jy [200,400,500] (by simp only [go_sem,jb]<;>trivial)),by (try dsimp only);omega⟩
   ·simp only [go_sem,jb,jh,hf,hw,iR,kn hL,sO,eK,jtH iJ,jtj iJ,jrb e hL xN,aNP,(show i<l.length by omega)]
    exact ⟨(i+1,j+1,L.set i e),jv3 hd he (by simp [hf]),(jy [200,400,500] (by simp only [go_sem,jb]<;>trivial)),by (try dsimp only);omega⟩
  ·have aA:¬(j:Int)<l.length:=by omega
   obtain rfl:j=l.length:=by omega
   have uZ:=jv4 hd;have xS:l.filter (λe=>!!jP y e)=l.filter (jP y):=by simp
   rw [xS] at uZ;have dC:i<=l.length:=by omega
   have l4:0<l.length-i:=by omega
   have eF:i+(l.length-i)=l.length:=by omega
   have oA:i+(l.length-i)=L.length:=by omega
   have m9:jZ ((List.replicate (l.length-i) jd7).flatMap jh)=true:=jbi _;obtain ⟨L2,uI⟩:∃L2,L2=L.take i++List.replicate (l.length-i) jd7:=⟨_,rfl⟩;have uH:L2.length=l.length:=by rw [uI];simp;omega
   have uG:L2.take i=l.filter (jP y):=by rw [uI,List.take_left' (by rw [aMP];omega),uZ]
   have tK:D.put [n] (i*4) ((List.replicate (l.length-i) jd7).flatMap jh) (ku (y.aLU.set n L))=ku (y.aLU.set n L2):=by rw [jpT hL (jy5 oA),aNP,uI]
   have mR:(y.aLU.set n L2)[n]?=some L2:=aML hn;have gH:n<(y.aLU.set n L2).length:=by rw [aMU];exact hn
   simp only [go_sem,jb,kn hL,sO,aA,eK,dC,aMV,l4,eF,jyK,joW,m9,tK,kn mR,uH];refine ⟨500,2,n,777,i,4,tEn,jsi,L2.flatMap jh,_,bC 2,.inl rfl,by simp only [go_sem];rfl,jj7 mR,by simp only [go_sem],by decide,by decide,by rw [jG jrN];omega,λaV aH hη=>?_⟩
   rw [hcut L2 i (by omega),uG]
   simp only [go_sem,jl2,jf4,hη,jmy,jms,jji,gH,fM,aMZ,jdU,jjf _ (l.filter (jP y)) gH,ko,aNP,aMU,hn];exact ⟨hn,λ_ _=>trivial⟩
def jkO (l:List En) (e:En):Nat:=if jdY (λx=>!kr x e) l<0 then l.length else (jdY (λx=>!kr x e) l).toNat
def jch (l:List En) (e:En):List En:=jlY l (jkO l e) e
theorem jzX {l:List En} {e x:En} {k:Nat} (h:l[k]?=some x) (hx:kr x e=false) (hn:∀y∈l.take k,(λx=>!kr x e) y=false):jkO l e=k:=by
 have h1:=jbN (f:=λx=>!kr x e) h (by simp [hx]) hn
 rw [jkO,h1,if_neg (by omega)];exact aMQ k
theorem jrg {l:List En} {e:En} (hn:∀y∈l,(λx=>!kr x e) y=false):jkO l e=l.length:=by
 rw [jkO,jaC hn];rfl
theorem juW (l:List En) (e:En):jkO l e<=l.length:=by
 rcases zO (λx=>!kr x e) l with ⟨_,h2⟩|⟨k,x,h1,h2,h3,h4⟩
 ·rw [jrg h2];exact aMV _
 ·rw [jkO,h1,if_neg (by omega),aMQ];exact Nat.le_of_lt (aMI.1 h2).1
theorem jrf (l:List En) (e:En):(jch l e).length=l.length+1:=by
 have:=juW l e;simp [jch,jlY];omega
theorem jlb (e:En):D.sl 4 tEn [.val (.int .i64 e.aMC),.val (.int .i64 e.seq),.val (.int .i64 e.run),.val (.int .i64 e.aMA)]=ji [e]:=rfl
theorem jvR (l:List En) (e:En):l.flatMap jh++[.val (.int .i64 e.aMC),.val (.int .i64 e.seq),.val (.int .i64 e.run),.val (.int .i64 e.aMA)]=(l++[e]).flatMap jh:=by simp [jh]
theorem jy0 (l m:List En):l.flatMap jh++m.flatMap jh=(l++m).flatMap jh:=aOE.symm
def jdi:C:=iS [iA 3 (.box 44 4 (.t 1)),iA 4 (.mov (.c (.slice none 0 0)))] (iS [aN 5 0] (.seq (.blk 0 (.loop (.seq (.seq (.dreg (tA 0 7 (iM 5) (tA 1 8 (iM 0) (tA 2 9 (iG 8) (tA 3 10 (iP .lss 3 7 9) (tA 4 11 (iM 10) (tB 5 12 11 true (iM 0) (tB 6 13 11 true (iM 5) (tB 7 14 11 true (iI 4 12 13) (tB 8 15 11 true (iT 4 14) (tB 9 16 11 true (iT 4 3) (.alt (iB 17 11 true (iK 180 [15,16])) [] (tA 11 18 (iY 11 (.t 17) (oF)) .done) .stop)))))))))))) (iD 18 .skip (.exit 0))) (.blk 1 (.reg [aM 19 5,aQ 20 .add 3 19 1,aM 5 20]))))) (iS [iA 21 (wAX []),aM 22 0,aM 23 5,iA 24 (.sl 4 (.t 22) none (some (.t 23))),iA 25 (wA2 21 24),aM 6 25] (iS [aM 26 6,aT 27 4 3,iA 28 (wAY [(0,4,.t 27)]),iA 29 (wA2 26 28),aM 6 29] (iS [aM 30 6,aM 31 0,aM 32 5,iA 33 (.sl 4 (.t 31) (some (.t 32)) none),iA 34 (wA2 30 33),aM 4 34] .ret)))))
theorem jgi:fnC Tryz.prog Tryz.f135=some (jdi,[.t 4],35):=by kernel_rfl
def jdt:C:=iS [iA 3 (.box 44 4 (.t 1)),iA 4 (.mov (.c (.slice none 0 0)))] (iS [aM 6 0,iA 7 (.mkf 175 [.t 3]),iA 8 (iK 141 [6,7]),aM 5 8] (.seq (iS [aM 9 5,aQ 10 .lss 3 9 0] (iD 10 (.reg [aM 11 0,aG 12 11,aM 5 12]) .skip)) (.seq (.dreg (tA 0 13 (iM 0) (tA 2 15 (iM 5) (tA 3 16 (iT 4 3) (tC 14 (iK 126 [13]) [3,2] (tC 17 (wAY [(0,4,.t 16)]) [2,0] (tC 18 (iK 176 [14,15,17]) [] (tA 6 4 (iM 18) .done) .stop) .stop) (tC 17 (wAY [(0,4,.t 16)]) [2,0] (tC 14 (iK 126 [13]) [3,2] (tC 18 (iK 176 [14,15,17]) [] (tA 6 4 (iM 18) .done) .stop) .stop) .stop)))))) .ret)))
theorem jgr:fnC Tryz.prog Tryz.f128=some (jdt,[.t 4],19):=by kernel_rfl
def jbU:C:=iS [iA 2 (.box 44 4 (.t 0)),aO 3 false] (iS [aT 4 4 2,aT 5 4 1,iA 6 (iK 138 [4,5]),aU 7 6,aM 3 7] .ret)
theorem jd4:fnC Tryz.prog Tryz.f175=some (jbU,[.t 3],8):=by kernel_rfl
theorem jaK (l:List En) (e:En) (hl:l.length<=4000000):kg Tryz.prog 135 [.c (ji l),.agg (jh e)] (.c (ji (jch l e))):=by
 refine pf_ jgi ?_;unfold jdi;simp only [go_sem,jh];intro b3;refine vo (λi:Nat=>St.of [(0,Ro (ji l)),(3,Bx 300 b3),(5,Ni i)] [(300,Bi b3 _ (jh e))]) (λi=>i<=l.length/\∀y∈l.take i,(λx=>!kr x e) y=false) (λi=>l.length-i) 0 (jy [300] (by simp only [go_sem,jh]<;>trivial)) ?_
 rintro k ⟨hk,cM⟩;have bD:=qT k;have cZ:=hk;have mZ:(l.drop k).take (l.length-k)=l.drop k:=aMO (by rw [aND];omega)
 obtain ⟨A,hA⟩:∃A,l.take k++[e]=A:=⟨_,rfl⟩;have y9:A.length=k+1:=by rw [<-hA,aMR,aMP,aNZ hk];rfl
 have hM:∀(hp:jkO l e=k),ji (jch l e)=ji (A++l.drop k):=λhp=>by rw [jch,hp,jlY,<-hA];simp
 have l1:(l.take k).length<=4000000:=by rw [aMP];omega
 have l2:(l.drop k).length<=4000000:=by rw [aND];omega
 have m1:(l.take k).length<=maxLen:=by unfold maxLen;omega
 have m2:(l.take k).length*32<=140737488355328:=by omega
 have m3:(l.take k).length+1<=maxLen:=by unfold maxLen;omega
 have m4:((l.take k).length+1)*32<=140737488355328:=by omega
 have m5:A.length+(l.drop k).length<=maxLen:=by unfold maxLen;omega
 have m6:(A.length+(l.drop k).length)*32<=140737488355328:=by omega
 by_cases aB:k<l.length
 ·have aA:(k:Int)<l.length:=by omega
  obtain ⟨x,hx⟩:=jd aB;have hw:=kX k;simp only [go_sem,jh,aB,aA,bD,jH hx];refine jx (jh8 x e) λη=>?_
  simp only [go_sem,jh];cases ha:kr x e
  ·rw [hM (jzX hx ha cM)]
   simp only [go_sem,jh,ha,hk,bD,aMV,mZ,m1,m2,m3,m4,jvR,hA,m5,m6,jy0,ko]
  ·simp only [go_sem,jh,ha,hw]
   exact ⟨k+1,⟨aB,jmq hx (by simp [ha]) cM⟩,(jy [300] (by simp only [go_sem,jh]<;>trivial)),by (try dsimp only);omega⟩
 have aA:¬(k:Int)<l.length:=by omega
 have aBY:∀y∈l,(λx=>!kr x e) y=false:=by rw [aMO (by omega)] at cM;exact cM
 rw [hM (by rw [jrg aBY];omega)]
 simp only [go_sem,jh,aA,hk,bD,aMV,mZ,m1,m2,m3,m4,jvR,hA,m5,m6,jy0,ko]
theorem jB8 (x e:En):kg Tryz.prog 175 [.agg (jh x),.ptr (jh e)] (.c (.val (.bool (!kr x e)))):=by
 refine pf_ jd4 ?_;unfold jbU;simp only [go_sem,jh];intro b2;refine jx (jib x e) λη=>?_
 simp only [go_sem,jh]
theorem jaN (l:List En) (e:En) (hl:l.length<=4000000):kg Tryz.prog 128 [.c (ji l),.agg (jh e)] (.c (ji (jch l e))):=by
 refine pf_ jgr ?_;unfold jdt;simp only [go_sem,jh];intro b3;refine jx (jb4 l _ (jh e) (λx=>!kr x e) (λx=>jB8 x e) hl) λη=>?_
 have cZ:=juW l e;have fS:∀(n:Nat),jkO l e=n->jch l e=jlY l n e:=λn h=>by rw [jch,h]
 by_cases aK:jdY (λx=>!kr x e) l<0
 ·have hp:jkO l e=l.length:=by rw [jkO,if_pos aK]
  rw [fS _ hp];simp only [go_sem,jh,aK];refine ⟨?_,?_⟩
  ·refine jn (ki l hl) (by simp only [go_sem,jh,jlb]) λbH=>?_
   simp only [go_sem,jh,jlb];intro sS;refine jfF (R:=λrt _=>rt=.c (ji (jlY l l.length e))) (by simp only [go_sem];exact (jja l l.length e (by omega) hl (by simp only [go_sem]) (by simp only [go_sem]) (by decide)).mono λrt o' h=>h.1) λrt o' hR η=>?_
   subst hR;simp only [go_sem]
  ·simp only [go_sem,jh,jlb]
   intro sS;refine jn (ki l hl) (by simp only [go_sem,jh,jlb]) λbH=>?_
   simp only [go_sem,jh,jlb];refine jfF (R:=λrt _=>rt=.c (ji (jlY l l.length e))) (by simp only [go_sem];exact (jja l l.length e (by omega) hl (by simp only [go_sem]) (by simp only [go_sem]) (by decide)).mono λrt o' h=>h.1) λrt o' hR η=>?_
   subst hR;simp only [go_sem]
 ·have hn:jdY (λx=>!kr x e) l=((jkO l e:Nat):Int):=by rw [jkO,if_neg aK];omega
  rw [fS _ rfl];generalize jkO l e=n at*;have mM:¬(n:Int)<0:=by omega
  rw [hn];simp only [go_sem,jh,mM];refine ⟨?_,?_⟩
  ·refine jn (ki l hl) (by simp only [go_sem,jh,jlb]) λbH=>?_
   simp only [go_sem,jh,jlb];intro sS;refine jfF (R:=λrt _=>rt=.c (ji (jlY l n e))) (by simp only [go_sem];exact (jja l n e (by omega) hl (by simp only [go_sem]) (by simp only [go_sem]) (by decide)).mono λrt o' h=>h.1) λrt o' hR η=>?_
   subst hR;simp only [go_sem]
  ·simp only [go_sem,jh,jlb]
   intro sS;refine jn (ki l hl) (by simp only [go_sem,jh,jlb]) λbH=>?_
   simp only [go_sem,jh,jlb];refine jfF (R:=λrt _=>rt=.c (ji (jlY l n e))) (by simp only [go_sem];exact (jja l n e (by omega) hl (by simp only [go_sem]) (by simp only [go_sem]) (by decide)).mono λrt o' h=>h.1) λrt o' hR η=>?_
   subst hR;simp only [go_sem]
section
variable {P:Program} {β:Nat} {s:St} {K:St->Prop} {Q:Ex->St->Prop}
theorem qa {a:C} (h:WkK s (wpC P β a Q)):wpC P β (.gh a) Q s:=h
theorem WkK.of {K:St->Prop} (h:K s):WkK s K:=λ_ _ _ _ _ F hr=>⟨s,F,hr,h⟩
theorem WkK.wk {s':St} (h:Wk s s') (hk:WkK s' K):WkK s K:=λB N w0 w a F hr=>let ⟨F',h1,_⟩:=h B N w0 w a F hr;hk B N w0 w a F' h1
theorem jnP {u:Value} (h:∃A n c,u=.slice A n c):u.oneCell'=true:=by obtain ⟨_,_,_,rfl⟩:=h;rfl
theorem jvu {w:World} {own:Bool} {d:D} {u:Value} {S:List Nat} (hd:d.isSl=true) (h:Rep w own d u S):∃A n c,u=.slice A n c:=by
 cases d with
 |val _=>cases hd
 |sl _ _ _=>exact zq h
theorem qY (g c g2:Nat) {d:D} {η:jm} (ho:(s.o g).own c=some (d,η)) (h2:s.o g2=.none) (aR:g2≠g) (hk:(η []).oneCell'=true->WkK ((s.rm g c).setO g2 (.loose d η)) K):WkK s K:=by
 intro B N w0 w a F h;obtain ⟨u,S,F',j1,j2,j3,j4,j5,j6,j7,j8⟩:=h.rm ho;have e:η []=u:=by rw [j3,jao j1]
 exact hk (e▸jnP (jvu j1 j2)) _ _ _ _ _ _ (j5.setO (g:=g2) (ob:=.loose d η) (S:=S) ⟨j1,u,j2,j3⟩ j4 (λg' _ b hb=>j6 g' b hb))
theorem jnA {B:Nat} {w:World} {d:D} {η:jm} {u:Value} {S2:List Nat} (hd:d.isSl=true) (hr:Rep w true d u S2) (hh:∀p,η p=hdr w p d u):∀{c:Nat} {l:List Cell} {us:List Value} {S:List Nat},CRel B w l us S->l[c]?=some (.a (.v u))->
 ∃S',CRel B w (l.set c (.own d η)) us S'/\S'.Perm (S++S2)
 |_,[],_,_,_,h=>by simp at h
 |0,.a x::l,_,S,⟨v,us',rfl,h1,h2⟩,h=>by
  simp at h;subst h;have:v=u:=h1;subst this;exact ⟨S2++S,⟨v,us',S2,S,rfl,rfl,hd,hr,hh,h2⟩,aPE⟩
 |0,.own e ε::l,_,_,_,h=>by simp at h
 |c+1,.a x::l,_,S,⟨v,us',rfl,h1,h2⟩,h=>by
  simp at h;obtain ⟨S',a1,a2⟩:=jnA hd hr hh h2 h;exact ⟨S',⟨v,us',rfl,h1,a1⟩,a2⟩
 |c+1,.own e ε::l,_,_,⟨v,us',T1,T2,rfl,rfl,h1,h2,h3,h4⟩,h=>by
  simp at h;obtain ⟨S',a1,a2⟩:=jnA hd hr hh h4 h;exact ⟨T1++S',⟨v,us',T1,S',rfl,rfl,h1,h2,h3,a1⟩,by rw [aNA];exact aPD _ a2⟩
theorem ve (g c g2:Nat) {b ty:Nat} {cs:List Cell} {d:D} {η:jm} (hb:s.o g=.box b ty cs) (hc:cs[c]?=some (.a (.v (η [])))) (h2:s.o g2=.loose d η) (hk:WkK ((s.setO g2 .none).setO g (.box b ty (cs.set c (.own d η)))) K):WkK s K:=by
 intro B N w0 w a F h;have aR:g2≠g:=λe=>by rw [e,hb] at h2;cases h2
 have h3:=h.ob g2;rw [h2] at h3;obtain ⟨k1,u,k2,k3⟩:=h3;have e:η []=u:=by rw [k3,jao k1]
 rw [e] at hc;have h4:=h.ob g;rw [hb] at h4;obtain ⟨us,S1,q1,q2,q3⟩:=h4;obtain ⟨S',q4,q5⟩:=jnA k1 k2 k3 q2 hc;have t1:=h.setO (g:=g2) (ob:=.none) (S:=[]) rfl (Fresh.nil _) (by simp)
 have hp:(b::S').Perm (F g++F g2):=by rw [q3];exact q5.cons b
 have aX:(F g++F g2).Nodup:=aMS.2 ⟨(h.fr g).1,(h.fr g2).1,λx hx y hy e=>h.dj g g2 (λe=>aR e.symm) x hx (e▸hy)⟩
 refine hk _ _ _ _ _ _ (t1.setO (g:=g) (ob:=.box b ty (cs.set c (.own d η))) (S:=b::S') ⟨us,S',q1,q4,rfl⟩ ⟨hp.nodup_iff.2 aX,λx hx=>?_⟩ (λg' cV x hx=>?_))
 ·rcases aMN.1 (hp.mem_iff.1 hx) with hx|hx
  ·exact (h.fr g).2 x hx
  ·exact (h.fr g2).2 x hx
 ·split
  ·simp
  ·rename_i mR
   intro hh;rcases aMN.1 (hp.mem_iff.1 hx) with hx|hx
   ·exact h.dj g' g cV x hh hx
   ·exact h.dj g' g2 mR x hh hx
theorem jeW (g c k g2:Nat) {sz tyo size ty:Nat} {ds0 cs:List D} {η:jm} (ho:(s.o g).own c=some (.sl sz tyo ds0,η)) (hk:ds0[k]?=some (.sl size ty cs)) (h2:s.o g2=.none) (aR:g2≠g)
 (hK:∀aV aH,aH []=η []->aV []=η [k]->(η [k]).oneCell'=true->WkK ((s.setO g ((s.o g).putOwn c (.sl sz tyo (ds0.set k (.val (η [k])))) aH)).setO g2 (.loose (.sl size ty cs) aV)) K):WkK s K:=by
 intro B N w0 w a F h;obtain ⟨v,Sk,a1,a2,_,a4,a5,a6⟩:=jnq (h.ob g) ho hk;have hv:=a2 rfl;obtain ⟨aH,S',b1,b2,R,b3,b4⟩:=a6 (.val v) [] ⟨rfl,rfl⟩;rw [aNI] at b4;have aX:=b3.nodup_iff.1 (h.fr g).1;have bB:∀b∈S',b∈F g:=λb hb=>b3.mem_iff.2 (aMN.2 (.inl (b4.mem_iff.1 hb)))
 have t1:=h.setO (g:=g) b1 ⟨b4.nodup_iff.2 (aMS.1 aX).1,λb hb=>(h.fr g).2 b (bB b hb)⟩ (λg' cV b hb hh=>h.dj g' g cV b hh (bB b hb))
 have t2:=t1.setO (g:=g2) (ob:=.loose (.sl size ty cs) (λp=>hdr w p (.sl size ty cs) v)) (S:=Sk) ⟨rfl,v,a1,λ_=>rfl⟩ ⟨(aMS.1 aX).2.1,λb hb=>(h.fr g).2 b (a4 b hb)⟩ (λg' _ b hb=>by
  split
  ·exact λhh=>(aMS.1 aX).2.2 b (b4.mem_iff.1 hh) b hb rfl
  ·rename_i xQ
   exact λhh=>h.dj g' g xQ b hh (a4 b hb))
 have:=hK (λp=>hdr w p (.sl size ty cs) v) aH b2 (by rw [hv];rfl) (by rw [hv];exact jnP (zq a1))
 rw [hv] at this;exact this _ _ _ _ _ _ t2
theorem qI (g c k g2:Nat) {sz tyo size ty:Nat} {ds0 cs:List D} {e:D} {η aV:jm} (ho:(s.o g).own c=some (.sl sz tyo ds0,η)) (hk:ds0[k]?=some e) (he:e=.val (aV [])\/e=jrq (some (size,ty)) (aV [])) (h2:s.o g2=.loose (.sl size ty cs) aV) (aR:g2≠g)
 (hK:∀aH,aH []=η []->WkK ((s.setO g2 .none).setO g ((s.o g).putOwn c (.sl sz tyo (ds0.set k (.sl size ty cs))) aH)) K):WkK s K:=by
 intro B N w0 w a F h;have h3:=h.ob g2;rw [h2] at h3;obtain ⟨_,u,k2,k3⟩:=h3;have eu:aV []=u:=by rw [k3];rfl
 rw [eu] at he;obtain ⟨v,Sk,a1,a2,a3,a4,a5,a6⟩:=jnq (h.ob g) ho hk
 have hX:∃X,Rep w true (.sl size ty cs) v X/\(X=F g2\/X=Sk):=by
  by_cases hn:u=.slice none 0 0/\e=jrq (some (size,ty)) u
  ·obtain ⟨hu,fE⟩:=hn
   subst hu
   have fF:cs=[]:=by
    obtain ⟨vs,T,S',bX,bZ,_⟩:=k2;rcases qJ bX with ⟨_,rfl⟩|⟨gg,nn,c2,e2,_⟩
    ·exact aNF (RepL.length _ bZ).symm
    ·cases e2
   subst fF;subst fE;exact ⟨Sk,a1,.inr rfl⟩
  ·refine ⟨F g2,?_,.inl rfl⟩
   have hvu:v=u:=by
    rcases he with he|he
    ·exact a3 u he
    ·refine a3 _ ?_
     by_cases lK:u=.slice none 0 0
     ·exact absurd ⟨lK,he⟩ hn
     ·rw [he]
      obtain ⟨A,n,cc,rfl⟩:=zq k2;unfold jrq;split
      ·rename_i e1;exact absurd e1 lK
      ·rfl
   exact hvu▸k2
 obtain ⟨X,hX1,hX2⟩:=hX;obtain ⟨aH,S',b1,b2,R,b3,b4⟩:=a6 (.sl size ty cs) X hX1;have t1:=h.setO (g:=g2) (ob:=.none) (S:=[]) rfl (Fresh.nil _) (by simp)
 have aX:=b3.nodup_iff.1 (h.fr g).1;have hR:∀b∈R,b∈F g:=λb hb=>b3.mem_iff.2 (aMN.2 (.inl hb))
 have hX3:∀b∈X,b∈F g\/b∈F g2:=λb hb=>by
  rcases hX2 with rfl|rfl
  ·exact .inr hb
  ·exact .inl (a4 b hb)
 have aBP:(R++X).Nodup:=by
  rcases hX2 with rfl|rfl
  ·exact aMS.2 ⟨(aMS.1 aX).1,(h.fr g2).1,λx hx y hy e=>h.dj g g2 (λe=>aR e.symm) x (hR x hx) (e▸hy)⟩
  ·exact aX
 refine hK aH b2 _ _ _ _ _ _ (t1.setO (g:=g) (ob:=(s.o g).putOwn c (.sl sz tyo (ds0.set k (.sl size ty cs))) aH) b1 ⟨b4.nodup_iff.2 aBP,λx hx=>?_⟩ (λg' cV x hx=>?_))
 ·rcases aMN.1 (b4.mem_iff.1 hx) with hx|hx
  ·exact (h.fr g).2 x (hR x hx)
  ·rcases hX3 x hx with hx|hx
   ·exact (h.fr g).2 x hx
   ·exact (h.fr g2).2 x hx
 ·split
  ·simp
  ·rename_i mR
   intro hh;rcases aMN.1 (b4.mem_iff.1 hx) with hx|hx
   ·exact h.dj g' g cV x hh (hR x hx)
   ·rcases hX3 x hx with hx|hx
    ·exact h.dj g' g cV x hh hx
    ·exact h.dj g' g2 mR x hh hx
end
theorem jtO {a b:Int} (ha:0<=a/\a<4294967296) (hb:0<=b/\b<4294967296):0<=jse a b/\jse a b<4294967296:=by
 obtain ⟨a,rfl⟩:=Int.eq_ofNat_of_zero_le ha.1;obtain ⟨b,rfl⟩:=Int.eq_ofNat_of_zero_le hb.1;have h1:a^^^b<2^32:=Nat.xor_lt_two_pow (by omega) (by omega)
 have h2:(BitVec.ofInt 64 (a:Int)^^^BitVec.ofInt 64 (b:Int)).toNat=a^^^b:=by
  rw [BitVec.toNat_xor,BitVec.ofInt_natCast,BitVec.ofInt_natCast,BitVec.toNat_ofNat,BitVec.toNat_ofNat,Nat.mod_eq_of_lt (by omega),Nat.mod_eq_of_lt (by omega)]
 rw [jse,h2,qE (by omega) (by omega)]
 omega
theorem jwZ {c:Int} (h:0<=c/\c<4294967296):0<=jls c/\jls c<4294967296:=by
 have h2:c.tdiv 2=c/2:=Int.tdiv_eq_ediv_of_nonneg h.1;have h3:IntKind.i64.wrap (c.tdiv 2)=c/2:=by rw [h2];exact qE (by omega) (by omega)
 rw [jls,h3];split
 ·exact jtO (by omega) (by omega)
 ·omega
theorem jvt {c:Int} (h:0<=c/\c<4294967296):∀n,0<=joJ n c/\joJ n c<4294967296
 |0=>h
 |n+1=>jwZ (jvt h n)
theorem jBe {c:Int} (h:0<=c/\c<4294967296) (b:UInt8):0<=jyA c b/\jyA c b<4294967296:=by
 have:=b.toNat_lt;refine jvt (jtO h ?_) 8;rw [qE (by omega) (by omega)]
 omega
theorem jBd (b:ByteArray):0<=jA0 b/\jA0 b<4294967296:=by
 refine jtO ?_ (by omega)
 have:∀(l:List UInt8) (c:Int),0<=c/\c<4294967296->0<=l.foldl jyA c/\l.foldl jyA c<4294967296:=by
  intro l
  induction l with
  |nil=>exact λc h=>h
  |cons x l ih=>exact λc h=>ih _ (jBe h x)
 exact this _ _ (by omega)
def shN (id:Int):Nat:=(jcO id).toNat
theorem jzw (id:Int):jcO id=(shN id:Int)/\shN id<4:=by
 have h:=jBd (jsf id)
 have h1:0<=jcO id/\jcO id<4:=by
  unfold jcO;split
  ·omega
  ·rw [aNU h.1];omega
 unfold shN;omega
def zl (aMC id:Int) (ids:List Int) (s:List En×Int):List En×Int:=ids.foldl (λs t=>(jch s.1 ⟨aMC,s.2,id,t⟩,s.2+1)) s
theorem jfR (aMC id:Int) (ids:List Int) (t:Int) (s:List En×Int):zl aMC id (ids++[t]) s=(jch (zl aMC id ids s).1 ⟨aMC,(zl aMC id ids s).2,id,t⟩,(zl aMC id ids s).2+1):=by simp [zl]
theorem jfS (aMC id:Int) (s:List En×Int):zl aMC id [] s=s:=rfl
theorem zY (aMC id:Int):∀(ids:List Int) (s:List En×Int),(zl aMC id ids s).2=s.2+ids.length
 |[],s=>by simp [zl]
 |t::ids,s=>by
  have:=zY aMC id ids (jch s.1 ⟨aMC,s.2,id,t⟩,s.2+1);simp only [zl,aPC,aNG] at this⊢;rw [this];omega
theorem jdQ (aMC id:Int):∀(ids:List Int) (s:List En×Int),(zl aMC id ids s).1.length=s.1.length+ids.length
 |[],s=>by simp [zl]
 |t::ids,s=>by
  have:=jdQ aMC id ids (jch s.1 ⟨aMC,s.2,id,t⟩,s.2+1);simp only [zl,aPC,aNG] at this⊢;rw [this,jrf];omega
def jpA (was ts:List Tk) (k:Nat):Bool:=(stT ts k==2)&&!(decide (k<was.length)&&(stT was k==2))
def zk (was ts:List Tk) (k:Nat):List Int:=((List.range k).filter (jpA was ts)).map λ(j:Nat)=>(j:Int)
theorem jyR (was ts:List Tk):zk was ts 0=[]:=rfl
theorem jyQ (was ts:List Tk) (k:Nat):zk was ts (k+1)=zk was ts k++(if jpA was ts k then [(k:Int)] else []):=by
 cases h:jpA was ts k<;>simp [zk,List.range_succ,h]
theorem jdK (was ts:List Tk) (k:Nat):(zk was ts k).length<=k:=by
 simp only [zk,aNT];exact aNX (aNH _ _) (by simp)
theorem jxx (ts:List Tk) (k:Nat):zk [] ts k=zh 2 ts k:=by
 have:jpA [] ts=λ(j:Nat)=>stT ts (j:Int)==2:=by funext j;simp [jpA]
 simp [zk,zh,this]
def jtc (y:Yd) (r:Rn) (ids:List Int):Yd:=
 let p:=zl r.aLW.aMC r.id ids ((y.aLU[shN r.id]?).getD default,y.seq)
 ⟨y.now,p.2,y.aLU.set (shN r.id) p.1,y.aLX⟩
abbrev rnH (r:Rn) (x5 x7:Value):List D:=[.val (.int .i64 r.id),.val (.int .i64 r.aLW.aMC),.val (.int .i64 r.aLW.aMG),.val (.int .i64 r.aLW.aMF),.val (.int .i64 r.aLW.aLT),jrq (some (2,tEd)) x5,.val (.int .i64 r.aLV),jrq (some (4,tTk)) x7]
abbrev jpw (b ty:Nat) (r:Rn) (x5 x7:Value):Ob:=.box b ty [.a (.v (.int .i64 r.id)),.a (.v (.int .i64 r.aLW.aMC)),.a (.v (.int .i64 r.aLW.aMG)),.a (.v (.int .i64 r.aLW.aMF)),.a (.v (.int .i64 r.aLW.aLT)),.a (.v x5),.a (.v (.int .i64 r.aLV)),.a (.v x7)]
abbrev vu (b ty:Nat) (now seq:Int) (sh:List (List En)) (e1:jm) (d:D) (e2:jm):Ob:=.box b ty [.a (.v (.int .i64 now)),.a (.v (.int .i64 seq)),.own (ku sh) e1,.own d e2]
theorem jjX (k:Nat×Nat) {x:Value} (h:x.oneCell'=true) (l:List D):jjY (jrq (some k) x::l)=jjY l:=by
 unfold jrq;split<;>simp [jjY, *]
theorem jqI {P:Program} {β:Nat} {fl:Prop} [Decidable fl] {m1 m2 o:Prop} {a:C} {Q:Ex->St->Prop} {f g:jm->St} (st:jm->St) (h1:m1) (h2:m2) (ho:o) (hf:∀η,Wk (f η) (st η)) (hg:∀η,Wk (g η) (st η)) (key:∀η,WkK (st η) (wpC P β a Q)):
 if fl then m1/\m2/\∀η,wpC P β (.gh a) Q (f η) else o/\m1/\m2/\∀η,wpC P β (.gh a) Q (g η):=by
 split
 ·exact ⟨h1,h2,λη=>qa (WkK.wk (hf η) (key η))⟩
 ·exact ⟨ho,h1,h2,λη=>qa (WkK.wk (hg η) (key η))⟩
theorem jaI {sh:List (List En)} {n:Nat} (l:List En):D.put [] n [ji l] (ku sh)=ku (sh.set n l):=by
 simp only [ku,D.put,kI,jlz,List.map_set]
theorem jxy {ts:List Tk} {k:Nat} {x:Tk} (h:ts[k]?=some x):jpA [] ts k=(x.aLV==2):=by
 simp [jpA,kt h]
theorem jjZ {α:Type} {l:List α}:∀{L:List (List α)},l∈L->l.length<=L.flatten.length
 |[],h=>by simp at h
 |x::L,h=>by
  rcases aNB.1 h with rfl|h
  ·simp
  ·have:=jjZ h
   simp only [aPL,aMR];omega
theorem zp {y:Yd} (ht:jt y<=2000000) {l:List En} (h:l∈y.aLU):l.length<=2000000:=aNX (jjZ h) (zH ht)
theorem jg9 (l:List Rn):(l.flatMap jc).length=l.length*8:=jG (enc:=jc) (λ_=>rfl) l
theorem jq9 (l:List Rn) (row:List D) (j:Nat):(l.flatMap jc++row)[l.length*8+j]?=row[j]?:=by
 rw [aOA (by rw [jg9];omega),jg9,aNR]
theorem jmG (l:List Rn) (row:List D) (j:Nat) (d:D):(l.flatMap jc++row).set (l.length*8+j) d=l.flatMap jc++row.set j d:=by
 rw [aPO _ _ (by rw [jg9];omega),jg9,aNR]
theorem jn6 (l:List Rn) (r:Rn):D.sl 8 tRn (l.flatMap jc++jc r)=jI (l++[r]):=by simp [jI]
theorem jjF {P:Program} {β:Nat} {a b:C} {Q:Ex->St->Prop} {s:St} {ι:Type} (mk:ι->St) (h1:wpC P β a (Ex.thn (λs'=>∃i,Wk s' (mk i)) Q) s) (h2:∀i,wpC P β b Q (mk i)):wpC P β (.seq a (.gh b)) Q s:=by
 rw [jpB];exact zT a (jfA (λs' ⟨i,h⟩=>wp_gh (mk i) h (h2 i)) λ_ _ h=>h) h1
theorem jkZ (y:Yd) (p:Pl) (ht:jt y<=2000000):kg Tryz.prog 113 [.agg (jb y),.agg (ja p)] (.c (.val (.bool (zJ y p)))):=jpV ⟨_,Tryz.func113,by kernel_rfl,by kernel_rfl⟩ λw a b ⟨S,ha⟩ ⟨S',hb⟩=>jsA y p a b S S' w false false ha hb ht
theorem jk5 (y:Yd) (p:Pl) (ht:jt y<=2000000):kg Tryz.prog 46 [.agg (jb y),.agg (ja p)] (.c (.val (.bool (zJ y p)))):=jpV ⟨_,Tryz.func46,by kernel_rfl,by kernel_rfl⟩ λw a b ⟨S,ha⟩ ⟨S',hb⟩=>jtl y p a b S S' w false false ha hb ht
open Classical in
noncomputable def jdA (y:Yd) (id:Int) (p:Pl):Int:=if jw y=false then 8 else if¬(1<=id/\id<=9999) then 5 else if 0<=runAt y id then 6 else if jr p≠0 then jr p else if zJ y p=false then 7 else 0
noncomputable def jcL (y:Yd) (id:Int) (p:Pl):Yd:=if jdA y id p=0 then jtc ⟨y.now,y.seq,y.aLU,y.aLX++[jM id p]⟩ (jM id p) (qQ 2 (jM id p).aLT) else y
def jgC:C:=iS [iA 3 (.box 27 4 (.t 0)),iA 5 (.box 49 5 (.t 2)),iA 6 wAK,aN 7 0] (iS [aT 11 4 3,iA 12 (iK 67 [11]),iA 8 wAK,wAA 8 12] (.seq (.blk 0 (iS [aT 14 4 3,iA 15 (iK 66 [14]),aU 16 15,aM 13 16] (iD 13 (iS [aT 17 4 8,wAA 6 17,aN 7 8] .ret) (iS [aM 19 1,iA 20 (.call 68 [.t 19,oI 1,oI 9999]),aU 21 20,aM 18 21] (iD 18 (iS [aT 22 4 8,wAA 6 22,aN 7 5] .ret) (iS [aT 24 4 3,aM 25 1,iA 26 (iK 26 [24,25]),aQ 27 .geq 3 26 0,aM 23 27] (iD 23 (iS [aT 28 4 8,wAA 6 28,aN 7 6] .ret) (iS [aT 30 5 5,iA 31 (iK 112 [30]),aQ 32 .neq 3 31 0,aM 29 32] (iD 29 (.seq (.dreg (tA 0 33 (iT 4 8) (tA 1 34 (iT 5 5) (tC 35 (iK 112 [34]) [0] (.alt (wAA 6 33) [] (tA 4 7 (iM 35) .done) .stop) .stop)))) .ret) (iS [aT 37 4 3,aT 38 5 5,iA 39 (iK 113 [37,38]),aU 40 39,aM 36 40] (iD 36 (iS [aT 41 4 8,wAA 6 41,aN 7 7] .ret) .skip))))))))))) (iS [aM 43 1,aT 44 5 5,iA 45 (iK 114 [43,44]),aM 42 45,aE 46 42 0,aE 47 42 1,iA 9 wAL,wAC 9 46,aM 10 47] (iS [aF 48 3 8,aL 49 48,aT 50 8 9,iA 51 (wAZ [(0,8,.t 50)]),iA 52 (.app 52 8 96 (.t 49) (.t 51)),aF 53 3 8,wAI 53 52] (iS [aT 54 4 8,iA 55 (wAU []),aT 56 8 9,iA 57 (iK 115 [54,55,56]),wAA 6 57,aN 7 0] .ret)))))
theorem jiH:fnC Tryz.prog Tryz.f45=some (jgC,[.cell 6 true 4,.t 7],58):=by kernel_rfl
def jca:C:=iS [iA 3 (.box 27 4 (.t 0)),iA 4 (.box 52 8 (.t 1)),iA 5 (.box 52 8 (.t 2)),iA 6 wAK] (iS [aF 9 0 5,aL 10 9,iA 11 (iK 170 [10]),aM 7 11] (.seq (iS [aN 8 0] (.blk 0 (.loop (.seq (iS [aM 12 8,aF 13 7 5,aL 14 13,aG 15 14,aP 16 .lss 3 12 15] (iD 16 .skip (.exit 0))) (.seq (.blk 1 (.seq (iS [aF 19 7 5,aL 20 19,aM 21 8,aI 22 4 20 21,aF 23 0 22,aL 24 23,aQ 25 .neq 3 24 2,aM 26 25,iB 27 26 false (iM 8),iB 28 26 false (iF 7 4),iB 29 26 false (iL 28),iB 30 26 false (iG 29),iB 31 26 false (iP .lss 3 27 30),iB 32 26 false (iM 31),iB 33 32 true (iF 7 4),iB 34 32 true (iL 33),iB 35 32 true (iM 8),iB 36 32 true (iI 4 34 35),iB 37 32 true (iF 0 36),iB 38 32 true (iL 37),iB 39 32 true (iQ .eql 3 38 2),iB 40 26 false (iY 32 (.t 39) (oF)),iA 41 (iY 26 (oT) (.t 40))] (iD 41 (.exit 1) .skip)) (.seq (.dreg (tA 0 42 (iF 2 3) (tA 1 43 (iL 42) (tA 2 44 (iM 7) (tA 3 45 (iF 2 3) (tA 4 46 (iL 45) (tA 5 47 (iM 7) (tA 6 48 (iI 1 46 47) (tA 7 49 (iL 48) (tA 8 50 (iF 1 5) (tA 9 51 (iF 0 50) (tA 10 52 (iL 51) (tA 11 53 (iF 1 3) (tA 12 54 (iL 53) (tA 13 55 (iF 0 5) (tA 14 56 (iL 55) (tA 15 57 (iM 8) (tA 16 58 (wAS [(0,1,.t 52),(1,1,.t 54),(2,1,.t 56),(3,1,.t 57)]) (tC 59 (iK 135 [49,58]) [2,1,0] (tA 18 60 (iI 1 43 44) (.alt (wAF 60 59) [] .done .stop)) .stop))))))))))))))))))) (.reg [aF 61 1 3,aL 62 61,aQ 63 .add 3 62 1,aF 64 1 3,wAD 64 63])))) (.reg [aM 17 8,aQ 18 .add 3 17 1,aM 8 18])))))) (iS [aT 65 4 3,wAA 6 65] .ret)))
theorem jcl:fnC Tryz.prog Tryz.f115=some (jca,[.cell 6 true 4],66):=by kernel_rfl
theorem jmL (y:Yd) (id:Int) (p:Pl) (ht:jt y<=2000000) (hp:p.aLY.length<=4000000):kg Tryz.prog 45 [.agg (jb y),.c (.val (.int .i64 id)),.agg (ja p)] (.tup [(true,jb (jcL y id p)),(false,[.val (.int .i64 (jdA y id p))])]):=by
 refine vZ [[1,1,1,1,0],[1,1,1,1,1,0],[1,1,1,1,1,1]] Tryz.func45 jiH (by simp) ?_
 unfold jgC;simp only [C.ghs,C.ghAt,List.foldr];simp only [go_sem,jb,ja];intro b3 b5 b6;refine jx (kp y ht) λbC=>?_
 simp only [go_sem,jb,ja];intro b8;refine jx (qq y ht) λη=>?_
 simp only [go_sem,jb,ja];cases aC:jw y
 ·have hc:jdA y id p=8:=by simp [jdA,aC]
  have hy:jcL y id p=y:=by simp [jcL,hc]
  simp only [go_sem,jb,ja,aC,hc,hy];refine qm _ _ _ _ _ ?_;simp only [go_sem,jb,ja]
 simp only [go_sem,jb,ja,aC];refine jx (jJ id 1 9999) λη=>?_
 simp only [go_sem,jb,ja];cases hid:decide (1<=id/\id<=9999)
 ·have hc:jdA y id p=5:=by simp [jdA,aC,of_decide_eq_false hid]
  have hy:jcL y id p=y:=by simp [jcL,hc]
  simp only [go_sem,jb,ja,hid,hc,hy];refine qm _ _ _ _ _ ?_;simp only [go_sem,jb,ja]
 have tS:=aNS hid;simp only [go_sem,jb,ja,hid];refine jx (qr y id) λη=>?_
 simp only [go_sem,jb,ja];by_cases sJ:runAt y id>=0
 ·have hc:jdA y id p=6:=by unfold jdA;rw [if_neg (by simp [aC]),if_neg (by omega),if_pos sJ]
  have hy:jcL y id p=y:=by simp [jcL,hc]
  simp only [go_sem,jb,ja,sJ,hc,hy];refine qm _ _ _ _ _ ?_;simp only [go_sem,jb,ja]
 simp only [go_sem,jb,ja,sJ];refine jx (vW p) λη=>?_
 simp only [go_sem,jb,ja];cases oH:jr p !=0;rotate_left
 ·have eQ:jr p≠0:=by simpa using oH
  have hc:jdA y id p=jr p:=by unfold jdA;rw [if_neg (by simp [aC]),if_neg (by omega),if_neg (by omega),if_pos eQ]
  have hy:jcL y id p=y:=by rw [jcL,if_neg (by rw [hc];exact eQ)]
  simp only [go_sem,jb,ja,oH];refine jx (vW p) λη=>?_
  simp only [go_sem,jb,ja];rw [hc,hy];refine qm _ _ _ _ _ ?_;simp only [go_sem,jb,ja]
 have eQ:jr p=0:=by simpa using oH
 simp only [go_sem,jb,ja,oH];refine jx (jkZ y p ht) λη=>?_
 simp only [go_sem,jb,ja];cases m9:zJ y p
 ·have hc:jdA y id p=7:=by unfold jdA;rw [if_neg (by simp [aC]),if_neg (by omega),if_neg (by omega),if_neg (by simp [eQ]),if_pos m9]
  have hy:jcL y id p=y:=by simp [jcL,hc]
  simp only [go_sem,jb,ja,m9,hc,hy];refine qm _ _ _ _ _ ?_;simp only [go_sem,jb,ja]
 have hc:jdA y id p=0:=by unfold jdA;rw [if_neg (by simp [aC]),if_neg (by omega),if_neg (by omega),if_neg (by simp [eQ]),if_neg (by simp [m9])]
 rw [hc,jcL,if_pos hc];simp only [go_sem,jb,ja,m9];refine jx (jmM id p tS eQ) λdL=>?_
 simp only [go_sem,jb,ja,jc];intro b9;refine qa ?_;obtain ⟨r,hr⟩:∃r,jM id p=r:=⟨_,rfl⟩;have uT:r.id=id:=by rw [<-hr];rfl
 refine WkK.wk (s':=St.of [(6,Bx 600 b6),(8,Bx 800 b8),(9,Bx 900 b9)] [(600,ZYd b6 _),(800,ka b8 _ y.now y.seq y.aLU (bC 2) y.aLX (bC 3)),(900,ja1 b9 _ r (dL 5) (dL 7))]) (jy [600,800,900] (by simp only [go_sem,jb,ja,jc,hr]<;>trivial)) ?_
 refine qY 900 5 901 (d:=jv r.aLW.aLY) (η:=dL 5) (by simp only [go_sem]) (by simp only [go_sem]) (by decide) λsX=>?_
 refine qY 900 7 902 (d:=jC r.aLT) (η:=dL 7) (by simp only [go_sem]) (by simp only [go_sem]) (by decide) λsW=>?_
 refine WkK.of ?_;generalize dL 5=bP at*;generalize dL 7=bF at*;simp only [go_sem,sX,sW];have m1:y.aLX.length+1<=maxLen:=by unfold maxLen;have:=(yard_iff.1 aC).eight;omega
 have m2:(y.aLX.length+1)*96<=140737488355328:=by have:=(yard_iff.1 aC).eight;omega
 intro aAA;refine jqI (λfB=>St.of [(6,Bx 600 b6),(8,Bx 800 b8),(9,Bx 900 b9)] [(600,ZYd b6 tYd),(800,vu b8 tYd y.now y.seq y.aLU (bC 2) (.sl 8 tRn (y.aLX.flatMap jc++rnH r (bP []) (bF []))) fB),(900,jpw b9 tRn r (bP []) (bF [])),(901,.loose (jv r.aLW.aLY) bP),(902,.loose (jC r.aLT) bF)]) m1 m2 ?_ (λfB=>jy [600,800,900,901,902]) (λfB=>jy [600,800,900,901,902]) ?_
 ·simp only [jjX _ sX,jjX _ sW,jjY];rfl
 intro fB;rw [hr];generalize mU:D.sl 8 tRn (y.aLX.flatMap jc++rnH r (bP []) (bF []))=dR;refine ve 900 5 901 (d:=jv r.aLW.aLY) (η:=bP) rfl rfl rfl ?_;refine ve 900 7 902 (d:=jC r.aLT) (η:=bF) rfl rfl rfl ?_;refine WkK.wk (s':=St.of [(6,Bx 600 b6),(8,Bx 800 b8),(9,Bx 900 b9)] [(600,ZYd b6 _),(800,vu b8 _ y.now y.seq y.aLU (bC 2) dR fB),(900,ja1 b9 _ r bP bF)]) (jy [600,800,900] (by simp only [go_sem,jb,ja,jc]<;>trivial)) ?_
 refine WkK.of ?_;simp only [go_sem];refine qe (qv (β:=7000000) Tryz.func115 jcl (by simp) ?_)
 unfold jca;simp only [go_sem,jh,jk];intro b73 b74 b75 b76;refine jx (jef r.id) λη=>?_
 simp only [go_sem];obtain ⟨eU,pV⟩:=jzw r.id;rw [eU];have uF:jtc ⟨y.now,y.seq,y.aLU,y.aLX++[r]⟩ r (qQ 2 r.aLT)=⟨y.now,(zl r.aLW.aMC r.id (qQ 2 r.aLT) ((y.aLU[shN r.id]?).getD default,y.seq)).2,y.aLU.set (shN r.id) (zl r.aLW.aMC r.id (qQ 2 r.aLT) ((y.aLU[shN r.id]?).getD default,y.seq)).1,y.aLX++[r]⟩:=rfl;rw [uF];generalize shN r.id=n at*;have h4:=(yard_iff.1 aC).four;have hq:=(yard_iff.1 aC).seq;have hn:n<y.aLU.length:=by omega
 have fM:=qT n;obtain ⟨l,hl⟩:=jd hn;have eV:=zp ht (aMJ hl);rw [hl,aMM];obtain ⟨t0,yS,-,cC,-⟩:=jcH eQ;have uS:r.aLT.length<=12:=by rw [<-hr,jM,jaO];omega
 have aAW:zk [] r.aLT r.aLT.length=qQ 2 r.aLT:=jxx _ _;refine vo (λi:Nat×jm=>St.of [(3,Bx 3 b73),(4,Bx 4 b74),(5,Bx 5 b75),(6,Bx 66 b76),(7,Ni n),(8,Ni i.1)] [(600,ZYd b6 _),(3,vu b73 _ y.now (zl r.aLW.aMC r.id (zk [] r.aLT i.1) (l,y.seq)).2 (y.aLU.set n (zl r.aLW.aMC r.id (zk [] r.aLT i.1) (l,y.seq)).1) i.2 dR fB),(4,ZRn b74 _),(5,ja1 b75 _ r bP bF),(66,ZYd b76 _)]) (λi=>i.1<=r.aLT.length) (λi=>r.aLT.length-i.1) (0,bC 2) (jy [600,700000300,700000400,700000500,700000600] (by simp only [go_sem,jb,ja,jc,jyR,jfS,jaw hl]<;>trivial)) ?_
 rintro ⟨k,η⟩ hk;dsimp only at hk;have rW:=zY r.aLW.aMC r.id (zk [] r.aLT k) (l,y.seq);have cX:=jdQ r.aLW.aMC r.id (zk [] r.aLT k) (l,y.seq);have gX:=jdK [] r.aLT k;have eG:=jfR r.aLW.aMC r.id (zk [] r.aLT k) k (l,y.seq);have cQ:=jyQ [] r.aLT k;dsimp only at rW cX;by_cases aB:k<r.aLT.length
 ·have aA:(k:Int)<r.aLT.length:=by omega
  have bD:=qT k;have cD:¬(k:Int)<0:=by omega
  obtain ⟨x,hx⟩:=jd aB;have hw:=kX k;rw [jxy hx] at cQ;have bS:IntKind.i64.wrap ((zl r.aLW.aMC r.id (zk [] r.aLT k) (l,y.seq)).2+1)=(zl r.aLW.aMC r.id (zk [] r.aLT k) (l,y.seq)).2+1:=zy;generalize u7:zl r.aLW.aMC r.id (zk [] r.aLT k) (l,y.seq)=P at*;obtain ⟨sh,fH⟩:∃s,y.aLU.set n P.1=s:=⟨_,rfl⟩;have iZ:sh[n]?=some P.1:=by rw [<-fH];exact aML hn
  have gH:n<sh.length:=by rw [<-fH,aMU];exact hn
  have gQ:∀L,sh.set n L=y.aLU.set n L:=λL=>by rw [<-fH,aNP]
  have gJ:n+1<=(sh.flatMap λes=>[ji es]).length:=by have:=jbf gH;rwa [aMZ] at this
  have gE:((sh.flatMap λes=>[ji es]).drop n).take 1=[ji P.1]:=by have:=jcd iZ;rwa [aMZ] at this
  rw [fH];cases h2:x.aLV !=2
  ·have bI:(x.aLV==2)=true:=by have:x.aLV=2:=by simpa using h2
                               simp [this]
   rw [bI,if_pos rfl] at cQ;rw [<-cQ] at eG;simp only [go_sem,ja,jc,jk,aA,bD,cD,aB,zF hx,vi hx,zx hx,qK hx,h2];simp only [go_sem,gH,aMZ,gE,gJ,fM];refine jn (jaK P.1 ⟨r.aLW.aMC,P.2,r.id,k⟩ (by omega)) (by simp only [go_sem,jh,kn iZ]) λrR=>?_
   simp only [go_sem,jh,kn iZ];simp only [go_sem,gH,aMZ,gJ,gE,fM,jaI,bS,hw,gQ];refine λaH hη'=>?_
   exact ql (k+1,aH) (jy [600,3,4,5,66] (by simp only [go_sem,jb,ja,jc,eG]<;>trivial))
  ·have bI:(x.aLV==2)=false:=by simpa using h2
   rw [bI] at cQ;simp only [aOZ,if_false,aNI] at cQ;simp only [go_sem,ja,jc,jk,aA,bD,cD,aB,zF hx,vi hx,zx hx,qK hx,h2,hw];exact ql (k+1,η) (jy [600,3,4,5,66] (by simp only [go_sem,jb,ja,jc,cQ,u7,fH]<;>trivial))
 obtain rfl:k=r.aLT.length:=by omega
 have aA:¬((r.aLT.length:Nat):Int)<r.aLT.length:=by omega
 rw [aAW];generalize zl r.aLW.aMC r.id (qQ 2 r.aLT) (l,y.seq)=P at*;simp only [go_sem,aA,ja,jc];refine qa ?_;subst mU;refine WkK.wk (s':=St.of [(6,Bx 600 b6),(7,Ni 0)] [(600,vu b6 _ y.now P.2 (y.aLU.set n P.1) η (.sl 8 tRn (y.aLX.flatMap jc++rnH r (bP []) (bF []))) fB),(5,ja1 b75 _ r bP bF)]) (jy [600,5] (by simp only [go_sem,ja,jc]<;>trivial)) ?_
 refine qY 5 5 901 (d:=jv r.aLW.aLY) (η:=bP) rfl rfl (by decide) λ_=>?_
 refine qY 5 7 902 (d:=jC r.aLT) (η:=bF) rfl rfl (by decide) λ_=>?_
 refine qI 600 3 (y.aLX.length*8+5) 901 (η:=fB) (aV:=bP) (cs:=r.aLW.aLY.flatMap jR) rfl (jq9 _ _ 5) (.inr rfl) rfl (by decide) λeP _=>?_
 rw [jmG];refine qI 600 3 (y.aLX.length*8+7) 902 (η:=eP) (aV:=bF) (cs:=r.aLT.flatMap jk) rfl (jq9 _ _ 7) (.inr rfl) rfl (by decide) λi9 _=>?_
 rw [jmG];refine WkK.of ?_;have bX:(List.set (List.set (rnH r (bP []) (bF [])) 5 (.sl 2 tEd (r.aLW.aLY.flatMap jR))) 7 (.sl 4 tTk (r.aLT.flatMap jk)))=jc r:=rfl;rw [bX,jn6];refine qm _ _ _ _ _ ?_;simp only [go_sem,jb]
def jgR:C:=iS [iA 3 (.box 27 4 (.t 0)),iA 5 (.box 49 5 (.t 2)),iA 6 wAK,aN 7 0] (iS [aT 11 4 3,iA 12 (iK 61 [11]),iA 8 wAK,wAA 8 12] (.seq (.blk 0 (iS [aT 14 4 3,iA 15 (iK 18 [14]),aU 16 15,aM 13 16] (iD 13 (iS [aT 17 4 8,wAA 6 17,aN 7 8] .ret) (iS [aM 19 1,iA 20 (.call 62 [.t 19,oI 1,oI 9999]),aU 21 20,aM 18 21] (iD 18 (iS [aT 22 4 8,wAA 6 22,aN 7 5] .ret) (iS [aT 24 4 3,aM 25 1,iA 26 (iK 25 [24,25]),aQ 27 .geq 3 26 0,aM 23 27] (iD 23 (iS [aT 28 4 8,wAA 6 28,aN 7 6] .ret) (iS [aT 30 5 5,iA 31 (iK 109 [30]),aQ 32 .neq 3 31 0,aM 29 32] (iD 29 (.seq (.dreg (tA 0 33 (iT 4 8) (tA 1 34 (iT 5 5) (tC 35 (iK 109 [34]) [0] (.alt (wAA 6 33) [] (tA 4 7 (iM 35) .done) .stop) .stop)))) .ret) (iS [aT 37 4 3,aT 38 5 5,iA 39 (iK 46 [37,38]),aU 40 39,aM 36 40] (iD 36 (iS [aT 41 4 8,wAA 6 41,aN 7 7] .ret) .skip))))))))))) (iS [aM 43 1,aT 44 5 5,iA 45 (iK 110 [43,44]),aM 42 45,aE 46 42 0,aE 47 42 1,iA 9 wAL,wAC 9 46,aM 10 47] (iS [aF 48 3 8,aL 49 48,aT 50 8 9,iA 51 (wAZ [(0,8,.t 50)]),iA 52 (.app 52 8 96 (.t 49) (.t 51)),aF 53 3 8,wAI 53 52] (.seq (.dreg (tA 0 54 (iT 8 9) (tA 1 55 (iT 8 9) (tC 56 (.call 47 [.t 55,oI 2]) [0] (tC 57 (iK 111 [8,54,56]) [] .done .stop) .stop)))) (iS [aT 58 4 8,wAA 6 58,aN 7 0] .ret))))))
theorem jiW:fnC Tryz.prog Tryz.f44=some (jgR,[.cell 6 true 4,.t 7],59):=by kernel_rfl
def jdp:C:=iS [iA 4 (.box 52 8 (.t 1))] (iS [aF 9 0 4,aL 10 9,iA 11 (iK 165 [10]),aM 6 11] (iS [aM 12 2,aG 13 12,aN 14 0] (.blk 0 (.loop (iS [aP 15 .lss 3 14 13] (.seq (iD 15 .skip (.exit 0)) (.seq (.blk 1 (iS [aI 16 1 12 14,aL 17 16,aM 8 17] (.seq (.dreg (tA 0 18 (iM 0) (tA 1 19 (iF 0 18) (tA 2 20 (iF 2 19) (tA 3 21 (iL 20) (tA 4 22 (iM 6) (tA 5 23 (iM 0) (tA 6 24 (iF 0 23) (tA 7 25 (iF 2 24) (tA 8 26 (iL 25) (tA 9 27 (iM 6) (tA 10 28 (iI 1 26 27) (tA 11 29 (iL 28) (tA 12 30 (iF 1 4) (tA 13 31 (iF 0 30) (tA 14 32 (iL 31) (tA 15 33 (iM 0) (tA 16 34 (iF 0 33) (tA 17 35 (iF 1 34) (tA 18 36 (iL 35) (tA 19 37 (iF 0 4) (tA 20 38 (iL 37) (tA 21 39 (iM 8) (tA 22 40 (wAS [(0,1,.t 32),(1,1,.t 36),(2,1,.t 38),(3,1,.t 39)]) (tC 41 (iK 128 [29,40]) [4,3,2,1,0] (tA 24 42 (iI 1 21 22) (.alt (wAF 42 41) [] .done .stop)) .stop))))))))))))))))))))))))) (.reg [aM 43 0,aF 44 0 43,aF 45 1 44,aL 46 45,aQ 47 .add 3 46 1,aF 48 0 43,aF 49 1 48,wAD 49 47])))) (.reg [aQ 50 .add 3 14 1,aM 14 50]))))))))
theorem jc9:fnC Tryz.prog Tryz.f111=some (jdp,[],51):=by kernel_rfl
theorem jmW (y:Yd) (id:Int) (p:Pl) (ht:jt y<=2000000) (hp:p.aLY.length<=4000000):kg Tryz.prog 44 [.agg (jb y),.c (.val (.int .i64 id)),.agg (ja p)] (.tup [(true,jb (jcL y id p)),(false,[.val (.int .i64 (jdA y id p))])]):=by
 refine vZ [[1,1,1,1,0],[1,1,1,1,1,0],[1,1,1,1,1,1,1]] Tryz.func44 jiW (by simp) ?_
 unfold jgR;simp only [C.ghs,C.ghAt,List.foldr];simp only [go_sem,jb,ja];intro b3 b5 b6;refine jx (ke y ht) λbC=>?_
 simp only [go_sem,jb,ja];intro b8;refine jx (kJ y ht) λη=>?_
 simp only [go_sem,jb,ja];cases aC:jw y
 ·have hc:jdA y id p=8:=by simp [jdA,aC]
  have hy:jcL y id p=y:=by simp [jcL,hc]
  simp only [go_sem,jb,ja,aC,hc,hy];refine qm _ _ _ _ _ ?_;simp only [go_sem,jb,ja]
 simp only [go_sem,jb,ja,aC];refine jx (jE id 1 9999) λη=>?_
 simp only [go_sem,jb,ja];cases hid:decide (1<=id/\id<=9999)
 ·have hc:jdA y id p=5:=by simp [jdA,aC,of_decide_eq_false hid]
  have hy:jcL y id p=y:=by simp [jcL,hc]
  simp only [go_sem,jb,ja,hid,hc,hy];refine qm _ _ _ _ _ ?_;simp only [go_sem,jb,ja]
 have tS:=aNS hid;simp only [go_sem,jb,ja,hid];refine jx (qg y id) λη=>?_
 simp only [go_sem,jb,ja];by_cases sJ:runAt y id>=0
 ·have hc:jdA y id p=6:=by unfold jdA;rw [if_neg (by simp [aC]),if_neg (by omega),if_pos sJ]
  have hy:jcL y id p=y:=by simp [jcL,hc]
  simp only [go_sem,jb,ja,sJ,hc,hy];refine qm _ _ _ _ _ ?_;simp only [go_sem,jb,ja]
 simp only [go_sem,jb,ja,sJ];refine jx (qp p hp) λη=>?_
 simp only [go_sem,jb,ja];cases oH:jr p !=0;rotate_left
 ·have eQ:jr p≠0:=by simpa using oH
  have hc:jdA y id p=jr p:=by unfold jdA;rw [if_neg (by simp [aC]),if_neg (by omega),if_neg (by omega),if_pos eQ]
  have hy:jcL y id p=y:=by rw [jcL,if_neg (by rw [hc];exact eQ)]
  simp only [go_sem,jb,ja,oH];refine jx (qp p hp) λη=>?_
  simp only [go_sem,jb,ja];rw [hc,hy];refine qm _ _ _ _ _ ?_;simp only [go_sem,jb,ja]
 have eQ:jr p=0:=by simpa using oH
 simp only [go_sem,jb,ja,oH];refine jx (jk5 y p ht) λη=>?_
 simp only [go_sem,jb,ja];cases m9:zJ y p
 ·have hc:jdA y id p=7:=by unfold jdA;rw [if_neg (by simp [aC]),if_neg (by omega),if_neg (by omega),if_neg (by simp [eQ]),if_pos m9]
  have hy:jcL y id p=y:=by simp [jcL,hc]
  simp only [go_sem,jb,ja,m9,hc,hy];refine qm _ _ _ _ _ ?_;simp only [go_sem,jb,ja]
 have hc:jdA y id p=0:=by unfold jdA;rw [if_neg (by simp [aC]),if_neg (by omega),if_neg (by omega),if_neg (by simp [eQ]),if_neg (by simp [m9])]
 rw [hc,jcL,if_pos hc];simp only [go_sem,jb,ja,m9];refine jx (jmX id p tS eQ) λdL=>?_
 simp only [go_sem,jb,ja,jc];intro b9;refine qa ?_;obtain ⟨r,hr⟩:∃r,jM id p=r:=⟨_,rfl⟩;have uT:r.id=id:=by rw [<-hr];rfl
 refine WkK.wk (s':=St.of [(6,Bx 600 b6),(8,Bx 800 b8),(9,Bx 900 b9)] [(600,ZYd b6 _),(800,ka b8 _ y.now y.seq y.aLU (bC 2) y.aLX (bC 3)),(900,ja1 b9 _ r (dL 5) (dL 7))]) (jy [600,800,900] (by simp only [go_sem,jb,ja,jc,hr]<;>trivial)) ?_
 refine qY 900 5 901 (d:=jv r.aLW.aLY) (η:=dL 5) (by simp only [go_sem]) (by simp only [go_sem]) (by decide) λsX=>?_
 refine qY 900 7 902 (d:=jC r.aLT) (η:=dL 7) (by simp only [go_sem]) (by simp only [go_sem]) (by decide) λsW=>?_
 refine WkK.of ?_;generalize dL 5=bP at*;generalize dL 7=bF at*;simp only [go_sem,sX,sW];have m1:y.aLX.length+1<=maxLen:=by unfold maxLen;have:=(yard_iff.1 aC).eight;omega
 have m2:(y.aLX.length+1)*96<=140737488355328:=by have:=(yard_iff.1 aC).eight;omega
 intro aAA;refine jqI (λfB=>St.of [(6,Bx 600 b6),(8,Bx 800 b8),(9,Bx 900 b9)] [(600,ZYd b6 tYd),(800,vu b8 tYd y.now y.seq y.aLU (bC 2) (.sl 8 tRn (y.aLX.flatMap jc++rnH r (bP []) (bF []))) fB),(900,jpw b9 tRn r (bP []) (bF [])),(901,.loose (jv r.aLW.aLY) bP),(902,.loose (jC r.aLT) bF)]) m1 m2 ?_ (λfB=>jy [600,800,900,901,902]) (λfB=>jy [600,800,900,901,902]) ?_
 ·simp only [jjX _ sX,jjX _ sW,jjY];rfl
 intro fB;rw [hr];generalize mU:D.sl 8 tRn (y.aLX.flatMap jc++rnH r (bP []) (bF []))=dR;refine ve 900 5 901 (d:=jv r.aLW.aLY) (η:=bP) rfl rfl rfl ?_;refine ve 900 7 902 (d:=jC r.aLT) (η:=bF) rfl rfl rfl ?_;refine WkK.wk (s':=St.of [(6,Bx 600 b6),(8,Bx 800 b8),(9,Bx 900 b9)] [(600,ZYd b6 _),(800,vu b8 _ y.now y.seq y.aLU (bC 2) dR fB),(900,ja1 b9 _ r bP bF)]) (jy [600,800,900] (by simp only [go_sem,jb,ja,jc]<;>trivial)) ?_
 refine WkK.of ?_;obtain ⟨t0,yS,-,cC,-⟩:=jcH eQ;have uS:r.aLT.length<=12:=by rw [<-hr,jM,jaO];omega
 simp only [go_sem,jb,ja,jc];refine jx (qC r 2 (by omega)) λsP=>?_
 simp only [go_sem,ja,jc];refine qe (qv (β:=7000000) Tryz.func111 jc9 (by simp) ?_)
 unfold jdp;simp only [go_sem,ja,jc];intro b74;refine jx (jei r.id) λη=>?_
 simp only [go_sem];obtain ⟨eU,pV⟩:=jzw r.id;rw [eU];have uF:jtc ⟨y.now,y.seq,y.aLU,y.aLX++[r]⟩ r (qQ 2 r.aLT)=⟨y.now,(zl r.aLW.aMC r.id (qQ 2 r.aLT) ((y.aLU[shN r.id]?).getD default,y.seq)).2,y.aLU.set (shN r.id) (zl r.aLW.aMC r.id (qQ 2 r.aLT) ((y.aLU[shN r.id]?).getD default,y.seq)).1,y.aLX++[r]⟩:=rfl;rw [uF];generalize shN r.id=n at*;have h4:=(yard_iff.1 aC).four;have hq:=(yard_iff.1 aC).seq;have hn:n<y.aLU.length:=by omega
 have fM:=qT n;obtain ⟨l,hl⟩:=jd hn;have eV:=zp ht (aMJ hl);rw [hl,aMM];have hil:(qQ 2 r.aLT).length<=12:=aNX (vx _ _ _) uS;generalize qQ 2 r.aLT=ids at*;refine vo (λi:Nat×jm=>St.of [(0,Bx 800 b8),(4,Bx 4 b74),(6,Ni n),(12,Hd 56 (sP 0)),(13,Ni ids.length),(14,Ni i.1)] [(600,ZYd b6 _),(800,vu b8 _ y.now (zl r.aLW.aMC r.id (ids.take i.1) (l,y.seq)).2 (y.aLU.set n (zl r.aLW.aMC r.id (ids.take i.1) (l,y.seq)).1) i.2 dR fB),(4,ja1 b74 _ r bP bF),(56,.loose (je ids) (sP 0))]) (λi=>i.1<=ids.length) (λi=>ids.length-i.1) (0,bC 2) (jy [600,800,700000400,5600] (by simp only [go_sem,jb,ja,jc,aNM,jfS,jaw hl]<;>trivial)) ?_
 rintro ⟨k,η⟩ hk;dsimp only at hk;have rW:=zY r.aLW.aMC r.id (ids.take k) (l,y.seq);have cX:=jdQ r.aLW.aMC r.id (ids.take k) (l,y.seq);have gX:(ids.take k).length=k:=by rw [aMP];omega
 dsimp only at rW cX;by_cases aB:k<ids.length
 ·have aA:(k:Int)<ids.length:=by omega
  have bD:=qT k;obtain ⟨x,hx⟩:=jd aB;have eG:=jfR r.aLW.aMC r.id (ids.take k) x (l,y.seq);have cQ:ids.take (k+1)=ids.take k++[x]:=by rw [aMT,hx];rfl
  rw [<-cQ] at eG;have hw:=kX k;have bS:IntKind.i64.wrap ((zl r.aLW.aMC r.id (ids.take k) (l,y.seq)).2+1)=(zl r.aLW.aMC r.id (ids.take k) (l,y.seq)).2+1:=zy;generalize u7:zl r.aLW.aMC r.id (ids.take k) (l,y.seq)=P at*;obtain ⟨sh,fH⟩:∃s,y.aLU.set n P.1=s:=⟨_,rfl⟩;have iZ:sh[n]?=some P.1:=by rw [<-fH];exact aML hn
  have gH:n<sh.length:=by rw [<-fH,aMU];exact hn
  have gQ:∀L,sh.set n L=y.aLU.set n L:=λL=>by rw [<-fH,aNP]
  have gJ:n+1<=(sh.flatMap λes=>[ji es]).length:=by have:=jbf gH;rwa [aMZ] at this
  have gE:((sh.flatMap λes=>[ji es]).drop n).take 1=[ji P.1]:=by have:=jcd iZ;rwa [aMZ] at this
  have iJ:k+1<=(ids.flatMap λn=>[iv n]).length:=by have:=jf aB;rwa [aMZ] at this
  have lA:((ids.flatMap λn=>[iv n]).drop k).take 1=[iv x]:=by have:=jg hx;rwa [aMZ] at this
  rw [fH];simp only [go_sem,ja,jc,aA,bD,aB,lA,iJ,aMX,gH,aMZ,gE,gJ,fM];refine jn (jaN P.1 ⟨r.aLW.aMC,P.2,r.id,x⟩ (by omega)) (by simp only [go_sem,jh,kn iZ]) λrR=>?_
  simp only [go_sem,jh,kn iZ];simp only [go_sem,gH,aMZ,gJ,gE,fM,jaI,bS,hw,gQ,aMX];refine λaH hη'=>?_
  exact ql (k+1,aH) (jy [600,800,4,56] (by simp only [go_sem,jb,ja,jc,eG]<;>trivial))
 obtain rfl:k=ids.length:=by omega
 have aA:¬((ids.length:Nat):Int)<ids.length:=by omega
 rw [aOI];generalize zl r.aLW.aMC r.id ids (l,y.seq)=P at*;simp only [go_sem,aA,ja,jc];refine qa ?_;subst mU;refine WkK.wk (s':=St.of [(6,Bx 600 b6),(7,Ni 0)] [(600,vu b6 _ y.now P.2 (y.aLU.set n P.1) η (.sl 8 tRn (y.aLX.flatMap jc++rnH r (bP []) (bF []))) fB),(5,ja1 b74 _ r bP bF)]) (jy [600,4] (by simp only [go_sem,ja,jc]<;>trivial)) ?_
 refine qY 5 5 901 (d:=jv r.aLW.aLY) (η:=bP) rfl rfl (by decide) λ_=>?_
 refine qY 5 7 902 (d:=jC r.aLT) (η:=bF) rfl rfl (by decide) λ_=>?_
 refine qI 600 3 (y.aLX.length*8+5) 901 (η:=fB) (aV:=bP) (cs:=r.aLW.aLY.flatMap jR) rfl (jq9 _ _ 5) (.inr rfl) rfl (by decide) λeP _=>?_
 rw [jmG];refine qI 600 3 (y.aLX.length*8+7) 902 (η:=eP) (aV:=bF) (cs:=r.aLT.flatMap jk) rfl (jq9 _ _ 7) (.inr rfl) rfl (by decide) λi9 _=>?_
 rw [jmG];refine WkK.of ?_;have bX:(List.set (List.set (rnH r (bP []) (bF [])) 5 (.sl 2 tEd (r.aLW.aLY.flatMap jR))) 7 (.sl 4 tTk (r.aLT.flatMap jk)))=jc r:=rfl;rw [bX,jn6];refine qm _ _ _ _ _ ?_;simp only [go_sem,jb]
theorem qB {α:Type} {f:α->Nat} (v:α):∀{l:List α} {k:Nat} {x:α},l[k]?=some x->qN f (l.set k v)+f x=qN f l+f v
 |[],_,_,h=>by simp at h
 |y::l,0,x,h=>by
  simp at h;subst h;simp only [qN,List.set_cons_zero,aNQ,aOW];omega
 |y::l,k+1,x,h=>by
  have:=qB (f:=f) v (l:=l) (k:=k) (by simpa using h)
  simp only [qN,List.set_cons_succ,aNQ,aOW] at this⊢;omega
theorem jt1 {y:Yd} {r:Rn} {ids:List Int}:jt (jtc y r ids)<=jt y+ids.length:=by
 have h4:∀l:List En,zc l=l.length:=λ_=>rfl
 cases h:y.aLU[shN r.id]? with
 |none=>
  have:y.aLU.set (shN r.id) (zl r.aLW.aMC r.id ids ((y.aLU[shN r.id]?).getD default,y.seq)).1=y.aLU:=List.set_eq_of_length_le (aPB.1 h);simp only [jt,jby,jtc,this];omega
 |some l=>
  have h1:=jdQ r.aLW.aMC r.id ids ((y.aLU[shN r.id]?).getD default,y.seq);have h2:=qB (f:=zc) (zl r.aLW.aMC r.id ids ((y.aLU[shN r.id]?).getD default,y.seq)).1 h;simp only [jt,jby,jtc,aMU] at*;rw [h4,h4] at h2;rw [h,aMM] at*;omega
def C.sub:List Nat->C->C
 |[],c=>c
 |0::p,.seq a _=>a.sub p
 |_::p,.seq _ b=>b.sub p
 |0::p,.cond _ a _=>a.sub p
 |_::p,.cond _ _ b=>b.sub p
 |_::p,.blk _ a=>a.sub p
 |_::p,.loop a=>a.sub p
 |_,c=>c
section
variable {s:St}
def resT (s:St) (rs:List R) (K:List (Bool×List A0)->Prop):AV->Prop
 |.agg l=>jis s rs λps=>K ((true,l)::ps)
 |.c a=>jis s rs λps=>K ((false,[a])::ps)
 |_=>False
def resC (s:St) (agg:Bool) (size:Nat) (rs:List R) (K:List (Bool×List A0)->Prop):AV->Prop
 |.c (.bp g c b)=>ldB (s.o g) g c b size λl=>(agg=true\/l.length=1)/\jis s rs λps=>K ((agg,l)::ps)
 |_=>False
theorem vA (rs:List R) (rt:RT):jyu rs rt s=jis s rs λps=>ja0 rt ps/\qM s (ps.flatMap (·.2)) λcs _=>IsD cs rt.flat:=rfl
theorem jV (K:List (Bool×List A0)->Prop):jis s [] K=K []:=rfl
theorem jlJ (n:Nat) (rs:List R) (K:List (Bool×List A0)->Prop):jis s (.t n::rs) K=resT s rs K (s.t n):=by
 simp only [jis,resT];split<;>simp_all
theorem jlI (rs:List R) (K:List (Bool×List A0)->Prop) (a:A0):resT s rs K (.c a)=jis s rs λps=>K ((false,[a])::ps):=rfl
theorem jD (agg:Bool) (size:Nat) (rs:List R) (K:List (Bool×List A0)->Prop) (g c b:Nat):resC s agg size rs K (.c (.bp g c b))=ldB (s.o g) g c b size λl=>(agg=true\/l.length=1)/\jis s rs λps=>K ((agg,l)::ps):=rfl
theorem jp (n:Nat) (agg:Bool) (size:Nat) (rs:List R) (K:List (Bool×List A0)->Prop) (h:resC s agg size rs K (s.t n)):jis s (.cell n agg size::rs) K:=by
 unfold resC at h;split at h
 ·rename_i g c b he
  simp only [ldB] at h;split at h
  ·rename_i b' ty cs ho
   obtain ⟨e1,e2,e3,e4⟩:=h;subst e1;simp only [jis,he];exact ⟨_,⟨ty,cs,ho,e2,rfl⟩,e3,e4⟩
  ·exact h.elim
 ·exact h.elim
theorem jL (l:List (Bool×List D)) (ps:List (Bool×List A0)):ja0 (.tup l) ps=(ps.length≠1/\ps.map (λp=>(p.1,p.2.length))=l.map (λp=>(p.1,p.2.length))):=rfl
end
def vf (l:List En):List En:=l.take ((l.length+1)/2)
def jaS (l:List En):List En:=l.drop ((l.length+1)/2)
def jgG:C:=iS [iA 2 (.mov (.c (.slice none 0 0))),iA 3 (.mov (.c (.slice none 0 0)))] (iS [aM 5 0,aG 6 5,aQ 7 .add 3 6 1,aQ 8 .quo 3 7 2,aM 4 8] (.seq (.dreg (tA 1 10 (iM 0) (tA 2 11 (iM 4) (tA 3 12 (.sl 4 (.t 10) none (some (.t 11))) (tA 6 15 (iM 0) (tA 7 16 (iM 4) (tA 8 17 (.sl 4 (.t 15) (some (.t 16)) none) (tC 9 (wAX []) [8,7,6,3,2,1] (tC 13 (wA2 9 12) [8,7,6] (tC 14 (wAX []) [8,7,6,3,2,1] (tC 18 (wA2 14 17) [] (tA 10 2 (iM 13) (tA 11 3 (iM 18) .done)) .stop) .stop) (tC 14 (wAX []) [8,7,6,3,2,1] (tC 13 (wA2 9 12) [8,7,6] (tC 18 (wA2 14 17) [] (tA 10 2 (iM 13) (tA 11 3 (iM 18) .done)) .stop) .stop) .stop)) (tC 14 (wAX []) [8,7,6,3,2,1] (tC 9 (wAX []) [8,7,6,3,2,1] (tC 13 (wA2 9 12) [8,7,6] (tC 18 (wA2 14 17) [] (tA 10 2 (iM 13) (tA 11 3 (iM 18) .done)) .stop) .stop) .stop) .stop))))))))) .ret))
theorem jiL:fnC Tryz.prog Tryz.f70=some (jgG,[.t 2,.t 3],19):=by kernel_rfl
def jgV:C:=iS [iA 2 (.mov (.c (.slice none 0 0))),iA 3 (.mov (.c (.slice none 0 0)))] (iS [aM 5 0,aG 6 5,aQ 7 .add 3 6 1,aQ 8 .quo 3 7 2,aM 4 8] (.seq (.dreg (tA 0 9 (iM 0) (tA 1 10 (iM 4) (tA 2 11 (.sl 4 (.t 9) none (some (.t 10))) (tA 4 13 (iM 0) (tA 5 14 (iM 4) (tA 6 15 (.sl 4 (.t 13) (some (.t 14)) none) (tC 12 (iK 126 [11]) [6,5,4] (tC 16 (iK 126 [15]) [] (tA 8 2 (iM 12) (tA 9 3 (iM 16) .done)) .stop) .stop)))))))) .ret))
theorem ji0:fnC Tryz.prog Tryz.f63=some (jgV,[.t 2,.t 3],17):=by kernel_rfl
theorem jmP (l:List En) (hl:l.length<=4000000):kg Tryz.prog 70 [.c (ji l)] (.tup [(false,[ji (vf l)]),(false,[ji (jaS l)])]):=by
 refine pf_ jiL ?_;unfold jgG;have hw:IntKind.i64.wrap ((l.length:Int)+1)=(l.length:Int)+1:=zy
 have hq:IntKind.i64.wrap (((l.length:Int)+1).tdiv 2)=(((l.length+1)/2:Nat):Int):=by
  rw [Int.tdiv_eq_ediv_of_nonneg (by omega)];exact qE (by omega) (by omega)|>.trans (by omega)
 have hn:(l.length+1)/2<=l.length\/l.length=0:=by omega
 have rC:(l.length+1)/2<=l.length:=by omega
 unfold vf jaS;generalize (l.length+1)/2=n at*;have fM:=qT n;have m1:(l.take n).length<=maxLen:=by unfold maxLen;rw [aMP];omega
 have m2:(l.take n).length*32<=140737488355328:=by rw [aMP];omega
 have m3:(l.drop n).length<=maxLen:=by unfold maxLen;rw [aND];omega
 have m4:(l.drop n).length*32<=140737488355328:=by rw [aND];omega
 have mZ:(l.drop n).take (l.length-n)=l.drop n:=aMO (by rw [aND];omega)
 simp only [go_sem,hw,hq,rC,fM,aMV,mZ,m1,m2,m3,m4,ko];simp only [go_sem,vA,jlJ,jlI,jV,jL]
theorem jm0 (l:List En) (hl:l.length<=4000000):kg Tryz.prog 63 [.c (ji l)] (.tup [(false,[ji (vf l)]),(false,[ji (jaS l)])]):=by
 refine pf_ ji0 ?_;unfold jgV;have hw:IntKind.i64.wrap ((l.length:Int)+1)=(l.length:Int)+1:=zy
 have hq:IntKind.i64.wrap (((l.length:Int)+1).tdiv 2)=(((l.length+1)/2:Nat):Int):=by
  rw [Int.tdiv_eq_ediv_of_nonneg (by omega)];exact qE (by omega) (by omega)|>.trans (by omega)
 have rC:(l.length+1)/2<=l.length:=by omega
 unfold vf jaS;generalize (l.length+1)/2=n at*;have fM:=qT n;have mZ:(l.drop n).take (l.length-n)=l.drop n:=aMO (by rw [aND];omega)
 simp only [go_sem,hw,hq,rC,fM,aMV,mZ];refine jn (ki (l.take n) (by rw [aMP];omega)) (by simp only [go_sem,aMV,mZ]) λbH=>?_
 simp only [go_sem,aMV,mZ];refine jn (ki (l.drop n) (by rw [aND];omega)) (by simp only [go_sem,aMV,mZ]) λcH=>?_
 simp only [go_sem,aMV,mZ];simp only [go_sem,vA,jlJ,jlI,jV,jL]
def qb (a b:List En):List En:=if a.length+b.length>80 then a else b.foldl jch a
theorem jjg:∀(b a:List En),(b.foldl jch a).length=a.length+b.length
 |[],a=>by simp
 |e::b,a=>by rw [aPC,jjg b,jrf,aNG];omega
theorem js8 (a b:List En):(qb a b).length<=a.length+b.length:=by
 unfold qb;split
 ·omega
 ·rw [jjg];exact aMV _
theorem job {b:List En} {k:Nat} {e:En} (h:b[k]?=some e) (a:List En):(b.take (k+1)).foldl jch a=jch ((b.take k).foldl jch a) e:=by
 rw [aMT,h];simp
def jgE:C:=iS [iA 4 (.mov (.c (.slice none 0 0)))] (iS [iA 7 (wAX []),aM 8 0,iA 9 (wA2 7 8),aM 5 9] (.seq (iS [aM 10 0,aG 11 10,aM 12 1,aG 13 12,aP 14 .add 3 11 13,aQ 15 .gtr 3 14 80] (iD 15 (iS [aM 16 5,aM 4 16] .ret) .skip)) (.seq (iS [aN 6 0] (.blk 0 (.loop (.seq (iS [aM 17 6,aM 18 1,aG 19 18,aP 20 .lss 3 17 19] (iD 20 .skip (.exit 0))) (.seq (.blk 1 (.reg [aM 23 5,aM 24 1,aM 25 6,aI 26 4 24 25,aT 27 4 26,iA 28 (iK 135 [23,27]),aM 5 28])) (.reg [aM 21 6,aQ 22 .add 3 21 1,aM 6 22])))))) (iS [aM 29 5,aM 4 29] .ret))))
theorem jiJ:fnC Tryz.prog Tryz.f71=some (jgE,[.t 4],30):=by kernel_rfl
def jgT:C:=iS [iA 4 (.mov (.c (.slice none 0 0)))] (iS [aM 8 0,iA 9 (iK 126 [8]),aM 5 9] (.seq (iS [aM 10 0,aG 11 10,aM 12 1,aG 13 12,aP 14 .add 3 11 13,aQ 15 .gtr 3 14 80] (iD 15 (iS [aM 16 5,aM 4 16] .ret) .skip)) (.seq (iS [aM 17 1,aG 18 17,aN 19 0] (.blk 0 (.loop (iS [aP 20 .lss 3 19 18] (.seq (iD 20 .skip (.exit 0)) (.seq (.blk 1 (iS [aI 21 4 17 19,aT 22 4 21,iA 7 wAP,wAB 7 22] (.reg [aM 23 5,aT 24 4 7,iA 25 (iK 128 [23,24]),aM 5 25]))) (.reg [aQ 26 .add 3 19 1,aM 19 26]))))))) (iS [aM 27 5,aM 4 27] .ret))))
theorem jiY:fnC Tryz.prog Tryz.f64=some (jgT,[.t 4],28):=by kernel_rfl
theorem jmN (a b:List En) (hl:a.length+b.length<=4000000):kg Tryz.prog 71 [.c (ji a),.c (ji b)] (.c (ji (qb a b))):=by
 refine pf_ jiJ ?_;unfold jgE;have m1:a.length<=maxLen:=by unfold maxLen;omega
 have m2:a.length*32<=140737488355328:=by omega
 have hw:IntKind.i64.wrap ((a.length:Int)+b.length)=((a.length+b.length:Nat):Int):=by rw [qE (by omega) (by omega)];omega
 simp only [go_sem,m1,m2,ko];intro fG dB;by_cases g9:a.length+b.length>80
 ·have l6:((a.length+b.length:Nat):Int)>80:=by omega
  have e:qb a b=a:=if_pos g9;simp only [go_sem,hw,l6,e,ko]
 have l6:¬((a.length+b.length:Nat):Int)>80:=by omega
 have e:qb a b=b.foldl jch a:=if_neg g9;simp only [go_sem,hw,l6];refine vo (λi:Nat×jm=>St.of [(1,Ro (ji b)),(5,Hd 5 i.2),(6,Ni i.1)] [(5,.loose (ji ((b.take i.1).foldl jch a)) i.2)]) (λi=>i.1<=b.length) (λi=>b.length-i.1) (0,dB) (jy [900] (by simp only [go_sem,aNM,List.foldl_nil,ko]<;>trivial)) ?_
 rintro ⟨k,η⟩ hk;dsimp only at hk;by_cases aB:k<b.length
 ·have aA:(k:Int)<b.length:=by omega
  have bD:=qT k;obtain ⟨x,hx⟩:=jd aB;have gF:=kX k;have cQ:=job hx a;have hln:=jjg (b.take k) a;rw [aMP] at hln;generalize (b.take k).foldl jch a=L at*;simp only [go_sem,aA,aB,bD,jH hx,jh];refine jx (jaK L x (by omega)) λrR=>?_
  simp only [go_sem,jh];simp only [go_sem,gF];exact ql (k+1,rR 0) (jy [2800] (by simp only [go_sem,cQ]<;>trivial))
 have aA:¬(k:Int)<b.length:=by omega
 rw [aMO (by omega),e]
 simp only [go_sem,aA]
theorem jmY (a b:List En) (hl:a.length+b.length<=4000000):kg Tryz.prog 64 [.c (ji a),.c (ji b)] (.c (ji (qb a b))):=by
 refine pf_ jiY ?_;unfold jgT;have hw:IntKind.i64.wrap ((a.length:Int)+b.length)=((a.length+b.length:Nat):Int):=by rw [qE (by omega) (by omega)];omega
 simp only [go_sem];refine jx (ki a (by omega)) λbH=>?_
 simp only [go_sem];by_cases g9:a.length+b.length>80
 ·have l6:((a.length+b.length:Nat):Int)>80:=by omega
  have e:qb a b=a:=if_pos g9;simp only [go_sem,hw,l6,e]
 have l6:¬((a.length+b.length:Nat):Int)>80:=by omega
 have e:qb a b=b.foldl jch a:=if_neg g9;simp only [go_sem,hw,l6];refine vo (λi:Nat×jm=>St.of [(5,Hd 5 i.2),(17,Ro (ji b)),(18,Ni b.length),(19,Ni i.1)] [(5,.loose (ji ((b.take i.1).foldl jch a)) i.2)]) (λi=>i.1<=b.length) (λi=>b.length-i.1) (0,bH 0) (jy [900] (by simp only [go_sem,aNM,List.foldl_nil]<;>trivial)) ?_
 rintro ⟨k,η⟩ hk;dsimp only at hk;by_cases aB:k<b.length
 ·have aA:(k:Int)<b.length:=by omega
  have bD:=qT k;obtain ⟨x,hx⟩:=jd aB;have gF:=kX k;have cQ:=job hx a;have hln:=jjg (b.take k) a;rw [aMP] at hln;generalize (b.take k).foldl jch a=L at*;simp only [go_sem,aA,aB,bD,jH hx,jh];intro b7;refine jx (jaN L x (by omega)) λrR=>?_
  simp only [go_sem,jh];simp only [go_sem,gF];exact ql (k+1,rR 0) (jy [2500] (by simp only [go_sem,cQ]<;>trivial))
 have aA:¬(k:Int)<b.length:=by omega
 rw [aMO (by omega),e]
 simp only [go_sem,aA]
def jqS (l:List En):En:=l.headD ⟨0,0,0,0⟩
def jfB (l:List En):Bool:=!l.isEmpty
def jcs:C:=iS [iA 2 wAP,iA 3 (.mov (.c (.slice none 0 0))),aO 4 false] (.seq (iS [aM 5 0,aG 6 5,aQ 7 .eql 3 6 0] (iD 7 (iS [iA 8 (wAS []),iA 9 (wAX []),wAB 2 8,aM 3 9,aO 4 false] .ret) .skip)) (.seq (.dreg (tA 0 10 (iM 0) (tA 1 11 (.ia 4 (.t 10) (oI 0)) (tA 2 12 (iT 4 11) (tA 4 14 (iM 0) (tA 5 15 (.sl 4 (.t 14) (some (oI 1)) none) (tC 13 (wAX []) [5,4,2,1,0] (tC 16 (wA2 13 15) [2,1,0] (.alt (wAB 2 12) [] (tA 8 3 (iM 16) (tA 9 4 (iO true) .done)) .stop) .stop) .stop))))))) .ret))
theorem jfg:fnC Tryz.prog Tryz.f72=some (jcs,[.cell 2 true 4,.t 3,.t 4],17):=by kernel_rfl
def jcz:C:=iS [iA 2 wAP,iA 3 (.mov (.c (.slice none 0 0))),aO 4 false] (.seq (iS [aM 5 0,aG 6 5,aQ 7 .eql 3 6 0] (iD 7 (iS [iA 8 (wAS []),wAB 2 8,iA 3 (.mov (.c (.slice none 0 0))),aO 4 false] .ret) .skip)) (.seq (.dreg (tA 0 9 (iM 0) (tA 1 10 (.ia 4 (.t 9) (oI 0)) (tA 2 11 (iT 4 10) (tA 3 12 (iM 0) (tA 4 13 (.sl 4 (.t 12) (some (oI 1)) none) (tC 14 (iK 126 [13]) [2,1,0] (.alt (wAB 2 11) [] (tA 7 3 (iM 14) (tA 8 4 (iO true) .done)) .stop) .stop))))))) .ret))
theorem jfn:fnC Tryz.prog Tryz.f65=some (jcz,[.cell 2 true 4,.t 3,.t 4],15):=by kernel_rfl
theorem jcj (l:List En) (hl:l.length<=4000000):kg Tryz.prog 72 [.c (ji l)] (.tup [(true,jh (jqS l)),(false,[ji l.tail]),(false,[.val (.bool (jfB l))])]):=by
 refine pf_ jfg ?_;unfold jcs;cases l with
 |nil=>
  simp only [go_sem,jh,jqS,jfB,List.headD_nil,List.isEmpty_nil,List.tail_nil];intro b2 fG;simp only [vA];refine jp _ _ _ _ _ ?_;simp only [go_sem,jD,jlJ,jlI,jV,jL,true_or,jdJ]
 |cons x l=>
  have cX:l.length<=4000000:=by rw [aNG] at hl;omega
  have h0:(x::l)[0]?=some x:=rfl;have h1:(((l.length+1:Nat):Int)==0)=false:=by simp only [beq_eq_false_iff_ne,ne_eq];omega
  have h2:1<=l.length+1:=by omega
  have h3:0<l.length+1:=by omega
  have m1:l.length<=maxLen:=by unfold maxLen;omega
  have m2:l.length*32<=140737488355328:=by omega
  have hd:List.take l.length l=l:=aOI;simp only [go_sem,jh,jqS,jfB,List.headD_cons,List.isEmpty_cons,List.tail_cons,h1];intro b2;simp only [go_sem,h2,h3,jH h0,jh,hd,aMV,m1,m2,ko,Nat.add_sub_cancel];intro η dB;simp only [vA];refine jp _ _ _ _ _ ?_;simp only [go_sem,jD,jlJ,jlI,jV,jL,true_or]
def jqX (ts:List Tk) (t:Nat) (x:Tk) (til:Int):List Tk:=ts.set t ⟨3,x.aME,IntKind.i64.wrap (x.tri+1),til⟩
def kD (r:Rn) (t:Nat) (x:Tk) (now:Int):Rn:=⟨r.id,r.aLW,r.aLV,jqX r.aLT t x (IntKind.i64.wrap (now+r.aLW.aMF))⟩
def jbR:C:=iS [iA 3 (.box 52 8 (.t 0)),iA 6 wAL] (iS [aT 9 8 3,iA 10 (iK 133 [9]),iA 7 wAL,wAC 7 10] (iS [aF 11 7 7,aL 12 11,aM 13 1,aI 14 4 12 13,aT 15 4 14,iA 8 wAN,wAB 8 15] (iS [aF 16 0 8,iC (.st 1 [none] (.t 16) (oI 3))] (iS [aF 17 2 8,aL 18 17,aQ 19 .add 3 18 1,aF 20 2 8,wAD 20 19] (iS [aM 21 2,aF 22 1 3,aF 23 2 22,aL 24 23,aP 25 .add 3 21 24,aF 26 3 8,wAD 26 25] (iS [aF 27 7 7,aL 28 27,aM 29 1,aT 30 4 8,aI 31 4 28 29,wAB 31 30] (iS [aT 32 8 7,wAC 6 32] .ret)))))))
theorem jd1:fnC Tryz.prog Tryz.f73=some (jbR,[.cell 6 true 8],33):=by kernel_rfl
theorem jhi (r:Rn) (t:Nat) (x:Tk) (now:Int) (hx:r.aLT[t]?=some x) (cR:r.aLW.aLY.length<=4000000) (ht:r.aLT.length<=4000000):kg Tryz.prog 73 [.agg (jc r),.c (.val (.int .i64 t)),.c (.val (.int .i64 now))] (.agg (jc (kD r t x now))):=by
 refine pf_ jd1 ?_;unfold jbR;have cP:=(aMI.1 hx).1;have eY:=qT t;simp only [go_sem,jc,ja];intro b3 b6;refine jx (vM r cR ht) λbC=>?_
 simp only [go_sem,jc,ja];intro b7;simp only [go_sem,aMX,cP,eY,jtG hx,jix hx,jk,kD,jqX,jb2 3 x.aME (IntKind.i64.wrap (x.tri+1)) (IntKind.i64.wrap (now+r.aLW.aMF)) cP]
