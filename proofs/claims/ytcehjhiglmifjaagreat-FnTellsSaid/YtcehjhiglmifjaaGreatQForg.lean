/- Parts. -/
import Derived.Test.YtcehjhiglmifjaaGreatQPoll
import Derived.Test.YtcehjhiglmifjaaGreatQTurnS
set_option linter.all false
set_option maxHeartbeats 16000000
set_option maxRecDepth 100000
namespace Go.Proofs.YtcehjhiglmifjaaGreat
open Go.RowKit Go.Sort
def jbs (id:Int) (e:En):Bool:=e.run !=id
noncomputable def zj (y:Yd) (id:Int):Int:=if jw y=false then 8 else if runAt y id<0 then 10 else if ((y.aLX[(runAt y id).toNat]?).getD default).aLV=1 then 13 else 0
noncomputable def vH (y:Yd) (id:Int):Yd:=if zj y id=0 then ⟨y.now,y.seq,y.aLU.map (λl=>l.filter (jbs id)),y.aLX.eraseIdx (runAt y id).toNat⟩ else y
def jdV {α:Type} (f:α->α) (l:List α) (i:Nat):List α:=(l.take i).map f++l.drop i
section
variable {α:Type} {f:α->α} {l:List α} {i:Nat} {x:α}
theorem jvh:jdV f l 0=l:=rfl
theorem jox:(jdV f l i).length=l.length:=by
 simp only [jdV,aMR,aNT,aMP,aND];omega
theorem joz:jdV f l l.length=l.map f:=by simp [jdV]
theorem joy (h:l[i]?=some x):(jdV f l i)[i]?=some x:=by
 have hi:=(aMI.1 h).1;have hl:((l.take i).map f).length=i:=by rw [aNT,aMP];omega
 rw [jdV,aOA (by omega),hl,Nat.sub_self,aOF,aMX,h]
theorem jow (h:l[i]?=some x):(jdV f l i).set i (f x)=jdV f l (i+1):=by
 have hi:=(aMI.1 h).1;have hl:((l.take i).map f).length=i:=by rw [aNT,aMP];omega
 have hx:l[i]=x:=by rw [aMK hi] at h;exact aMW h
 rw [jdV,aPO _ _ (by omega),hl,Nat.sub_self,aOC hi,List.set_cons_zero,jdV,aMT,h]
 simp
end
theorem jvO {l:List En} {k:Nat} {e:En} (p:En->Bool) (h:l[k]?=some e):(l.take (k+1)).filter p=(l.take k).filter p++(if p e then [e] else []):=by
 rw [aMT,h,aOV];cases hp:p e<;>simp [hp]
section
variable {l:List En} {k:Nat} {x:En}
theorem jzd (hx:l[k]?=some x):((l.flatMap jh).drop (k*4+2)).take 1=[.val (.int .i64 x.run)]:=qA (enc:=jh) (size:=4) (λ_=>rfl) hx (j:=2) (n:=1) (by decide)
theorem jyW (hx:l[k]?=some x):k*4+2+1<=(l.flatMap jh).length:=qG (enc:=jh) (size:=4) (λ_=>rfl) hx (j:=2) (n:=1) (by decide)
end
section
variable {sh:List (List En)} {n:Nat} {l:List En}
theorem jrC (h:n<sh.length):n+1<=(sh.flatMap λes=>[ji es]).length:=by have:=jbf h;rwa [aMZ] at this
theorem jr7 (h:sh[n]?=some l):((sh.flatMap λes=>[ji es]).drop n).take 1=[ji l]:=by have:=jcd h;rwa [aMZ] at this
end
theorem jkc {rows:List D} (h:jZ rows=true) (n m:Nat):jZ (rows.take n)=true/\jZ (rows.drop m)=true:=by
 have e1:jZ (rows.take n++rows.drop n)=true:=by rw [aNW];exact h
 have e2:jZ (rows.take m++rows.drop m)=true:=by rw [aNW];exact h
 rw [vR,aMY] at e1 e2;exact ⟨e1.1,e2.2⟩
def jgH:C:=iS [iA 2 (.box 27 4 (.t 0)),iA 4 wAK,aN 5 0] (iS [aT 11 4 2,iA 12 (iK 67 [11]),iA 6 wAK,wAA 6 12] (iS [aT 13 4 2,aM 14 1,iA 15 (iK 26 [13,14]),aM 7 15] (.seq (.blk 0 (iS [aT 17 4 2,iA 18 (iK 66 [17]),aU 19 18,aM 16 19] (iD 16 (iS [aT 20 4 6,wAA 4 20,aN 5 8] .ret) (iS [aM 22 7,aQ 23 .lss 3 22 0,aM 21 23] (iD 21 (iS [aT 24 4 6,wAA 4 24,aN 5 10] .ret) (iS [aF 26 3 2,aL 27 26,aM 28 7,aI 29 8 27 28,aF 30 6 29,aL 31 30,aQ 32 .eql 3 31 1,aM 25 32] (iD 25 (iS [aT 33 4 6,wAA 4 33,aN 5 13] .ret) .skip))))))) (.seq (.dreg (tA 1 35 (iF 3 6) (tA 2 36 (iL 35) (tA 3 37 (iM 7) (tA 4 38 (.sl 8 (.t 36) none (some (.t 37))) (tA 6 40 (iF 3 6) (tA 7 41 (iL 40) (tA 8 42 (iM 7) (tA 9 43 (iQ .add 3 42 1) (tA 10 44 (.sl 8 (.t 41) (some (.t 43)) none) (tC 34 (.bsl 52 8 0 [] []) [10,9,8,7,6,4,3,2,1] (tC 39 (.app 52 8 96 (.t 34) (.t 38)) [10,9,8,7,6] (tC 45 (.app 52 8 96 (.t 39) (.t 44)) [] (tA 12 46 (iF 3 6) (.alt (wAI 46 45) [] .done .stop)) .stop) .stop) .stop))))))))))) (.seq (iS [aN 8 0] (.blk 1 (.loop (.seq (iS [aM 47 8,aF 48 2 6,aL 49 48,aG 50 49,aP 51 .lss 3 47 50] (iD 51 .skip (.exit 1))) (.seq (.blk 2 (iS [iA 54 (wAX []),aM 9 54] (.seq (iS [aN 10 0] (.blk 3 (.loop (.seq (iS [aM 55 10,aF 56 2 6,aL 57 56,aM 58 8,aI 59 1 57 58,aL 60 59,aG 61 60,aP 62 .lss 3 55 61] (iD 62 .skip (.exit 3))) (.seq (.blk 4 (iS [aF 65 2 6,aL 66 65,aM 67 8,aI 68 1 66 67,aL 69 68,aM 70 10,aI 71 4 69 70,aF 72 2 71,aL 73 72,aM 74 1,aP 75 .neq 3 73 74] (iD 75 (.reg [aM 76 9,aF 77 2 6,aL 78 77,aM 79 8,aI 80 1 78 79,aL 81 80,aM 82 10,aI 83 4 81 82,aT 84 4 83,iA 85 (wAY [(0,4,.t 84)]),iA 86 (wA2 76 85),aM 9 86]) .skip))) (.reg [aM 63 10,aQ 64 .add 3 63 1,aM 10 64])))))) (.reg [aF 87 2 6,aL 88 87,aM 89 8,aM 90 9,aI 91 1 88 89,wAF 91 90])))) (.reg [aM 52 8,aQ 53 .add 3 52 1,aM 8 53])))))) (iS [aT 92 4 6,wAA 4 92,aN 5 0] .ret))))))
theorem jiM:fnC Tryz.prog Tryz.f151=some (jgH,[.cell 4 true 4,.t 5],93):=by kernel_rfl
def jgW:C:=iS [iA 2 (.box 27 4 (.t 0)),iA 3 (.box 3 1 (.t 1)),iA 4 wAK,aN 5 0] (iS [aT 9 4 2,iA 10 (iK 61 [9]),iA 6 wAK,wAA 6 10] (iS [aT 11 4 2,aL 12 3,iA 13 (iK 25 [11,12]),aM 7 13] (.seq (.blk 0 (iS [aT 15 4 2,iA 16 (iK 18 [15]),aU 17 16,aM 14 17] (iD 14 (iS [aT 18 4 6,wAA 4 18,aN 5 8] .ret) (iS [aM 20 7,aQ 21 .lss 3 20 0,aM 19 21] (iD 19 (iS [aT 22 4 6,wAA 4 22,aN 5 10] .ret) (iS [aF 24 3 2,aL 25 24,aM 26 7,aI 27 8 25 26,aF 28 6 27,aL 29 28,aQ 30 .eql 3 29 1,aM 23 30] (iD 23 (iS [aT 31 4 6,wAA 4 31,aN 5 13] .ret) .skip))))))) (iS [aF 32 3 6,aL 33 32,aM 34 7,aM 35 7,aQ 36 .add 3 35 1,iA 37 (iK 144 [33,34,36]),aF 38 3 6,wAI 38 37] (.seq (iS [aF 39 2 6,aL 40 39,aG 41 40,aN 42 0] (.blk 1 (.loop (iS [aP 43 .lss 3 42 41] (.seq (iD 43 .skip (.exit 1)) (.seq (.blk 2 (iS [aM 44 42,aM 8 44] (.dreg (tA 0 45 (iF 2 6) (tA 1 46 (iL 45) (tA 2 47 (iM 8) (tA 3 48 (iF 2 6) (tA 4 49 (iL 48) (tA 5 50 (iM 8) (tA 6 51 (iI 1 49 50) (tA 7 52 (iL 51) (tA 8 53 (.mkf 145 [.t 3]) (tC 54 (iK 85 [52,53]) [2,1,0] (tA 10 55 (iI 1 46 47) (.alt (wAF 55 54) [] .done .stop)) .stop))))))))))))) (.reg [aQ 56 .add 3 42 1,aM 42 56]))))))) (iS [aT 57 4 6,wAA 4 57,aN 5 0] .ret))))))
theorem ji1:fnC Tryz.prog Tryz.f91=some (jgW,[.cell 4 true 4,.t 5],58):=by kernel_rfl
def jdu:C:=iS [iA 2 (.box 44 4 (.t 0)),aO 3 false] (iS [aF 4 2 2,aL 5 4,aL 6 1,aP 7 .eql 3 5 6,aM 3 7] .ret)
theorem jgs:fnC Tryz.prog Tryz.f145=some (jdu,[.t 3],8):=by kernel_rfl
theorem jmQ (y:Yd) (id:Int) (ht:jt y<=2000000):kg Tryz.prog 151 [.agg (jb y),.c (.val (.int .i64 id))] (.tup [(true,jb (vH y id)),(false,[.val (.int .i64 (zj y id))])]):=by
 refine vZ [[1,1,1,1,0],[1,1,1,1,1,0,0]] Tryz.func151 jiM (by simp) ?_
 unfold jgH;simp only [C.ghs,C.ghAt,List.foldr];simp only [go_sem,jb];intro b2 b4;refine jx (kp y ht) λbC=>?_
 simp only [go_sem,jb];intro b6;refine jx (qr y id) λη=>?_
 simp only [go_sem,jb];refine jx (qq y ht) λη=>?_
 simp only [go_sem,jb];cases aC:jw y
 ·have hc:zj y id=8:=by simp [zj,aC]
  have hy:vH y id=y:=by rw [vH,if_neg (by rw [hc];decide)]
  simp only [go_sem,jb,aC,hc,hy];refine qm _ _ _ _ _ ?_;simp only [go_sem,jb]
 have hP:=yard_iff.1 aC;by_cases aK:runAt y id<0
 ·have hc:zj y id=10:=by rw [zj,if_neg (by rw [aC];decide),if_pos aK]
  have hy:vH y id=y:=by rw [vH,if_neg (by rw [hc];decide)]
  simp only [go_sem,jb,aC,aK,hc,hy];refine qm _ _ _ _ _ ?_;simp only [go_sem,jb]
 obtain ⟨k,r,bT,hr,hid,h8⟩:=kU aK;have hk:=(aMI.1 hr).1;have bD:=qT k;have cD:¬(k:Int)<0:=by omega
 have eB:((y.aLX[(runAt y id).toNat]?).getD default)=r:=by rw [bT,aMQ,hr,aMM]
 cases aJ:r.aLV==1;rotate_left
 ·have eH:r.aLV=1:=by simpa using aJ
  have hc:zj y id=13:=by rw [zj,if_neg (by rw [aC];decide),if_neg aK,eB,if_pos eH]
  have hy:vH y id=y:=by rw [vH,if_neg (by rw [hc];decide)]
  simp only [go_sem,jb,aC,bT,cD,bD,hk,jU hr,jc,ja,aJ,hc,hy];refine qm _ _ _ _ _ ?_;simp only [go_sem,jb]
 have eH:¬r.aLV=1:=by simpa using aJ
 have hc:zj y id=0:=by rw [zj,if_neg (by rw [aC];decide),if_neg aK,eB,if_neg eH]
 rw [hc,vH,if_pos hc,bT,aMQ];simp only [go_sem,jb,aC,bT,cD,bD,hk,jU hr,jc,ja,aJ];refine qa ?_;generalize bC 2=aV at*;generalize bC 3=cT at*;refine WkK.wk (s':=St.of [(1,Ni id),(4,Bx 92 b4),(6,Bx 90 b6),(7,Ni k)] [(92,ZYd b4 tYd),(90,ka b6 tYd y.now y.seq y.aLU aV y.aLX cT)]) (jy [400,600] (by simp only [go_sem,jb]<;>trivial)) ?_
 refine jjv 90 3 y.aLX [] 1000000000000 _ cT rfl (by decide) (λj hj=>by
  show (if j=92 then _ else if j=90 then _ else Ob.none)=Ob.none
  rw [if_neg (by omega),if_neg (by omega)]) λrows fam aH f6 hη=>?_
 refine WkK.wk (jnF [some 92,some 90] (T:=[(1,Ni id),(4,Bx 92 b4),(6,Bx 90 b6),(7,Ni k)]) (O:=[(92,ZYd b4 tYd),(90,vu b6 tYd y.now y.seq y.aLU aV (.sl 8 tRn rows) aH)]) (b:=1000000000000) (fam:=fam) (by simp only [go_sem]<;>trivial) (λj hj=>by
  show (if 1000000000000<=j then _ else _)=_
  rw [if_pos hj]) (by decide)) ?_
 refine WkK.of ?_;have bZ:=f6.len;have fW:=f6.flat;obtain ⟨gK,nH⟩:=jkc fW (k*8) ((k+1)*8)
 have fN:(D.sl 8 tRn rows).len=y.aLX.length:=by
  simp only [D.len,D.cells,D.size,bZ];exact aNN _ (by decide)
 have eL:=kX k;have f5:k+1<=y.aLX.length:=hk;have oU:k<=y.aLX.length:=by omega
 have yM:((k+1:Nat):Int)>=0:=by omega
 have mZ:List.take ((k+1+(y.aLX.length-(k+1))-(k+1))*8) (List.drop ((k+1)*8) rows)=List.drop ((k+1)*8) rows:=aMO (by rw [aND,bZ];omega)
 have sB:k+1+(y.aLX.length-(k+1))<=y.aLX.length:=by omega
 have o0:(List.take (k*8) rows).length/8=k:=by rw [aMP,bZ,aNZ (by omega)];exact aNN _ (by decide)
 have gC:(List.drop ((k+1)*8) rows).length/8=y.aLX.length-(k+1):=by
  rw [aND,bZ,show y.aLX.length*8-(k+1)*8=(y.aLX.length-(k+1))*8 by omega];exact aNN _ (by decide)
 have m1:k<=maxLen:=by unfold maxLen;omega
 have m2:k*96<=140737488355328:=by omega
 have m3:k+(y.aLX.length-(k+1))<=maxLen:=by unfold maxLen;omega
 have m4:(k+(y.aLX.length-(k+1)))*96<=140737488355328:=by omega
 simp only [go_sem,fN,eL,f5,oU,bD,yM,gK,nH,aMV,mZ,sB,o0,gC,m1,m2,m3,m4];intro aGJ aGI wA;refine qa ?_
 refine WkK.wk (jnF [some 92,some 90] (T:=[(1,Ni id),(4,Bx 92 b4),(6,Bx 90 b6)]) (O:=[(92,ZYd b4 tYd),(90,vu b6 tYd y.now y.seq y.aLU aV (.sl 8 tRn (rows.take (k*8)++rows.drop ((k+1)*8))) wA)]) (b:=1000000000000) (fam:=fam) (by simp only [go_sem]<;>trivial) (λj hj=>by
  simp only [go_sem]
  repeat rw [if_neg (by omega)]
  rw [if_pos hj]) (by decide)) ?_
 refine WkK.wk (jnG (b:=1000000000000) (fam:=fam) (λj=>if j<2*k then j else j+2) (λi j h=>by
  split at h<;>split at h<;>omega) (λj hj=>by
  show (if 1000000000000<=j then _ else _)=_
  rw [if_pos hj])) ?_
 refine jeV 90 3 (y.aLX.eraseIdx k) [] 1000000000000 _ wA (rows.take (k*8)++rows.drop ((k+1)*8)) _ (f6.erase hk) rfl (by decide) (λj hj=>by
  show (if 1000000000000<=j then _ else _)=_
  rw [if_pos hj]) λrT _=>?_
 generalize y.aLX.eraseIdx k=R at*;refine WkK.wk (s':=St.of [(1,Ni id),(4,Bx 92 b4),(6,Bx 90 b6)] [(92,ZYd b4 tYd),(90,ka b6 tYd y.now y.seq y.aLU aV R rT)]) (jy [92,90]) ?_;refine WkK.of ?_;have fP:y.aLU.length=4:=hP.four;simp only [go_sem];refine vo (λi:Nat×jm=>St.of [(1,Ni id),(4,Bx 92 b4),(6,Bx 90 b6),(8,Ni i.1)] [(92,ZYd b4 tYd),(90,ka b6 tYd y.now y.seq (jdV (λl=>l.filter (jbs id)) y.aLU i.1) i.2 R rT)]) (λi=>i.1<=y.aLU.length) (λi=>y.aLU.length-i.1) (0,aV) (jy [92,90] (by simp only [go_sem,jvh]<;>trivial)) ?_
 rintro ⟨n,η⟩ hn;dsimp only at hn;have d9:=jox (f:=λl=>List.filter (jbs id) l) (l:=y.aLU) (i:=n)
 by_cases aB:n<y.aLU.length
 ·obtain ⟨l,hl⟩:=jd aB
  have nV:=joy (f:=λl=>List.filter (jbs id) l) hl
  have yC:=jow (f:=λl=>List.filter (jbs id) l) hl
  have eV:=zp ht (aMJ hl);have iR:=kX n;have eK:=qT n;generalize hS:jdV (λl=>List.filter (jbs id) l) y.aLU n=S at*
  have uV:n<S.length:=by omega
  have aA:(n:Int)<S.length:=by omega
  simp only [go_sem,aA];intro lP;refine vo (λi:Nat×jm=>St.of [(1,Ni id),(4,Bx 92 b4),(6,Bx 90 b6),(8,Ni n),(9,Hd 9 i.2),(10,Ni i.1)] [(92,ZYd b4 tYd),(90,ka b6 tYd y.now y.seq S η R rT),(9,.loose (ji ((l.take i.1).filter (jbs id))) i.2)]) (λi=>i.1<=l.length) (λi=>l.length-i.1) (0,lP) (jy [92,90,5400] (by simp only [go_sem,aNM,List.filter_nil,jdJ]<;>trivial)) ?_
  rintro ⟨j,mF⟩ hj;dsimp only at hj;by_cases dA:j<l.length
  ·have aZ:(j:Int)<l.length:=by omega
   have dU:=qT j;obtain ⟨e,he⟩:=jd dA;have dM:=kX j;have fC:=jvO (jbs id) he;have hFl:((l.take j).filter (jbs id)).length<=l.length:=aNX (aNH _ _) (by rw [aMP];omega)
   generalize (l.take j).filter (jbs id)=F at*;have n1:F.length+1<=maxLen:=by unfold maxLen;omega
   have n2:(F.length+1)*32<=140737488355328:=by omega
   cases dI:e.run !=id
   ·have hp:jbs id e=false:=dI
    rw [hp,if_neg (by decide),aNI] at fC
    simp only [go_sem,uV,eK,aMZ,jr7 nV,jrC uV,kn nV,aZ,dA,dU,jzd he,jyW he,dI,dM];exact ql (j+1,mF) (jy [92,90,9] (by simp only [go_sem,fC]<;>trivial))
   ·have hp:jbs id e=true:=dI
    rw [hp,if_pos rfl] at fC;simp only [go_sem,uV,eK,aMZ,jr7 nV,jrC uV,kn nV,aZ,dA,dU,jzd he,jyW he,dI,dM,jtH he,jtj he,jh,n1,n2,jvR,ko];intro ηx ηy;exact ql (j+1,ηy) (jy [92,90,8600] (by simp only [go_sem,fC]<;>trivial))
  ·have aZ:¬(j:Int)<l.length:=by omega
   obtain rfl:j=l.length:=by omega
   rw [aOI];simp only [go_sem,uV,eK,aMZ,jr7 nV,jrC uV,kn nV,aZ,jaI,yC,iR];refine λg' cV=>?_
   exact ql (n+1,g') (jy [92,90])
 ·have aA:¬(n:Int)<(jdV (λl=>List.filter (jbs id) l) y.aLU n).length:=by omega
  obtain rfl:n=y.aLU.length:=by omega
  simp only [go_sem,aA];rw [joz];refine qm _ _ _ _ _ ?_;simp only [go_sem,jb]
theorem ju5 (id:Int) (e:En):kg Tryz.prog 145 [.agg (jh e),.ptr [iv id]] (.c (.val (.bool (!jbs id e)))):=by
 refine pf_ jgs ?_;unfold jdu;have hb:(!jbs id e)=(e.run==id):=by simp [jbs,bne]
 simp only [go_sem,jh,hb]
theorem jm1 (y:Yd) (id:Int) (ht:jt y<=2000000):kg Tryz.prog 91 [.agg (jb y),.c (.val (.int .i64 id))] (.tup [(true,jb (vH y id)),(false,[.val (.int .i64 (zj y id))])]):=by
 refine vZ [[1,1,1,1,0],[1,1,1,1,1,0,0]] Tryz.func91 ji1 (by simp) ?_
 unfold jgW;simp only [C.ghs,C.ghAt,List.foldr];simp only [go_sem,jb];intro b2 b3 b4;refine jx (ke y ht) λbC=>?_
 simp only [go_sem,jb];intro b6;refine jx (qg y id) λη=>?_
 simp only [go_sem,jb];refine jx (kJ y ht) λη=>?_
 simp only [go_sem,jb];cases aC:jw y
 ·have hc:zj y id=8:=by simp [zj,aC]
  have hy:vH y id=y:=by rw [vH,if_neg (by rw [hc];decide)]
  simp only [go_sem,jb,aC,hc,hy];refine qm _ _ _ _ _ ?_;simp only [go_sem,jb]
 have hP:=yard_iff.1 aC;by_cases aK:runAt y id<0
 ·have hc:zj y id=10:=by rw [zj,if_neg (by rw [aC];decide),if_pos aK]
  have hy:vH y id=y:=by rw [vH,if_neg (by rw [hc];decide)]
  simp only [go_sem,jb,aC,aK,hc,hy];refine qm _ _ _ _ _ ?_;simp only [go_sem,jb]
 obtain ⟨k,r,bT,hr,hid,h8⟩:=kU aK;have hk:=(aMI.1 hr).1;have bD:=qT k;have cD:¬(k:Int)<0:=by omega
 have eB:((y.aLX[(runAt y id).toNat]?).getD default)=r:=by rw [bT,aMQ,hr,aMM]
 cases aJ:r.aLV==1;rotate_left
 ·have eH:r.aLV=1:=by simpa using aJ
  have hc:zj y id=13:=by rw [zj,if_neg (by rw [aC];decide),if_neg aK,eB,if_pos eH]
  have hy:vH y id=y:=by rw [vH,if_neg (by rw [hc];decide)]
  simp only [go_sem,jb,aC,bT,cD,bD,hk,jU hr,jc,ja,aJ,hc,hy];refine qm _ _ _ _ _ ?_;simp only [go_sem,jb]
 have eH:¬r.aLV=1:=by simpa using aJ
 have hc:zj y id=0:=by rw [zj,if_neg (by rw [aC];decide),if_neg aK,eB,if_neg eH]
 rw [hc,vH,if_pos hc,bT,aMQ];simp only [go_sem,jb,aC,bT,cD,bD,hk,jU hr,jc,ja,aJ];refine qa ?_;generalize bC 2=aV at*;generalize bC 3=cT at*;refine WkK.wk (s':=St.of [(3,Bx 91 b3),(4,Bx 92 b4),(6,Bx 90 b6),(7,Ni k)] [(91,.box b3 jg3 [.a (.v (.int .i64 id))]),(92,ZYd b4 tYd),(90,ka b6 tYd y.now y.seq y.aLU aV y.aLX cT)]) (jy [300,400,600] (by simp only [go_sem,jb]<;>trivial)) ?_
 refine jjv 90 3 y.aLX [] 1000000000000 _ cT rfl (by decide) (λj hj=>by
  show (if j=91 then _ else if j=92 then _ else if j=90 then _ else Ob.none)=Ob.none
  rw [if_neg (by omega),if_neg (by omega),if_neg (by omega)]) λrows fam aH f6 hη=>?_
 refine WkK.wk (jnF [some 91,some 92,some 90] (T:=[(3,Bx 91 b3),(4,Bx 92 b4),(6,Bx 90 b6),(7,Ni k)]) (O:=[(91,.box b3 jg3 [.a (.v (.int .i64 id))]),(92,ZYd b4 tYd),(90,vu b6 tYd y.now y.seq y.aLU aV (.sl 8 tRn rows) aH)]) (b:=1000000000000) (fam:=fam) (by simp only [go_sem]<;>trivial) (λj hj=>by
  show (if 1000000000000<=j then _ else _)=_
  rw [if_pos hj]) (by decide)) ?_
 refine qY 90 3 95 (d:=.sl 8 tRn rows) (η:=aH) rfl rfl (by decide) λeZ=>?_
 refine WkK.wk (jnF [some 91,some 92,some 90,some 95] (T:=[(3,Bx 91 b3),(4,Bx 92 b4),(6,Bx 90 b6),(7,Ni k)]) (O:=[(91,.box b3 jg3 [.a (.v (.int .i64 id))]),(92,ZYd b4 tYd),(90,.box b6 tYd [.a (.v (.int .i64 y.now)),.a (.v (.int .i64 y.seq)),.own (ku y.aLU) aV,.a (.v (aH []))]),(95,.loose (.sl 8 tRn rows) aH)]) (b:=1000000000000) (fam:=fam) (by simp only [go_sem]<;>trivial) (λj hj=>by
  simp only [go_sem]
  repeat rw [if_neg (by omega)]
  rw [if_pos hj]) (by decide)) ?_
 refine WkK.of ?_;have bZ:=f6.len;have fW:=f6.flat;obtain ⟨gK,nH⟩:=jkc fW (k*8) ((k+1)*8)
 have fN:(D.sl 8 tRn rows).len=y.aLX.length:=by
  simp only [D.len,D.cells,D.size,bZ];exact aNN _ (by decide)
 have eL:IntKind.i64.wrap ((k:Int)+1)=(k:Int)+1:=zy;have f5:k+1<=y.aLX.length:=hk;have oU:k<=y.aLX.length:=by omega
 have yM:((k+1:Nat):Int)>=0:=by omega
 have mZ:List.take ((k+1+(y.aLX.length-(k+1))-(k+1))*8) (List.drop ((k+1)*8) rows)=List.drop ((k+1)*8) rows:=aMO (by rw [aND,bZ];omega)
 have sB:k+1+(y.aLX.length-(k+1))<=y.aLX.length:=by omega
 have o0:(List.take (k*8) rows).length/8=k:=by rw [aMP,bZ,aNZ (by omega)];exact aNN _ (by decide)
 have gC:(List.drop ((k+1)*8) rows).length/8=y.aLX.length-(k+1):=by
  rw [aND,bZ,show y.aLX.length*8-(k+1)*8=(y.aLX.length-(k+1))*8 by omega];exact aNN _ (by decide)
 have m1:k<=maxLen:=by unfold maxLen;omega
 have m2:k*96<=140737488355328:=by omega
 have m3:k+(y.aLX.length-(k+1))<=maxLen:=by unfold maxLen;omega
 have m4:(k+(y.aLX.length-(k+1)))*96<=140737488355328:=by omega
 have hf3:jZ (rows.take (k*8)++rows.drop ((k+1)*8))=true:=by rw [vR,gK,nH];rfl
 simp only [go_sem,eL]
 refine jfF (R:=λrt o'=>rt=.c (.sl 8 tRn (rows.take (k*8)++rows.drop ((k+1)*8)))/\o' 90=.box b6 tYd [.a (.v (.int .i64 y.now)),.a (.v (.int .i64 y.seq)),.own (ku y.aLU) aV,.a (.v (aH []))]/\o' 91=.box b3 jg3 [.a (.v (.int .i64 id))]/\o' 92=ZYd b4 tYd/\∀j,1000000000000<=j->o' j=fam (j-1000000000000)) (by
  simp only [go_sem];refine (jwW rows y.aLX.length k fW hf3 bZ hk (g:=95) (η:=aH) (by simp only [go_sem])).mono λrt o' h=>?_
  obtain ⟨h1,rfl⟩:=h;refine ⟨h1,by simp only [go_sem],by simp only [go_sem],by simp only [go_sem],λj hj=>?_⟩
  simp only [go_sem]
  repeat rw [if_neg (by omega)]
  rw [if_pos hj]) λrt o' hR wB=>?_
 obtain ⟨rfl,j90,j91,j92,jF⟩:=hR;simp only [go_sem,j90];refine qa ?_
 refine WkK.wk (jnF [some 91,some 92,some 90] (T:=[(3,Bx 91 b3),(4,Bx 92 b4),(6,Bx 90 b6)]) (O:=[(91,.box b3 jg3 [.a (.v (.int .i64 id))]),(92,ZYd b4 tYd),(90,vu b6 tYd y.now y.seq y.aLU aV (.sl 8 tRn (rows.take (k*8)++rows.drop ((k+1)*8))) (wB 0))]) (b:=1000000000000) (fam:=fam) (by simp only [go_sem,j90,j91,j92]<;>trivial) (λj hj=>by
  simp only [go_sem]
  repeat rw [if_neg (by omega)]
  exact jF j hj) (by decide)) ?_
 refine WkK.wk (jnG (b:=1000000000000) (fam:=fam) (λj=>if j<2*k then j else j+2) (λi j h=>by
  split at h<;>split at h<;>omega) (λj hj=>by
  show (if 1000000000000<=j then _ else _)=_
  rw [if_pos hj])) ?_
 refine jeV 90 3 (y.aLX.eraseIdx k) [] 1000000000000 _ (wB 0) (rows.take (k*8)++rows.drop ((k+1)*8)) _ (f6.erase hk) rfl (by decide) (λj hj=>by
  show (if 1000000000000<=j then _ else _)=_
  rw [if_pos hj]) λrT _=>?_
 generalize y.aLX.eraseIdx k=R at*;refine WkK.wk (s':=St.of [(3,Bx 91 b3),(4,Bx 92 b4),(6,Bx 90 b6)] [(91,.box b3 jg3 [.a (.v (.int .i64 id))]),(92,ZYd b4 tYd),(90,ka b6 tYd y.now y.seq y.aLU aV R rT)]) (jy [91,92,90]) ?_;refine WkK.of ?_;have fP:y.aLU.length=4:=hP.four;simp only [go_sem];refine vo (λi:Nat×jm=>St.of [(3,Bx 91 b3),(4,Bx 92 b4),(6,Bx 90 b6),(41,Ni y.aLU.length),(42,Ni i.1)] [(91,.box b3 jg3 [.a (.v (.int .i64 id))]),(92,ZYd b4 tYd),(90,ka b6 tYd y.now y.seq (jdV (λl=>l.filter (jbs id)) y.aLU i.1) i.2 R rT)]) (λi=>i.1<=y.aLU.length) (λi=>y.aLU.length-i.1) (0,aV) (jy [91,92,90] (by simp only [go_sem,jvh]<;>trivial)) ?_
 rintro ⟨n,η⟩ gX;dsimp only at gX;have d9:=jox (f:=λl=>List.filter (jbs id) l) (l:=y.aLU) (i:=n)
 by_cases aB:n<y.aLU.length
 ·have aA:(n:Int)<y.aLU.length:=by omega
  obtain ⟨l,hl⟩:=jd aB;have nV:=joy (f:=λl=>List.filter (jbs id) l) hl
  have yC:=jow (f:=λl=>List.filter (jbs id) l) hl
  have eV:=jbC ht (aMJ hl);have lV:=kX n;have fM:=qT n;generalize hS:jdV (λl=>List.filter (jbs id) l) y.aLU n=S at*
  have hn:n<S.length:=by omega
  have gJ:=jrC hn;have gE:=jr7 nV;simp only [go_sem,aA,hn,fM,kY nV,gE,gJ,aMZ];refine qe (jvB ?_);refine qv (β:=7000000) Tryz.func85 kG (by simp) ?_
  unfold kf;simp only [go_sem];refine jn (jb4 l _ [iv id] (λe=>!jbs id e) (λx=>ju5 id x) eV) (by simp only [go_sem,kn nV]) λmE=>?_
  simp only [go_sem]
  have hcut:∀(L:List En) (m:Nat),m<=L.length->(L.flatMap jh).take (m*4)=(L.take m).flatMap jh:=λL m hm=>by
   have e1:L.flatMap jh=(L.take m).flatMap jh++(L.drop m).flatMap jh:=by rw [<-aOE,aNW]
   rw [e1,List.take_left' (by rw [jG jrN,aMP,aNZ hm])]
  rcases zO (λe=>!jbs id e) l with ⟨h1,h2⟩|⟨i0,x0,h1,h2,h3,h4⟩
  ·have fW:l.filter (jbs id)=l:=List.filter_eq_self.2 λe he=>by have:=h2 e he;simpa using this
   rw [fW] at yC;simp only [go_sem,h1,aOY];refine ⟨90,2,n,777,l.length,4,tEn,jsi,l.flatMap jh,_,η,.inr ⟨rfl,(jG jrN l).symm⟩,by simp only [go_sem];rfl,jj7 nV,by simp only [go_sem],by decide,by decide,by rw [jG jrN];exact aMV _,λaAF aAJ hη2=>?_⟩
   rw [hcut l l.length (aMV _),aOI];simp only [go_sem,jl2,jf4,hη2,jmy,jms,jji,hn,fM,aMZ,jdU,gJ,jjf _ l hn,ko,lV];refine ⟨hn,λg' cV=>?_⟩
   exact ql (n+1,g') (jy [91,92,90] (by simp only [go_sem,jl2,yC]<;>trivial))
  ·have sI:=(aMI.1 h2).1
   have aR:((i0:Int)==-1)=false:=by simp
   have hw0:=kX i0;have oD:=jaw nV;simp only [go_sem,h1,aR,hw0];refine kN (λi:Nat×Nat×List En=>St.of [(0,.c (.h 90 2 [n] (η [n]))),(1,.fn 145 [.bp 91 0 b3]),(5,Ni i.1),(6,Ni i.2.1)] [(91,.box b3 jg3 [.a (.v (.int .i64 id))]),(92,ZYd b4 tYd),(90,ka b6 tYd y.now y.seq (S.set n i.2.2) η R rT)]) (λi=>jzg (λe=>!jbs id e) l i.2.2 i.1 i.2.1) (λi=>l.length-i.2.1) (i0,i0+1,l) (jCZ h2 h3 h4) (jy [91,92,90] (by simp only [go_sem,oD]<;>trivial)) ?_
   rintro ⟨i,j,L⟩ hd;dsimp only at hd;have hL:(S.set n L)[n]?=some L:=aML hn;have sO:=hd.len;have hij:=hd.ij;have bJ:=hd.jl;have eK:=qT i;by_cases dA:j<l.length
   ·have aZ:(j:Int)<l.length:=by omega
    have dU:=qT j;obtain ⟨e,he⟩:=jd dA;have xT:L[j]?=some e:=by rw [hd.suf j (aMV _)];exact he
    have xN:i<L.length:=by omega
    have hjL:j<L.length:=by omega
    obtain ⟨xi,iJ⟩:=jd xN;have hw:=kX j;have iR:=kX i;simp only [go_sem,kn hL,sO,dA,aZ,dU,jtH xT,jtj xT,jh];intro b7;refine jjI (by simp only [go_sem];rfl) (ju5 id e) (by simp only [go_sem,jh]) λη=>?_
    cases hf:jbs id e
    ·simp only [go_sem,jh,hf,hw]
     exact ⟨(i,j+1,L),jy1 hd he (by simp [hf]),(jy [91,92,90]),by (try dsimp only);omega⟩
    ·simp only [go_sem,jh,hf,hw,iR,kn hL,sO,eK,jtH iJ,jtj iJ,jrb e hL xN,aNP,(show i<l.length by omega)]
     exact ⟨(i+1,j+1,L.set i e),jv3 hd he (by simp [hf]),(jy [91,92,90]),by (try dsimp only);omega⟩
   ·have aZ:¬(j:Int)<l.length:=by omega
    obtain rfl:j=l.length:=by omega
    have uZ:=jv4 hd;have xS:l.filter (λe=>!!jbs id e)=l.filter (jbs id):=by simp
    rw [xS] at uZ;have dC:i<=l.length:=by omega
    have l4:0<l.length-i:=by omega
    have eF:i+(l.length-i)=l.length:=by omega
    have oA:i+(l.length-i)=L.length:=by omega
    have m9:jZ ((List.replicate (l.length-i) jd7).flatMap jh)=true:=jbi _;obtain ⟨L2,uI⟩:∃L2,L2=L.take i++List.replicate (l.length-i) jd7:=⟨_,rfl⟩;have uH:L2.length=l.length:=by rw [uI];simp;omega
    have uG:L2.take i=l.filter (jbs id):=by rw [uI,List.take_left' (by rw [aMP];omega),uZ]
    have tK:D.put [n] (i*4) ((List.replicate (l.length-i) jd7).flatMap jh) (ku (S.set n L))=ku (S.set n L2):=by rw [jpT hL (jy5 oA),aNP,uI]
    have mR:(S.set n L2)[n]?=some L2:=aML hn;have gH:n<(S.set n L2).length:=by rw [aMU];exact hn
    simp only [go_sem,kn hL,sO,aZ,eK,dC,aMV,l4,eF,jyK,joW,m9,tK,kn mR,uH];refine ⟨90,2,n,777,i,4,tEn,jsi,L2.flatMap jh,_,η,.inl rfl,by simp only [go_sem];rfl,jj7 mR,by simp only [go_sem],by decide,by decide,by rw [jG jrN];omega,λaAF aAJ hη2=>?_⟩
    rw [hcut L2 i (by omega),uG]
    simp only [go_sem,jl2,jf4,hη2,jmy,jms,jji,gH,fM,aMZ,jdU,jjf _ (l.filter (jbs id)) gH,ko,aNP,aMU,hn,lV];refine ⟨hn,λg' cV=>?_⟩
    exact ql (n+1,g') (jy [91,92,90] (by simp only [go_sem,jl2,yC]<;>trivial))
 ·have aA:¬(n:Int)<y.aLU.length:=by omega
  obtain rfl:n=y.aLU.length:=by omega
  simp only [go_sem,aA];rw [joz];refine qm _ _ _ _ _ ?_;simp only [go_sem,jb]
theorem jfx {α:Type} (f:α->Nat):∀(l:List α) (k:Nat),qN f (l.eraseIdx k)<=qN f l
 |[],_=>by simp [qN]
 |x::l,0=>by simp only [List.eraseIdx_cons_zero,qN,aNQ,aOW];omega
 |x::l,k+1=>by
  have:=jfx f l k;simp only [List.eraseIdx_cons_succ,qN,aNQ,aOW] at this⊢;omega
theorem jpF {T:Nat} (y:Yd) (id:Int) (ht:jt y<=T):jt (jX y id)<=T:=by
 unfold jX;split
 ·rename_i h
  have aK:¬runAt y id<0:=λhn=>by
   unfold kK at h;split at h
   ·cases h
   ·omega
  obtain ⟨k,r,bT,hr,-,-⟩:=kU aK;rw [bT,aMQ,hr];exact (jsw hr (jvm _)).symm▸ht
 ·exact ht
theorem jt2 {T:Nat} (y:Yd) (id:Int) (ht:jt y<=T):jt (vH y id)<=T:=by
 unfold vH;split
 ·have h1:=jfx kQ y.aLX (runAt y id).toNat
  have h2:=List.length_eraseIdx_le y.aLX (runAt y id).toNat
  have h3:∀l:List (List En),qN zc (l.map λl=>l.filter (jbs id))<=qN zc l:=by
   intro l
   induction l with
   |nil=>exact aMV _
   |cons a l ih=>
    have h4:zc (a.filter (jbs id))<=zc a:=aNH _ _;simp only [qN,aNQ,aOW] at ih⊢;omega
  have h5:=h3 y.aLU;simp only [jt,jby,jac,aNT] at ht⊢;omega
 ·exact ht
theorem jt0 {T:Nat} (y:Yd) (aLZ aMB:Int) (ht:jt y<=T):jt (qj y aLZ aMB)<=T:=by
 unfold qj;split
 ·exact ht
 ·rename_i hc
  have aC:jw y=true:=by
   cases h:jw y with
   |true=>rfl
   |false=>exact absurd (.inl h) hc
  have hw:0<=aLZ/\aLZ<=99:=by
   refine aOL λh=>hc (.inr h)
  have eW:(aLZ.tmod 4).toNat<4:=by rw [aNU hw.1];omega
  have hI:=jjO (yard_iff.1 aC) eW aMB;have y7:=hI.tot;split
  ·omega
  ·rename_i e l he
   generalize (aLZ.tmod 4).toNat=h at*
   have ha:(pollZ y h aMB).aLU[h]?=some (e::l):=by
    rw [ja6] at he;cases hs:(pollZ y h aMB).aLU[h]? with
    |none=>rw [hs] at he;simp at he
    |some x=>rw [hs,aMM] at he;rw [he]
   generalize pollZ y h aMB=Z at*;obtain ⟨k,t,r,x,bT,hr,fY,hx,gS⟩:=jf2 (hI.frs _ ha e (by simp))
   rw [<-hI.aLX] at hr;have gU:runAt Z e.run=(k:Int):=by rw [<-bT];unfold runAt;rw [hI.aLX]
   have hH:jdX Z h e l=⟨Z.now,Z.seq,Z.aLU.set h l,Z.aLX.set k (kD r t x Z.now)⟩:=by
    simp only [jdX,gU,fY,aMQ,hr,hx,aMM]
   have h1:=jfy (l2:=l) ha;have h2:=qB (f:=kQ) (kD r t x Z.now) hr;have h3:kQ (kD r t x Z.now)=kQ r:=by simp [kQ,kD,jqX]
   rw [hH];simp only [jt,jac,aMU,aNG] at*;omega
theorem jt4 {T:Nat} (y:Yd) (id aMA tri:Int) (ht:jt y<=T):jt (qz y id aMA tri)<=T+2000:=by
 unfold qz;split
 ·rename_i h
  obtain ⟨aC,aK⟩:=jlm h;obtain ⟨k,r,bT,hr,hid,h8⟩:=kU aK;rw [bT,aMQ,hr,aMM];have cC:=(aC.right r (aMJ hr)).le12;have:=jmn (r2:=kx r aMA) hr (jpM r aMA) (by rw [zI];exact cC)
  omega
 ·omega
theorem jt3 {T:Nat} (y:Yd) (id aMA tri:Int) (ht:jt y<=T):jt (vp y id aMA tri)<=T+2000:=by
 unfold vp;split
 ·rename_i h
  obtain ⟨aC,aK⟩:=jlm h;obtain ⟨k,r,bT,hr,hid,h8⟩:=kU aK;rw [bT,aMQ,hr,aMM];have cC:=(aC.right r (aMJ hr)).le12;have:=jmn (r2:=jz r aMA) hr (jh5 r aMA) (by rw [kF];exact cC)
  omega
 ·omega
theorem jtZ {T:Nat} (y:Yd) (ht:jt y<=T):jt (jbG y)<=T+2000:=by
 unfold jbG;split
 ·rename_i h
  have hP:=yard_iff.1 h;have:=(StepI.restR hP y.aLX.length).tot;have:=hP.eight;omega
 ·omega
theorem jtY {T:Nat} (y:Yd) (ht:jt y<=T):jt (jaE y)<=T+2000:=by
 unfold jaE;split
 ·rename_i h
  have aC:jw y=true:=by
   unfold ja3 at h;split at h
   ·cases h
   ·rename_i h1;simpa using h1
  have hP:=yard_iff.1 aC;have h1:=(jdz hP (kC y).length).tot;have h2:=jm8 hP;have e:jt ⟨y.now+1,(tickI y (kC y).length).seq,(tickI y (kC y).length).aLU,(tickI y (kC y).length).aLX⟩=jt (tickI y (kC y).length):=rfl;rw [e];omega
 ·omega
theorem jwR {T:Nat} (y:Yd) (id:Int) (p:Pl) (ht:jt y<=T):jt (jcL y id p)<=T+2000:=by
 unfold jcL;split
 ·rename_i hc
  have oH:jr p=0:=by
   unfold jdA at hc;split at hc
   ·cases hc
   split at hc
   ·cases hc
   split at hc
   ·cases hc
   split at hc
   ·exact hc
   ·rename_i h;omega
  obtain ⟨t0,yS,-,cC,dS,-⟩:=jcH oH;have h1:=jt1 (y:=⟨y.now,y.seq,y.aLU,y.aLX++[jM id p]⟩) (r:=jM id p) (ids:=qQ 2 (jM id p).aLT);have h2:(qQ 2 (jM id p).aLT).length<=12:=aNX (vx _ _ _) (by rw [jM,jaO];omega)
  have h3:kQ (jM id p)<=42:=by
   have h5:(jM id p).aLT.length<=12:=by rw [jM,jaO];omega
   have h6:(jM id p).aLW.aLY.length<=30:=dS;simp only [kQ,jeZ];omega
  have h4:jt ⟨y.now,y.seq,y.aLU,y.aLX++[jM id p]⟩=jt y+1+kQ (jM id p):=by
   simp only [jt,jac,jaD,aMR,aNG,aOM];simp only [qN,aNQ,List.map_nil,aOW,List.sum_nil];omega
  omega
 ·omega
noncomputable def doY (y:Yd) (d:Dd):Yd:=
 if kb d=false then y else if d.aMD=1 then jcL y d.run d.aLW else if d.aMD=2 then qj y d.aLZ d.aMB else if d.aMD=3 then qz y d.run d.aMA d.tri
 else if d.aMD=4 then vp y d.run d.aMA d.tri else if d.aMD=5 then jaE y else if d.aMD=6 then jX y d.run else if d.aMD=7 then vH y d.run else jbG y
noncomputable def doQ (y:Yd) (d:Dd):Rp:=
 if kb d=false then ⟨5,0,0,0⟩ else if d.aMD=1 then ⟨jdA y d.run d.aLW,0,0,0⟩ else if d.aMD=2 then ja5 y d.aLZ d.aMB else if d.aMD=3 then ⟨zm y d.run d.aMA d.tri,0,0,0⟩
 else if d.aMD=4 then ⟨zm y d.run d.aMA d.tri,0,0,0⟩ else if d.aMD=5 then ⟨ja3 y,0,0,0⟩ else if d.aMD=6 then ⟨kK y d.run,0,0,0⟩ else if d.aMD=7 then ⟨zj y d.run,0,0,0⟩
 else if jw y=true then ⟨0,0,0,0⟩ else ⟨8,0,0,0⟩
theorem jCV {T:Nat} (y:Yd) (d:Dd) (h:jt y<=T):jt (doY y d)<=T+2000:=by
 have h1:=jwR y d.run d.aLW h;have h2:=jt0 y d.aLZ d.aMB h;have h3:=jt4 y d.run d.aMA d.tri h;have h4:=jt3 y d.run d.aMA d.tri h;have h5:=jtY y h;have h6:=jpF y d.run h;have h7:=jt2 y d.run h;have h8:=jtZ y h;unfold doY
 repeat' split
 all_goals omega
theorem jCW (y:Yd) (d:Dd) (h:jw y=false):doY y d=y:=by
 unfold doY
 repeat' split
 ·rfl
 ·simp [jcL,jdA,h]
 ·simp [qj,jan,h]
 ·simp [qz,zm,h]
 ·simp [vp,zm,h]
 ·simp [jaE,ja3,h]
 ·simp [jX,kK,h]
 ·simp [vH,zj,h]
 ·simp [jbG,h]
theorem jx8 (y:Yd) (d:Dd) (h:jt y<=1100000):jt (doY y d)<=1100000:=by
 cases hk:jw y
 ·rw [jCW y d hk];exact h
 ·have h1:=(yard_iff.1 hk).small
  have:=jCV y d h1;omega
theorem zN {sh:List (List En)} {n:Nat} {l:List En} (h:sh[n]?=some l) (l':List En):∃rest,sh.flatten.Perm (l++rest)/\(sh.set n l').flatten.Perm (l'++rest):=by
 have hn:=(aMI.1 h).1
 have key:∀m:List En,(sh.set n m).flatten.Perm (m++((sh.take n).flatten++(sh.drop (n+1)).flatten)):=λm=>by
  rw [List.set_eq_take_append_cons_drop,if_pos hn,List.flatten_append,aPL];exact List.perm_append_comm_assoc _ _ _
 have e:sh.set n l=sh:=by
  obtain ⟨h1,rfl⟩:=aMI.1 h;exact List.set_getElem_self h1
 exact ⟨_,by have:=key l;rwa [e] at this,key l'⟩
theorem jkL {a b c:En} (h1:kr a b=true) (h2:kr b c=true):kr a c=true:=by
 simp only [kr,aNC] at*;omega
theorem jys {a b:En} (h:a.seq≠b.seq) (h1:kr a b=false):kr b a=true:=by
 simp only [kr,aNC,aNK] at*;omega
def SrtP (l:List En):Prop:=l.Pairwise λa b=>kr a b=true
theorem SrtP.ahead {l:List En} (h:SrtP l) (k:Nat) (a b:En) (ha:l[k]?=some a) (hb:l[k+1]?=some b):kr a b=true:=by
 obtain ⟨h1,rfl⟩:=aMI.1 ha;obtain ⟨h2,rfl⟩:=aMI.1 hb;exact List.pairwise_iff_getElem.1 h k (k+1) h1 h2 (by omega)
theorem jjM (l:List En) (e:En):(jch l e).Perm (e::l):=by
 rw [jch,jlY];have:=List.perm_middle (a:=e) (l₁:=l.take (jkO l e)) (l₂:=l.drop (jkO l e))
 rwa [aNW] at this
theorem jrd {l:List En} {e:En} (h:SrtP l) (hs:∀x∈l,x.seq≠e.seq):SrtP (jch l e):=by
 have hd:(∀x∈l.take (jkO l e),kr x e=true)/\∀x∈l.drop (jkO l e),kr e x=true:=by
  rcases zO (λx=>!kr x e) l with ⟨hf,hn⟩|⟨k,x,hk,hx,hp,hn⟩
  ·have hK:jkO l e=l.length:=by rw [jkO,if_pos (by omega)]
   rw [hK,aOI,List.drop_length];exact ⟨λx hx=>by have:=hn x hx;simpa using this,by simp⟩
  ·have hK:jkO l e=k:=by rw [jkO,if_neg (by omega),hk];simp
   rw [hK];refine ⟨λz hz=>by have:=hn z hz;simpa using this,?_⟩
   have nP:kr e x=true:=jys (hs x (aMJ hx)) (by simpa using hp)
   have cZ:=(aMI.1 hx).1
   have e1:l.drop k=x::l.drop (k+1):=by
    rw [aOC cZ];congr 1;exact (aMI.1 hx).2
   intro z hz;have tK:SrtP (l.drop k):=h.sublist (List.drop_sublist _ _);rw [e1] at hz tK;rcases aNB.1 hz with rfl|hz
   ·exact nP
   ·exact jkL nP ((List.pairwise_cons.1 tK).1 z hz)
 rw [jch,jlY];refine List.pairwise_append.2 ⟨h.sublist (List.take_sublist _ _),List.pairwise_cons.2 ⟨hd.2,h.sublist (List.drop_sublist _ _)⟩,λa ha b hb=>?_⟩
 rcases aNB.1 hb with rfl|hb
 ·exact hd.1 a ha
 ·exact jkL (hd.1 a ha) (hd.2 b hb)
theorem jfK:∀(b a:List En),(b.foldl jch a).Perm (a++b)
 |[],a=>by simp
 |e::b,a=>by
  rw [aPC];exact (jfK b (jch a e)).trans (((jjM a e).append_right b).trans (by simpa using (List.perm_middle (a:=e) (l₁:=a) (l₂:=b)).symm))
theorem jrh:∀{b a:List En},SrtP a->((a++b).map (·.seq)).Nodup->SrtP (b.foldl jch a)
 |[],a,h,_=>h
 |e::b,a,h,hn=>by
  rw [aPC]
  have hp:((jch a e++b).map (·.seq)).Nodup:=by
   refine ((List.Perm.map _ (((jjM a e).append_right b).trans ?_)).nodup_iff).2 hn;simpa using (List.perm_middle (a:=e) (l₁:=a) (l₂:=b)).symm
  refine jrh (jrd h λx hx nP=>?_) hp
  rw [aOT,aNQ] at hn;exact (aMS.1 hn).2.2 _ (List.mem_map_of_mem hx) _ (by rw [nP];simp) rfl
def jlU (aMC id:Int):Int->List Int->List En
 |_,[]=>[]
 |q,t::ids=>⟨aMC,q,id,t⟩::jlU aMC id (q+1) ids
theorem jm5 (aMC id:Int):∀(ids:List Int) (q:Int),(jlU aMC id q ids).length=ids.length
 |[],_=>rfl
 |_::ids,q=>by simp [jlU,jm5 aMC id ids]
theorem jdL {aMC id:Int}:∀{ids:List Int} {q:Int} {e:En},e∈jlU aMC id q ids->e.aMC=aMC/\e.run=id/\e.aMA∈ids/\q<=e.seq/\e.seq<q+ids.length
 |[],_,_,h=>by simp [jlU] at h
 |t::ids,q,e,h=>by
  rcases aNB.1 h with rfl|h
  ·refine ⟨rfl,rfl,by simp,?_,?_⟩<;>(try dsimp only)<;>(try simp only [aNG])<;>omega
  ·obtain ⟨h1,h2,h3,h4,h5⟩:=jdL h
   refine ⟨h1,h2,by simp [h3],?_,?_⟩<;>(try simp only [aNG])<;>omega
theorem jlT (aMC id:Int):∀(ids:List Int) (q:Int),((jlU aMC id q ids).map (·.seq)).Nodup
 |[],_=>by simp [jlU]
 |t::ids,q=>by
  simp only [jlU,aNQ];refine aOP.2 ⟨λh=>?_,jlT aMC id ids (q+1)⟩
  obtain ⟨e,he,hq⟩:=aOB.1 h;have:=(jdL he).2.2.2.1;omega
theorem jrr (aMC id:Int) (t:Int):∀(ids:List Int) (q:Int),jaj id t (jlU aMC id q ids)=ids.count t
 |[],_=>by simp [jlU,jaj]
 |u::ids,q=>by
  have ih:=jrr aMC id t ids (q+1);simp only [jaj] at ih;simp only [jlU,jaj,aOX,aOY,Bool.true_and,List.count_cons];cases h:u==t<;>simp [ih]
theorem jj2 (aMC id:Int):∀(ids:List Int) (l:List En) (q:Int),(zl aMC id ids (l,q)).1.Perm (jlU aMC id q ids++l)
 |[],l,q=>by simp [zl,jlU]
 |t::ids,l,q=>by
  have ih:=jj2 aMC id ids (jch l ⟨aMC,q,id,t⟩) (q+1);simp only [zl,aPC,jlU] at ih⊢;refine ih.trans (((jjM l ⟨aMC,q,id,t⟩).append_left _).trans ?_);exact List.perm_middle
theorem jm7 (aMC id:Int):∀(ids:List Int) {l:List En} {q:Int},SrtP l->(∀x∈l,x.seq<q)->SrtP (zl aMC id ids (l,q)).1
 |[],_,_,h,_=>h
 |t::ids,l,q,h,hq=>by
  have:=jm7 aMC id ids (l:=jch l ⟨aMC,q,id,t⟩) (q:=q+1) (jrd h λx hx=>by have:=hq x hx;dsimp only;omega) (λx hx=>by
   rcases jre hx with hx|rfl
   ·have:=hq x hx;omega
   ·dsimp only;omega)
  simpa only [zl,aPC] using this
structure RnsI (now:Int) (rs:List Rn):Prop where
 eight:rs.length<=8
 right:∀r∈rs,RunOkP r
 ids:(rs.map (·.id)).Nodup
 til:∀r∈rs,∀(t:Nat) (x:Tk),r.aLT[t]?=some x->x.aLV=3->now+1<=x.til/\x.til<=now+r.aLW.aMF
 tri:∀r∈rs,∀x∈r.aLT,x.aLV=1->x.tri=0
structure EnsI (rs:List Rn) (q:Int) (L:List En):Prop where
 range:∀e∈L,1<=e.seq/\e.seq<=q-1
 apart:(L.map (·.seq)).Nodup
 own:∀e∈L,∃r∈rs,∃(t:Nat) (x:Tk),e.run=r.id/\e.aMA=t/\r.aLT[t]?=some x/\(x.aLV=2/\e.aMC=r.aLW.aMC\/x.aLV=6)
 one:∀r∈rs,∀(t:Nat) (x:Tk),r.aLT[t]?=some x->x.aLV=2->jaj r.id t L=1
def zr (rs:List Rn):Nat:=qN (λr=>cS 2 r.aLT) rs
structure YdI (y:Yd):Prop where
 now:0<=y.now/\y.now<=999999980
 seq:1<=y.seq
 four:y.aLU.length=4
 sorted:∀l∈y.aLU,SrtP l
 rns:RnsI y.now y.aLX
 ens:EnsI y.aLX y.seq y.aLU.flatten
 room:qN kH y.aLX+y.aLU.flatten.length<=40+zr y.aLX
theorem jwb {L M:List En} (h:L.Perm M) (id t:Int):jaj id t L=jaj id t M:=by
 simp only [jaj];exact (h.filter _).length_eq
theorem EnsI.perm {rs:List Rn} {q:Int} {L M:List En} (h:EnsI rs q L) (hp:L.Perm M):EnsI rs q M:=
 ⟨λe he=>h.range e (hp.mem_iff.2 he),((hp.map _).nodup_iff).1 h.apart,λe he=>h.own e (hp.mem_iff.2 he),λr hr t x hx hs=>by rw [<-jwb hp];exact h.one r hr t x hx hs⟩
theorem jAP {L:List En} {e:En} {id t:Int} (he:e∈L) (h1:e.run=id) (h2:e.aMA=t):1<=jaj id t L:=by
 have:e∈L.filter λe=>e.run==id&&e.aMA==t:=aOD.2 ⟨he,by simp [h1,h2]⟩
 exact List.length_pos_of_mem this
theorem jnu {L:List En} {id t:Int} (h:∀e∈L,¬(e.run=id/\e.aMA=t)):jaj id t L=0:=by
 have:L.filter (λe=>e.run==id&&e.aMA==t)=[]:=List.filter_eq_nil_iff.2 λe he=>by
  have:=h e he;simp;intro h1 h2;exact this ⟨h1,h2⟩
 simp [jaj,this]
theorem jhX (id t:Int) (L M:List En):jaj id t (L++M)=jaj id t L+jaj id t M:=by simp [jaj]
theorem joQ {rs:List Rn} (h:(rs.map (·.id)).Nodup) {j k:Nat} {r r':Rn} (h1:rs[j]?=some r) (h2:rs[k]?=some r') (he:r.id=r'.id):j=k:=by
 have hj:=(aMI.1 h1).1;have hk:=(aMI.1 h2).1;refine aOL λaR=>?_
 have e1:(rs.map (·.id))[j]?=some r.id:=by rw [aPG,h1];rfl
 have e2:(rs.map (·.id))[k]?=some r.id:=by rw [aPG,h2,he];rfl
 exact aR ((List.getElem?_inj (by simpa using hj) h).1 (e1.trans e2.symm))
theorem jjm {rs:List Rn} (h:(rs.map (·.id)).Nodup) {r r':Rn} (h1:r∈rs) (h2:r'∈rs) (he:r.id=r'.id):r=r':=by
 obtain ⟨j,hj⟩:=aNV h1;obtain ⟨k,hk⟩:=aNV h2;have:=joQ h hj hk he;subst this;rw [hj] at hk;exact aMW hk
theorem jg1 {y:Yd} (h8:y.aLX.length<=8) (h:(y.aLX.map (·.id)).Nodup) {k:Nat} {r:Rn} (hr:y.aLX[k]?=some r):runAt y r.id=k:=by
 unfold runAt;rw [if_neg (by omega)]
 refine jbZ hr rfl λj hj z hz he=>?_
 have:=joQ h hz hr he;omega
theorem jjo {y:Yd} (h8:y.aLX.length<=8) (h:(y.aLX.map (·.id)).Nodup) {e:En} {r:Rn} {t:Nat} {x:Tk} (hr:r∈y.aLX) (h1:e.run=r.id) (h2:e.aMA=t) (hx:r.aLT[t]?=some x):jP y e=(x.aLV==2):=by
 obtain ⟨k,hk⟩:=aNV hr;have:=jg1 h8 h hk;rw [<-h1] at this
 have ht:jad y e.run e.aMA=some x:=by
  unfold jad;simp only [this,h2,aMQ,hk];simp [hx]
 simp [jP,ht]
theorem tinL_mem {s:Int} {ts:List Tk} {v:Int}:v∈qQ s ts↔∃(t:Nat) (x:Tk),v=t/\ts[t]?=some x/\x.aLV=s:=by
 simp only [qQ,zh,aOB,aOD,aPJ];constructor
 ·rintro ⟨j,⟨hj,hs⟩,rfl⟩
  have hx:ts[j]?=some ts[j]:=aMK hj;rw [kt hx] at hs;exact ⟨j,_,rfl,hx,by simpa using hs⟩
 ·rintro ⟨t,x,rfl,hx,hs⟩
  exact ⟨t,⟨(aMI.1 hx).1,by rw [kt hx,hs];simp⟩,rfl⟩
theorem jcg (p:Nat->Bool) (n:Nat):(((List.range n).filter p).map λ(j:Nat)=>(j:Int)).Nodup:=by
 have h:((List.range n).filter p).Pairwise (· ≠ ·):=List.Pairwise.filter _ (List.nodup_range (n:=n))
 exact List.pairwise_map.2 (h.imp λnL e=>nL (by omega))
theorem jlr (s:Int) (ts:List Tk):(qQ s ts).Nodup:=jcg _ _
def jec (rs:List Rn):List (Int×Int):=rs.flatMap λr=>(qQ 2 r.aLT).map λt=>(r.id,t)
theorem jsF (rs:List Rn):(jec rs).length=zr rs:=by
 induction rs with
 |nil=>rfl
 |cons r rs ih=>simp only [jec,zr,qN,aNL,aMR,aNT,aNQ,aOW,cS] at ih⊢;rw [ih]
theorem readyK_mem {rs:List Rn} {a b:Int}:(a,b)∈jec rs↔∃r∈rs,∃(t:Nat) (x:Tk),a=r.id/\b=t/\r.aLT[t]?=some x/\x.aLV=2:=by
 simp only [jec,aPS,aOB,tinL_mem,Prod.mk.injEq];constructor
 ·rintro ⟨r,hr,v,⟨t,x,rfl,hx,hs⟩,rfl,rfl⟩;exact ⟨r,hr,t,x,rfl,rfl,hx,hs⟩
 ·rintro ⟨r,hr,t,x,rfl,rfl,hx,hs⟩;exact ⟨r,hr,_,⟨t,x,rfl,hx,hs⟩,rfl,rfl⟩
theorem jh6:∀{rs:List Rn},(rs.map (·.id)).Nodup->(jec rs).Nodup
 |[],_=>by simp [jec]
 |r::rs,h=>by
  obtain ⟨h1,h2⟩:=aOP.1 h;have ih:=jh6 h2;simp only [jec,aNL] at ih⊢;refine aMS.2 ⟨?_,ih,λa ha b hb e=>?_⟩
  ·have:(qQ 2 r.aLT).Pairwise (· ≠ ·):=jlr 2 r.aLT
   exact List.pairwise_map.2 (this.imp λnL e=>nL (by simpa using e))
  ·subst e
   obtain ⟨t,_,rfl⟩:=aOB.1 ha;obtain ⟨r',bE,_,_,he,_⟩:=readyK_mem.1 hb;exact h1 (aOB.2 ⟨r',bE,he.symm⟩)
theorem jbL {y:Yd} {q:Int} {L:List En} (h8:y.aLX.length<=8) (hi:(y.aLX.map (·.id)).Nodup) (h:EnsI y.aLX q L):(L.filter (jP y)).length=zr y.aLX:=by
 have gY:∀a b:Int,(a,b)∈(L.filter (jP y)).map (λe=>(e.run,e.aMA))↔(a,b)∈jec y.aLX:=by
  intro a b;rw [readyK_mem];constructor
  ·intro hm
   obtain ⟨e,he,nL⟩:=aOB.1 hm;obtain ⟨mT,cB⟩:=aOD.1 he;simp only [Prod.mk.injEq] at nL;obtain ⟨rfl,rfl⟩:=nL;obtain ⟨r,hr,t,x,h1,h2,h3,h4⟩:=h.own e mT;rw [jjo h8 hi hr h1 h2 h3] at cB;exact ⟨r,hr,t,x,h1,h2,h3,by simpa using cB⟩
  ·rintro ⟨r,hr,t,x,rfl,rfl,hx,hs⟩
   have h1:=h.one r hr t x hx hs;have:0<(L.filter λe=>e.run==r.id&&e.aMA==(t:Int)).length:=by simp only [jaj] at h1;omega
   obtain ⟨e,he⟩:=List.exists_mem_of_length_pos this;obtain ⟨mT,cB⟩:=aOD.1 he;simp only [aMY,aOO] at cB;refine aOB.2 ⟨e,aOD.2 ⟨mT,?_⟩,by simp [cB.1,cB.2]⟩
   rw [jjo h8 hi hr cB.1 cB.2 hx,hs];rfl
 have aX:((L.filter (jP y)).map λe=>(e.run,e.aMA)).Nodup:=by
  rw [List.nodup_iff_count];rintro ⟨a,b⟩;by_cases hm:(a,b)∈jec y.aLX
  ·obtain ⟨r,hr,t,x,rfl,rfl,hx,hs⟩:=readyK_mem.1 hm
   have h1:=h.one r hr t x hx hs;rw [List.count_eq_countP,List.countP_map,List.countP_filter,aOQ];refine aNX (Nat.le_of_eq ?_) (Nat.le_of_eq h1);simp only [jaj]
   congr 1
   refine List.filter_congr λe he=>?_
   simp only [Function.comp];by_cases h2:e.run=r.id/\e.aMA=t
   ·have:jP y e=true:=by rw [jjo h8 hi hr h2.1 h2.2 hx,hs];rfl
    simp [h2.1,h2.2,this]
   ·have e1:((e.run,e.aMA)==(r.id,(t:Int)))=false:=by
     simp only [beq_eq_false_iff_ne,ne_eq,Prod.mk.injEq];exact h2
    have e2:(e.run==r.id&&e.aMA==(t:Int))=false:=by
     simp only [Bool.and_eq_false_iff,beq_eq_false_iff_ne,ne_eq];by_cases h3:e.run=r.id
     ·exact .inr λh4=>h2 ⟨h3,h4⟩
     ·exact .inl h3
    rw [e1,e2];rfl
  ·rw [List.count_eq_zero.2 λeC=>hm ((gY a b).1 eC)];omega
 have hp:((L.filter (jP y)).map λe=>(e.run,e.aMA)).Perm (jec y.aLX):=
  (List.perm_ext_iff_of_nodup aX (jh6 hi)).2 λ⟨a,b⟩=>gY a b
 have:=hp.length_eq;rw [aNT,jsF] at this;exact this
theorem zM {r:Rn} (h:RunOkP r):cS 2 r.aLT<=kH r:=by
 by_cases h0:cS 2 r.aLT=0
 ·omega
 ·have eF:=jcJ h.st _ (aMV _)
  change cS 1 _+cS 2 _+cS 3 _+cS 4 _+cS 5 _+cS 6 _=_ at eF;have aJ:=h.aLV;have hl:=h.live
  have h1:r.aLV=1:=by
   rw [aJ] at hl⊢;unfold jg4 at hl⊢;rw [if_neg (by omega),if_neg (by omega),if_neg (by omega)] at hl⊢
   split at hl
   ·rename_i h;rw [if_pos h]
   ·exact absurd rfl hl
  rw [kH,if_pos h1];omega
theorem jdF:∀{rs:List Rn},(∀r∈rs,RunOkP r)->zr rs<=qN kH rs
 |[],_=>by simp [zr,qN]
 |r::rs,h=>by
  have h1:=zM (h r (by simp))
  have h2:=jdF (rs:=rs) λx hx=>h x (by simp [hx])
  simp only [zr,qN,aNQ,aOW] at h2⊢;omega
theorem YdI.ok {y:Yd} (h:YdI y) (hq:y.seq<=1000000000):YardOkP y:=by
 have hf:=jbL h.rns.eight h.rns.ids h.ens;have bZ:=jdF h.rns.right;have bY:=h.room;have aD:y.aLU.flatten.length<=40:=by omega
 refine ⟨h.now,⟨h.seq,hq⟩,h.four,h.rns.eight,λl hl=>⟨?_,(h.sorted l hl).ahead⟩,⟨h.ens.range,h.ens.apart⟩,h.rns.right,λk r hr=>jg1 h.rns.eight h.rns.ids hr,λr hr t x hx=>⟨λhs=>⟨λe he h1 h2=>?_,h.ens.one r hr t x hx hs⟩,h.rns.til r hr t x hx⟩,?_⟩
 ·have:l.length<=y.aLU.flatten.length:=(List.sublist_flatten_of_mem hl).length_le
  omega
 ·obtain ⟨r',bE,t',x',h3,h4,h5,h6⟩:=h.ens.own e he
  have:r=r':=jjm h.rns.ids hr bE (h1.symm.trans h3);subst this;obtain rfl:t=t':=by omega
  rw [hx] at h5;obtain rfl:=aMW h5;rcases h6 with h6|h6
  ·exact h6.2
  ·omega
 ·have aJ:qh y (zR y)+(y.aLU.flatten.filter (jP y)).length=y.aLU.flatten.length:=by
   simp only [qh,zR,aOQ];have:=List.length_eq_countP_add_countP (jP y) (l:=y.aLU.flatten);simp only [aOQ] at this;have e:y.aLU.flatten.filter (λe=>!jP y e)=y.aLU.flatten.filter (λa=>decide ¬jP y a=true):=List.filter_congr λa _=>by cases jP y a<;>rfl
   rw [e];omega
  simp only [kw];omega
def jpk:C:=iS [iA 2 (.box 27 4 (.t 0)),iA 3 (.box 60 11 (.t 1)),iA 4 wAK,iA 5 wAM] (.seq (iS [aT 8 11 3,iA 9 (iK 30 [8]),aU 10 9] (iD 10 (iS [aT 11 4 2,iA 12 (iK 61 [11]),iA 13 (wAS [(0,1,oI 5)]),wAA 4 12,wAB 5 13] .ret) .skip)) (iS [iA 6 wAK] (iS [iA 7 wAM] (.seq (iS [aF 14 0 3,aL 15 14] (.blk 0 (iS [aQ 23 .eql 3 15 1,aM 22 23] (iD 22 (.reg [aT 25 4 2,aF 26 1 3,aL 27 26,aF 28 2 3,aT 29 5 28,iA 30 (iK 44 [25,27,29]),aM 24 30,aE 31 24 0,aE 32 24 1,wAA 6 31,aF 33 0 7,wAD 33 32]) (iS [aQ 35 .eql 3 15 2,aM 34 35] (iD 34 (iS [aT 36 4 2,aF 37 9 3,aL 38 37,aF 39 10 3,aL 40 39,iA 41 (iK 14 [36,38,40]),aE 42 41 0,aE 43 41 1,wAA 4 42,wAB 5 43] .ret) (iS [aQ 45 .eql 3 15 3,aM 44 45] (iD 44 (.reg [aT 47 4 2,aF 48 1 3,aL 49 48,aF 50 7 3,aL 51 50,aF 52 8 3,aL 53 52,iA 54 (iK 55 [47,49,51,53]),aM 46 54,aE 55 46 0,aE 56 46 1,wAA 6 55,aF 57 0 7,wAD 57 56]) (iS [aQ 59 .eql 3 15 4,aM 58 59] (iD 58 (.reg [aT 61 4 2,aF 62 1 3,aL 63 62,aF 64 7 3,aL 65 64,aF 66 8 3,aL 67 66,iA 68 (iK 56 [61,63,65,67]),aM 60 68,aE 69 60 0,aE 70 60 1,wAA 6 69,aF 71 0 7,wAD 71 70]) (iS [aQ 73 .eql 3 15 5,aM 72 73] (iD 72 (.reg [aT 75 4 2,iA 76 (iK 51 [75]),aM 74 76,aE 77 74 0,aE 78 74 1,wAA 6 77,aF 79 0 7,wAD 79 78]) (iS [aQ 81 .eql 3 15 6,aM 80 81] (iD 80 (.reg [aT 83 4 2,aF 84 1 3,aL 85 84,iA 86 (iK 90 [83,85]),aM 82 86,aE 87 82 0,aE 88 82 1,wAA 6 87,aF 89 0 7,wAD 89 88]) (iS [aQ 91 .eql 3 15 7,aM 90 91] (iD 90 (.reg [aT 93 4 2,aF 94 1 3,aL 95 94,iA 96 (iK 91 [93,95]),aM 92 96,aE 97 92 0,aE 98 92 1,wAA 6 97,aF 99 0 7,wAD 99 98]) (iS [aT 16 4 2,iA 17 (iK 48 [16]),wAA 6 17] (iS [aT 18 4 2,iA 19 (iK 18 [18]),aU 20 19] (iD 20 (.reg [aF 21 0 7,iC (.st 1 [none] (.t 21) (oI 8))]) .skip))))))))))))))))))) (.seq (.dreg (tA 0 100 (iT 4 6) (tA 1 101 (iT 4 7) (.alt (wAA 4 100) [1] (.alt (wAB 5 101) [] .done .stop) .stop)))) .ret)))))
theorem jo7:fnC Tryz.prog Tryz.f29=some (jpk,[.cell 4 true 4,.cell 5 true 4],102):=by kernel_rfl
def jpi:C:=iS [iA 2 (.box 27 4 (.t 0)),iA 3 (.box 60 11 (.t 1)),iA 4 wAK,iA 5 wAM] (iS [aN 6 0] (iS [iA 8 (wAV []),iA 7 wAK,wAA 7 8] (.seq (iS [aT 9 11 3,iA 10 (iK 147 [9]),aU 11 10] (iD 11 (iS [aT 12 4 2,iA 13 (iK 67 [12]),iA 14 (wAS [(0,1,oI 5)]),wAA 4 13,wAB 5 14] .ret) .skip)) (.seq (iS [aF 15 0 3,aL 16 15] (.blk 0 (iS [aQ 23 .eql 3 16 1,aM 22 23] (iD 22 (.reg [aT 25 4 2,aF 26 1 3,aL 27 26,aF 28 2 3,aT 29 5 28,iA 30 (iK 45 [25,27,29]),aM 24 30,aE 31 24 0,aE 32 24 1,wAA 7 31,aM 6 32]) (iS [aQ 34 .eql 3 16 2,aM 33 34] (iD 33 (iS [aT 35 4 2,aF 36 9 3,aL 37 36,aF 38 10 3,aL 39 38,iA 40 (iK 15 [35,37,39]),aE 41 40 0,aE 42 40 1,wAA 4 41,wAB 5 42] .ret) (iS [aQ 44 .eql 3 16 3,aM 43 44] (iD 43 (.reg [aT 46 4 2,aF 47 1 3,aL 48 47,aF 49 7 3,aL 50 49,aF 51 8 3,aL 52 51,iA 53 (iK 148 [46,48,50,52]),aM 45 53,aE 54 45 0,aE 55 45 1,wAA 7 54,aM 6 55]) (iS [aQ 57 .eql 3 16 4,aM 56 57] (iD 56 (.reg [aT 59 4 2,aF 60 1 3,aL 61 60,aF 62 7 3,aL 63 62,aF 64 8 3,aL 65 64,iA 66 (iK 149 [59,61,63,65]),aM 58 66,aE 67 58 0,aE 68 58 1,wAA 7 67,aM 6 68]) (iS [aQ 70 .eql 3 16 5,aM 69 70] (iD 69 (.reg [aT 72 4 2,iA 73 (iK 52 [72]),aM 71 73,aE 74 71 0,aE 75 71 1,wAA 7 74,aM 6 75]) (iS [aQ 77 .eql 3 16 6,aM 76 77] (iD 76 (.reg [aT 79 4 2,aF 80 1 3,aL 81 80,iA 82 (iK 150 [79,81]),aM 78 82,aE 83 78 0,aE 84 78 1,wAA 7 83,aM 6 84]) (iS [aQ 86 .eql 3 16 7,aM 85 86] (iD 85 (.reg [aT 88 4 2,aF 89 1 3,aL 90 89,iA 91 (iK 151 [88,90]),aM 87 91,aE 92 87 0,aE 93 87 1,wAA 7 92,aM 6 93]) (iS [aT 17 4 2,iA 18 (iK 49 [17]),wAA 7 18] (iS [aT 19 4 2,iA 20 (iK 66 [19]),aU 21 20] (iD 21 (.reg [aN 6 8]) .skip))))))))))))))))))) (iS [aT 94 4 7,aM 95 6,iA 96 (wAS [(0,1,.t 95)]),wAA 4 94,wAB 5 96] .ret)))))
theorem jo6:fnC Tryz.prog Tryz.f95=some (jpi,[.cell 4 true 4,.cell 5 true 4],97):=by kernel_rfl
theorem joq (y:Yd) (d:Dd) (ht:jt y<=1900000) (hd:jbX d<=2000000):kg Tryz.prog 29 [.agg (jb y),.agg (jj d)] (.tup [(true,jb (doY y d)),(true,qO (doQ y d))]):=by
 refine pf_ jo7 ?_;unfold jpk;have dZ:jt y<=2000000:=by omega
 have m8:jt y<=1990000:=by omega
 have iW:d.aLW.aLY.length<=4000000:=by simp only [jbX,jeZ] at hd;omega
 simp only [go_sem,jb,jj,ja];intro b2 b3 b4 b5;refine jn (jfN d hd) (by simp only [go_sem,jb,jj,ja,aOS,aON]) λη=>?_
 simp only [go_sem,jb,jj,ja,aOS,aON];cases hk:kb d
 ·have hy:doY y d=y:=by rw [doY,if_pos hk]
  have hq:doQ y d=⟨5,0,0,0⟩:=by rw [doQ,if_pos hk]
  rw [hy,hq];simp only [go_sem,Bool.not_false,jb,jj,ja];refine jx (ke y dZ) λη=>?_
  simp only [go_sem,jb,jj,ja];simp only [vA];refine jp _ _ _ _ _ ?_;simp only [go_sem,jD,true_or];refine jp _ _ _ _ _ ?_;simp only [go_sem,jD,jV,jL,true_or,jb]
 have cD:¬kb d=false:=by rw [hk];decide
 simp only [go_sem,Bool.not_true,jb,jj,ja];intro b6 b7;by_cases h1:d.aMD=1
 ·have hy:doY y d=jcL y d.run d.aLW:=by rw [doY,if_neg cD,if_pos h1]
  have hq:doQ y d=⟨jdA y d.run d.aLW,0,0,0⟩:=by rw [doQ,if_neg cD,if_pos h1]
  have e1:(d.aMD==1)=true:=by simp [h1]
  rw [hy,hq];simp only [go_sem,jb,jj,ja,e1];refine jn (jmW y d.run d.aLW dZ iW) (by simp only [go_sem,jb,jj,ja,e1]) λη=>?_
  simp only [go_sem,jb,jj,ja,e1];simp only [vA];refine jp _ _ _ _ _ ?_;simp only [go_sem,jD,true_or];refine jp _ _ _ _ _ ?_;simp only [go_sem,jD,jV,jL,true_or,jb]
 have e1:(d.aMD==1)=false:=by simp [h1]
 by_cases h2:d.aMD=2
 ·have hy:doY y d=qj y d.aLZ d.aMB:=by rw [doY,if_neg cD,if_neg h1,if_pos h2]
  have hq:doQ y d=ja5 y d.aLZ d.aMB:=by rw [doQ,if_neg cD,if_neg h1,if_pos h2]
  have e2:(d.aMD==2)=true:=by simp [h2]
  rw [hy,hq];simp only [go_sem,jb,jj,ja,e1,e2];refine jn (jjU y d.aLZ d.aMB dZ) (by simp only [go_sem,jb,jj,ja,e1,e2,qO]) λη=>?_
  simp only [go_sem,jb,jj,ja,e1,e2,qO];simp only [vA];refine jp _ _ _ _ _ ?_;simp only [go_sem,jD,true_or];refine jp _ _ _ _ _ ?_;simp only [go_sem,jD,jV,jL,true_or,jb]
 have e2:(d.aMD==2)=false:=by simp [h2]
 by_cases h3:d.aMD=3
 ·have hy:doY y d=qz y d.run d.aMA d.tri:=by rw [doY,if_neg cD,if_neg h1,if_neg h2,if_pos h3]
  have hq:doQ y d=⟨zm y d.run d.aMA d.tri,0,0,0⟩:=by rw [doQ,if_neg cD,if_neg h1,if_neg h2,if_pos h3]
  have e3:(d.aMD==3)=true:=by simp [h3]
  rw [hy,hq];simp only [go_sem,jb,jj,ja,e1,e2,e3];refine jn (vq y d.run d.aMA d.tri dZ) (by simp only [go_sem,jb,jj,ja,e1,e2,e3]) λη=>?_
  simp only [go_sem,jb,jj,ja,e1,e2,e3];simp only [vA];refine jp _ _ _ _ _ ?_;simp only [go_sem,jD,true_or];refine jp _ _ _ _ _ ?_;simp only [go_sem,jD,jV,jL,true_or,jb]
 have e3:(d.aMD==3)=false:=by simp [h3]
 by_cases h4:d.aMD=4
 ·have hy:doY y d=vp y d.run d.aMA d.tri:=by rw [doY,if_neg cD,if_neg h1,if_neg h2,if_neg h3,if_pos h4]
  have hq:doQ y d=⟨zm y d.run d.aMA d.tri,0,0,0⟩:=by rw [doQ,if_neg cD,if_neg h1,if_neg h2,if_neg h3,if_pos h4]
  have e4:(d.aMD==4)=true:=by simp [h4]
  rw [hy,hq];simp only [go_sem,jb,jj,ja,e1,e2,e3,e4];refine jn (je7 y d.run d.aMA d.tri dZ) (by simp only [go_sem,jb,jj,ja,e1,e2,e3,e4]) λη=>?_
  simp only [go_sem,jb,jj,ja,e1,e2,e3,e4];simp only [vA];refine jp _ _ _ _ _ ?_;simp only [go_sem,jD,true_or];refine jp _ _ _ _ _ ?_;simp only [go_sem,jD,jV,jL,true_or,jb]
 have e4:(d.aMD==4)=false:=by simp [h4]
 by_cases h5:d.aMD=5
 ·have hy:doY y d=jaE y:=by rw [doY,if_neg cD,if_neg h1,if_neg h2,if_neg h3,if_neg h4,if_pos h5]
  have hq:doQ y d=⟨ja3 y,0,0,0⟩:=by rw [doQ,if_neg cD,if_neg h1,if_neg h2,if_neg h3,if_neg h4,if_pos h5]
  have e5:(d.aMD==5)=true:=by simp [h5]
  rw [hy,hq];simp only [go_sem,jb,jj,ja,e1,e2,e3,e4,e5];refine jn (jp1 y m8) (by simp only [go_sem,jb,jj,ja,e1,e2,e3,e4,e5]) λη=>?_
  simp only [go_sem,jb,jj,ja,e1,e2,e3,e4,e5];simp only [vA];refine jp _ _ _ _ _ ?_;simp only [go_sem,jD,true_or];refine jp _ _ _ _ _ ?_;simp only [go_sem,jD,jV,jL,true_or,jb]
 have e5:(d.aMD==5)=false:=by simp [h5]
 by_cases h6:d.aMD=6
 ·have hy:doY y d=jX y d.run:=by rw [doY,if_neg cD,if_neg h1,if_neg h2,if_neg h3,if_neg h4,if_neg h5,if_pos h6]
  have hq:doQ y d=⟨kK y d.run,0,0,0⟩:=by rw [doQ,if_neg cD,if_neg h1,if_neg h2,if_neg h3,if_neg h4,if_neg h5,if_pos h6]
  have e6:(d.aMD==6)=true:=by simp [h6]
  rw [hy,hq];simp only [go_sem,jb,jj,ja,e1,e2,e3,e4,e5,e6];refine jn (jm2 y d.run dZ) (by simp only [go_sem,jb,jj,ja,e1,e2,e3,e4,e5,e6]) λη=>?_
  simp only [go_sem,jb,jj,ja,e1,e2,e3,e4,e5,e6];simp only [vA];refine jp _ _ _ _ _ ?_;simp only [go_sem,jD,true_or];refine jp _ _ _ _ _ ?_;simp only [go_sem,jD,jV,jL,true_or,jb]
 have e6:(d.aMD==6)=false:=by simp [h6]
 by_cases h7:d.aMD=7
 ·have hy:doY y d=vH y d.run:=by rw [doY,if_neg cD,if_neg h1,if_neg h2,if_neg h3,if_neg h4,if_neg h5,if_neg h6,if_pos h7]
  have hq:doQ y d=⟨zj y d.run,0,0,0⟩:=by rw [doQ,if_neg cD,if_neg h1,if_neg h2,if_neg h3,if_neg h4,if_neg h5,if_neg h6,if_pos h7]
  have e7:(d.aMD==7)=true:=by simp [h7]
  rw [hy,hq];simp only [go_sem,jb,jj,ja,e1,e2,e3,e4,e5,e6,e7];refine jn (jm1 y d.run dZ) (by simp only [go_sem,jb,jj,ja,e1,e2,e3,e4,e5,e6,e7]) λη=>?_
  simp only [go_sem,jb,jj,ja,e1,e2,e3,e4,e5,e6,e7];simp only [vA];refine jp _ _ _ _ _ ?_;simp only [go_sem,jD,true_or];refine jp _ _ _ _ _ ?_;simp only [go_sem,jD,jV,jL,true_or,jb]
 have e7:(d.aMD==7)=false:=by simp [h7]
 have hy:doY y d=jbG y:=by rw [doY,if_neg cD,if_neg h1,if_neg h2,if_neg h3,if_neg h4,if_neg h5,if_neg h6,if_neg h7]
 rw [hy];simp only [go_sem,jb,jj,ja,e1,e2,e3,e4,e5,e6,e7];refine jn (jk6 y m8) (by simp only [go_sem,jb,jj,ja,e1,e2,e3,e4,e5,e6,e7]) λη=>?_
 simp only [go_sem,jb,jj,ja,e1,e2,e3,e4,e5,e6,e7];refine jn (kJ y dZ) (by simp only [go_sem,jb,jj,ja,e1,e2,e3,e4,e5,e6,e7]) λη=>?_
 simp only [go_sem,jb,jj,ja,e1,e2,e3,e4,e5,e6,e7];cases aC:jw y
 ·have hq:doQ y d=⟨8,0,0,0⟩:=by rw [doQ,if_neg cD,if_neg h1,if_neg h2,if_neg h3,if_neg h4,if_neg h5,if_neg h6,if_neg h7,if_neg (by rw [aC];decide)]
  rw [hq];simp only [go_sem,Bool.not_false,jb];simp only [vA];refine jp _ _ _ _ _ ?_;simp only [go_sem,jD,true_or];refine jp _ _ _ _ _ ?_;simp only [go_sem,jD,jV,jL,true_or,jb]
 ·have hq:doQ y d=⟨0,0,0,0⟩:=by rw [doQ,if_neg cD,if_neg h1,if_neg h2,if_neg h3,if_neg h4,if_neg h5,if_neg h6,if_neg h7,if_pos aC]
  rw [hq];simp only [go_sem,Bool.not_true,jb];simp only [vA];refine jp _ _ _ _ _ ?_;simp only [go_sem,jD,true_or];refine jp _ _ _ _ _ ?_;simp only [go_sem,jD,jV,jL,true_or,jb]
theorem joj (y:Yd) (d:Dd) (ht:jt y<=1900000) (hd:jbX d<=2000000):kg Tryz.prog 95 [.agg (jb y),.agg (jj d)] (.tup [(true,jb (doY y d)),(true,qO (doQ y d))]):=by
 refine pf_ jo6 ?_;unfold jpi;have dZ:jt y<=2000000:=by omega
 have m8:jt y<=1990000:=by omega
 have iW:d.aLW.aLY.length<=4000000:=by simp only [jbX,jeZ] at hd;omega
 simp only [go_sem,jb,jj,ja];intro b2 b3 b4 b5 b7;refine jn (jmR d hd) (by simp only [go_sem,jb,jj,ja,aOS,aON]) λη=>?_
 simp only [go_sem,jb,jj,ja,aOS,aON];cases hk:kb d
 ·have hy:doY y d=y:=by rw [doY,if_pos hk]
  have hq:doQ y d=⟨5,0,0,0⟩:=by rw [doQ,if_pos hk]
  rw [hy,hq];simp only [go_sem,Bool.not_false,jb,jj,ja];refine jx (kp y dZ) λη=>?_
  simp only [go_sem,jb,jj,ja];simp only [vA];refine jp _ _ _ _ _ ?_;simp only [go_sem,jD,true_or];refine jp _ _ _ _ _ ?_;simp only [go_sem,jD,jV,jL,true_or,jb]
 have cD:¬kb d=false:=by rw [hk];decide
 simp only [go_sem,Bool.not_true,jb,jj,ja];by_cases h1:d.aMD=1
 ·have hy:doY y d=jcL y d.run d.aLW:=by rw [doY,if_neg cD,if_pos h1]
  have hq:doQ y d=⟨jdA y d.run d.aLW,0,0,0⟩:=by rw [doQ,if_neg cD,if_pos h1]
  have e1:(d.aMD==1)=true:=by simp [h1]
  rw [hy,hq];simp only [go_sem,jb,jj,ja,e1];refine jn (jmL y d.run d.aLW dZ iW) (by simp only [go_sem,jb,jj,ja,e1]) λη=>?_
  simp only [go_sem,jb,jj,ja,e1];simp only [vA];refine jp _ _ _ _ _ ?_;simp only [go_sem,jD,true_or];refine jp _ _ _ _ _ ?_;simp only [go_sem,jD,jV,jL,true_or,jb]
 have e1:(d.aMD==1)=false:=by simp [h1]
 by_cases h2:d.aMD=2
 ·have hy:doY y d=qj y d.aLZ d.aMB:=by rw [doY,if_neg cD,if_neg h1,if_pos h2]
  have hq:doQ y d=ja5 y d.aLZ d.aMB:=by rw [doQ,if_neg cD,if_neg h1,if_pos h2]
  have e2:(d.aMD==2)=true:=by simp [h2]
  rw [hy,hq];simp only [go_sem,jb,jj,ja,e1,e2];refine jn (jpX y d.aLZ d.aMB dZ) (by simp only [go_sem,jb,jj,ja,e1,e2,qO]) λη=>?_
  simp only [go_sem,jb,jj,ja,e1,e2,qO];simp only [vA];refine jp _ _ _ _ _ ?_;simp only [go_sem,jD,true_or];refine jp _ _ _ _ _ ?_;simp only [go_sem,jD,jV,jL,true_or,jb]
 have e2:(d.aMD==2)=false:=by simp [h2]
 by_cases h3:d.aMD=3
 ·have hy:doY y d=qz y d.run d.aMA d.tri:=by rw [doY,if_neg cD,if_neg h1,if_neg h2,if_pos h3]
  have hq:doQ y d=⟨zm y d.run d.aMA d.tri,0,0,0⟩:=by rw [doQ,if_neg cD,if_neg h1,if_neg h2,if_pos h3]
  have e3:(d.aMD==3)=true:=by simp [h3]
  rw [hy,hq];simp only [go_sem,jb,jj,ja,e1,e2,e3];refine jn (jjS y d.run d.aMA d.tri dZ) (by simp only [go_sem,jb,jj,ja,e1,e2,e3]) λη=>?_
  simp only [go_sem,jb,jj,ja,e1,e2,e3];simp only [vA];refine jp _ _ _ _ _ ?_;simp only [go_sem,jD,true_or];refine jp _ _ _ _ _ ?_;simp only [go_sem,jD,jV,jL,true_or,jb]
 have e3:(d.aMD==3)=false:=by simp [h3]
 by_cases h4:d.aMD=4
 ·have hy:doY y d=vp y d.run d.aMA d.tri:=by rw [doY,if_neg cD,if_neg h1,if_neg h2,if_neg h3,if_pos h4]
  have hq:doQ y d=⟨zm y d.run d.aMA d.tri,0,0,0⟩:=by rw [doQ,if_neg cD,if_neg h1,if_neg h2,if_neg h3,if_pos h4]
  have e4:(d.aMD==4)=true:=by simp [h4]
  rw [hy,hq];simp only [go_sem,jb,jj,ja,e1,e2,e3,e4];refine jn (jpY y d.run d.aMA d.tri dZ) (by simp only [go_sem,jb,jj,ja,e1,e2,e3,e4]) λη=>?_
  simp only [go_sem,jb,jj,ja,e1,e2,e3,e4];simp only [vA];refine jp _ _ _ _ _ ?_;simp only [go_sem,jD,true_or];refine jp _ _ _ _ _ ?_;simp only [go_sem,jD,jV,jL,true_or,jb]
 have e4:(d.aMD==4)=false:=by simp [h4]
 by_cases h5:d.aMD=5
 ·have hy:doY y d=jaE y:=by rw [doY,if_neg cD,if_neg h1,if_neg h2,if_neg h3,if_neg h4,if_pos h5]
  have hq:doQ y d=⟨ja3 y,0,0,0⟩:=by rw [doQ,if_neg cD,if_neg h1,if_neg h2,if_neg h3,if_neg h4,if_pos h5]
  have e5:(d.aMD==5)=true:=by simp [h5]
  rw [hy,hq];simp only [go_sem,jb,jj,ja,e1,e2,e3,e4,e5];refine jn (jpW y m8) (by simp only [go_sem,jb,jj,ja,e1,e2,e3,e4,e5]) λη=>?_
  simp only [go_sem,jb,jj,ja,e1,e2,e3,e4,e5];simp only [vA];refine jp _ _ _ _ _ ?_;simp only [go_sem,jD,true_or];refine jp _ _ _ _ _ ?_;simp only [go_sem,jD,jV,jL,true_or,jb]
 have e5:(d.aMD==5)=false:=by simp [h5]
 by_cases h6:d.aMD=6
 ·have hy:doY y d=jX y d.run:=by rw [doY,if_neg cD,if_neg h1,if_neg h2,if_neg h3,if_neg h4,if_neg h5,if_pos h6]
  have hq:doQ y d=⟨kK y d.run,0,0,0⟩:=by rw [doQ,if_neg cD,if_neg h1,if_neg h2,if_neg h3,if_neg h4,if_neg h5,if_pos h6]
  have e6:(d.aMD==6)=true:=by simp [h6]
  rw [hy,hq];simp only [go_sem,jb,jj,ja,e1,e2,e3,e4,e5,e6];refine jn (jmS y d.run dZ) (by simp only [go_sem,jb,jj,ja,e1,e2,e3,e4,e5,e6]) λη=>?_
  simp only [go_sem,jb,jj,ja,e1,e2,e3,e4,e5,e6];simp only [vA];refine jp _ _ _ _ _ ?_;simp only [go_sem,jD,true_or];refine jp _ _ _ _ _ ?_;simp only [go_sem,jD,jV,jL,true_or,jb]
 have e6:(d.aMD==6)=false:=by simp [h6]
 by_cases h7:d.aMD=7
 ·have hy:doY y d=vH y d.run:=by rw [doY,if_neg cD,if_neg h1,if_neg h2,if_neg h3,if_neg h4,if_neg h5,if_neg h6,if_pos h7]
  have hq:doQ y d=⟨zj y d.run,0,0,0⟩:=by rw [doQ,if_neg cD,if_neg h1,if_neg h2,if_neg h3,if_neg h4,if_neg h5,if_neg h6,if_pos h7]
  have e7:(d.aMD==7)=true:=by simp [h7]
  rw [hy,hq];simp only [go_sem,jb,jj,ja,e1,e2,e3,e4,e5,e6,e7];refine jn (jmQ y d.run dZ) (by simp only [go_sem,jb,jj,ja,e1,e2,e3,e4,e5,e6,e7]) λη=>?_
  simp only [go_sem,jb,jj,ja,e1,e2,e3,e4,e5,e6,e7];simp only [vA];refine jp _ _ _ _ _ ?_;simp only [go_sem,jD,true_or];refine jp _ _ _ _ _ ?_;simp only [go_sem,jD,jV,jL,true_or,jb]
 have e7:(d.aMD==7)=false:=by simp [h7]
 have hy:doY y d=jbG y:=by rw [doY,if_neg cD,if_neg h1,if_neg h2,if_neg h3,if_neg h4,if_neg h5,if_neg h6,if_neg h7]
 rw [hy];simp only [go_sem,jb,jj,ja,e1,e2,e3,e4,e5,e6,e7];refine jn (jk0 y m8) (by simp only [go_sem,jb,jj,ja,e1,e2,e3,e4,e5,e6,e7]) λη=>?_
 simp only [go_sem,jb,jj,ja,e1,e2,e3,e4,e5,e6,e7];refine jn (qq y dZ) (by simp only [go_sem,jb,jj,ja,e1,e2,e3,e4,e5,e6,e7]) λη=>?_
 simp only [go_sem,jb,jj,ja,e1,e2,e3,e4,e5,e6,e7];cases aC:jw y
 ·have hq:doQ y d=⟨8,0,0,0⟩:=by rw [doQ,if_neg cD,if_neg h1,if_neg h2,if_neg h3,if_neg h4,if_neg h5,if_neg h6,if_neg h7,if_neg (by rw [aC];decide)]
  rw [hq];simp only [go_sem,Bool.not_false,jb];simp only [vA];refine jp _ _ _ _ _ ?_;simp only [go_sem,jD,true_or];refine jp _ _ _ _ _ ?_;simp only [go_sem,jD,jV,jL,true_or,jb]
 ·have hq:doQ y d=⟨0,0,0,0⟩:=by rw [doQ,if_neg cD,if_neg h1,if_neg h2,if_neg h3,if_neg h4,if_neg h5,if_neg h6,if_neg h7,if_pos aC]
  rw [hq];simp only [go_sem,Bool.not_true,jb];simp only [vA];refine jp _ _ _ _ _ ?_;simp only [go_sem,jD,true_or];refine jp _ _ _ _ _ ?_;simp only [go_sem,jD,jV,jL,true_or,jb]
