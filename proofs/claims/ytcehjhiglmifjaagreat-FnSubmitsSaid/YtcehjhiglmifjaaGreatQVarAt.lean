/- Parts. -/
import Derived.Test.YtcehjhiglmifjaaGreatQTurnP
set_option linter.all false
set_option maxHeartbeats 16000000
set_option maxRecDepth 100000
namespace Go.Proofs.YtcehjhiglmifjaaGreat
open Go.RowKit Go.Sort
section
variable {s:St} {K:St->Prop}
theorem jvI (g c sz lo n:Nat) (p:List Nat) (x:Value) (l:List A0) (R:List Cell->St->Prop):qC s (.hs g c p x sz lo n::l) R=qC s l (λcs s'=>R (.a (.hs g c p x sz lo n)::cs) s'):=by simp [qC,A0.one]
theorem jst {w:World} {d:D} {u:Value} {S:List Nat} (hd:d.isSl=true) (hs:0<d.size) (h:Rep w true d u S):jj9 u d.size 0 d.len=u:=by
 cases d with
 |val _=>cases hd
 |sl size ty cs=>
  obtain ⟨vs,T,S',hr,hl,_⟩:=h;have aC:=RepL.length _ hl;rcases qM hr with ⟨rfl,rfl⟩|⟨g,n,c,rfl,_,h3,_⟩
  ·have:cs=[]:=aPS (by simpa using aC.symm)
   subst this;simp [jj9,D.len,D.cells,D.size]
  ·have e:(D.sl size ty cs).len=n:=by
    simp only [D.len,D.cells,D.size];rw [<-aC,h3];exact aPZ _ hs
   rw [e];simp only [jj9,Nat.zero_mul,Nat.sub_zero];split
   ·rfl
   ·simp [Addr.add_lit]
theorem jlR {B:Nat} {w:World} {a a':A0} (h:∀u,A0Rel B w a u->A0Rel B w a' u):∀{c:Nat} {l:List Cell} {us:List Value} {S:List Nat},CRel B w l us S->l[c]?=some (.a a)->CRel B w (l.set c (.a a')) us S
 |_,[],_,_,_,hc=>by simp at hc
 |0,.a x::l,_,S,⟨v,us',e,h1,h2⟩,hc=>by
  simp at hc;subst hc;exact ⟨v,us',e,h _ h1,h2⟩
 |0,.own e ε::l,_,_,_,hc=>by simp at hc
 |c+1,.a x::l,_,S,⟨v,us',e,h1,h2⟩,hc=>by
  simp at hc;exact ⟨v,us',e,h1,jlR h h2 hc⟩
 |c+1,.own e ε::l,_,_,⟨v,us',T1,T2,e1,e2,h1,h2,h3,h4⟩,hc=>by
  simp at hc;exact ⟨v,us',T1,T2,e1,e2,h1,h2,h3,jlR h h4 hc⟩
theorem joV (g c:Nat) {b ty:Nat} {cs:List Cell} {a a':A0} (hb:s.o g=.box b ty cs) (hc:cs[c]?=some (.a a)) (h:∀(B N:Nat) (w0 w:World) (act:Act) (F:Nat->List Nat),RelF B w0 N s act w F->∀u,A0Rel B w a u->A0Rel B w a' u) (hk:WkK (s.setO g (.box b ty (cs.set c (.a a')))) K):WkK s K:=by
 intro B N w0 w act F hr;have h4:=hr.ob g;rw [hb] at h4;obtain ⟨us,S1,q1,q2,q3⟩:=h4;refine hk _ _ _ _ _ _ (hr.setO (g:=g) (ob:=.box b ty (cs.set c (.a a'))) (S:=F g) ⟨us,S1,q1,jlR (h _ _ _ _ _ _ hr) q2 hc,q3⟩ (hr.fr g) λg' dE x hx bV=>hr.dj g' g dE x bV hx)
theorem jfA (g c g2:Nat) {b ty:Nat} {cs:List Cell} {d:D} {η:jg} (hb:s.o g=.box b ty cs) (hc:cs[c]?=some (.own d η)) (h2:s.o g2=.none) (aK:g2≠g) (cW:0<d.size)
 (hk:WkK (((s.rm g c).setO g2 (.loose d η)).setO g (.box b ty (cs.set c (.a (.hs g2 0 [] (η []) d.size 0 d.len))))) K):WkK s K:=by
 have dN:=(aOS.1 hc).1;have ho:(s.o g).own c=some (d,η):=by rw [hb];simp [Ob.own,hc]
 refine qD g c g2 ho h2 aK λeK=>?_
 have rQ:(s.rm g c).o g=.box b ty (cs.set c (.a (.v (η [])))):=by
  show (if g=g then (s.o g).rm c else _)=_
  rw [if_pos rfl,hb];simp only [Ob.rm,hc,rmC]
 refine joV g c (a:=.v (η [])) (b:=b) (ty:=ty) (cs:=cs.set c (.a (.v (η [])))) (by
  show (if g=g2 then _ else (s.rm g c).o g)=_
  rw [if_neg (Ne.symm aK)];exact rQ) (aOY dN) (a':=.hs g2 0 [] (η []) d.size 0 d.len) (λB N w0 w act F hr u hu=>?_) ?_
 ·have h3:=hr.ob g2
  have e:((s.rm g c).setO g2 (.loose d η)).o g2=.loose d η:=by show (if g2=g2 then _ else _)=_;rw [if_pos rfl]
  rw [e] at h3;obtain ⟨k1,u',k2,k3⟩:=h3;have e2:η []=u':=by rw [k3,jax k1]
  have hu':u=η []:=hu;rw [hu'];exact ⟨.inl (by rw [e2,jst k1 cW k2]),eK⟩
 ·rw [aQB];exact hk
theorem jbD (g c g2:Nat) {g3 sz n b ty:Nat} {cs:List Cell} {d:D} {η:jg} {x:Value} (hb:s.o g=.box b ty cs) (hc:cs[c]?=some (.a (.hs g3 0 [] x sz 0 n))) (hx:x=η []) (hs:sz=d.size) (hn:n=d.len) (h2:s.o g2=.loose d η) (cW:0<d.size)
 (hk:WkK (((s.setO g (.box b ty (cs.set c (.a (.v (η [])))))).setO g2 .none).setO g (.box b ty (cs.set c (.own d η)))) K):WkK s K:=by
 have dN:=(aOS.1 hc).1;have aK:g2≠g:=λe=>by rw [e,hb] at h2;cases h2
 subst hx hs hn;refine joV g c (a:=.hs g3 0 [] (η []) d.size 0 d.len) hb hc (a':=.v (η [])) (λB N w0 w act F hr u hu=>?_) ?_
 ·have h3:=hr.ob g2
  rw [h2] at h3;obtain ⟨k1,u',k2,k3⟩:=h3;have e2:η []=u':=by rw [k3,jax k1]
  obtain ⟨h5,_⟩:=hu;have h5:=h5.resolve_right λh=>absurd h.1 (Nat.lt_irrefl 0)
  show u=η [];rw [h5,e2,jst k1 cW k2]
 ·refine qx g c g2 (b:=b) (ty:=ty) (cs:=cs.set c (.a (.v (η [])))) (d:=d) (η:=η) (by show (if g=g then _ else _)=_;rw [if_pos rfl]) (aOY dN) (by show (if g2=g then _ else s.o g2)=_;rw [if_neg aK];exact h2) ?_
  rw [aQB];exact hk
end
attribute [go_sem] jvI
theorem jd6 {h:Nat} (hh:h<4) (aOM:Int):∃a b c:Nat,ja9 h aOM=[(a:Int),(b:Int),(c:Int)]/\a<4/\b<4/\c<4/\a≠h/\b≠h/\c≠h:=by
 have hb:brI (h:Int) 0 3=h:=by
  unfold brI;rw [if_neg (by omega),if_neg (by omega)]
 have hd:0<=(if aOM<0 then 0 else aOM):=by split<;>omega
 obtain ⟨v0,v1,v2⟩:=jsk h aOM h _ hb rfl (by omega)
 have e:∀j:Nat,((h:Int)+(j:Int)).tmod 4=(((h+j)%4:Nat):Int):=λj=>by
  rw [aQA (by omega)];omega
 have e1:=e 1;have e2:=e 2;have e3:=e 3;simp only [Int.cast_ofNat_Int] at e1 e2 e3;rcases jyL hd with h3|h3|h3
 ·exact ⟨(h+1)%4,(h+2)%4,(h+3)%4,by rw [v0 h3,e1,e2,e3],by omega,by omega,by omega,by omega,by omega,by omega⟩
 ·exact ⟨(h+2)%4,(h+3)%4,(h+1)%4,by rw [v1 h3,e1,e2,e3],by omega,by omega,by omega,by omega,by omega,by omega⟩
 ·exact ⟨(h+3)%4,(h+1)%4,(h+2)%4,by rw [v2 h3,e1,e2,e3],by omega,by omega,by omega,by omega,by omega,by omega⟩
theorem ju0 {y z:Yd} (h:z.aOH=y.aOH) (e:En):jJ z e=jJ y e:=by
 cases y;cases z;dsimp only at h;subst h;rfl
def pollV (z:Yd) (cL v:Nat):Yd:=
 let s:=(qr z v).aOE
 ⟨z.now,z.seq,(s.set v (ja2 ((s[v]?).getD []))).set cL (kS ((s[cL]?).getD []) (vf ((s[v]?).getD []))),z.aOH⟩
def pollF (cL:Nat):List Int->Yd->Yd
 |[],z=>z
 |v::vs,z=>if ((z.aOE[cL]?).getD []).length=0 then pollF cL vs (pollV z cL v.toNat) else z
structure PollI (y:Yd) (cL:Nat) (z:Yd):Prop where
 four:z.aOE.length=4
 aOH:z.aOH=y.aOH
 now:z.now=y.now
 seq:z.seq=y.seq
 tot:jB z<=jB y
 frs:∀l,z.aOE[cL]?=some l->∀e∈l,jJ y e=true
theorem jsR {l:List En} {e x:En} (h:x∈jcy l e):x∈l\/x=e:=by
 rw [jcy,jm7] at h;rcases aOX.1 h with h|h
 ·exact .inl (aRU h)
 ·rcases aPL.1 h with h|h
  ·exact .inr h
  ·exact .inl (aSA h)
theorem jnU:∀{b a:List En} {x:En},x∈b.foldl jcy a->x∈a\/x∈b
 |[],a,x,h=>.inl h
 |e::b,a,x,h=>by
  rcases jnU (b:=b) h with h|h
  ·rcases jsR h with h|h
   ·exact .inl h
   ·exact .inr (by simp [h])
  ·exact .inr (by simp [h])
theorem juI {a b:List En} {x:En} (h:x∈kS a b):x∈a\/x∈b:=by
 unfold kS at h;split at h
 ·exact .inl h
 ·exact jnU h
theorem jkv {y:Yd} {k:Nat} {l l2:List En} (hl:y.aOE[k]?=some l):jB ⟨y.now,y.seq,y.aOE.set k l2,y.aOH⟩+l.length=jB y+l2.length:=by
 have h4:∀l:List En,zb l=l.length:=λ_=>rfl
 have h2:=qZ (f:=zb) l2 hl;simp only [jB,jbG,aPF] at*;rw [h4,h4] at h2;omega
theorem PollI.start {y:Yd} (hP:YardOkP y) {h:Nat} (hh:h<4):PollI y h (qr y h):=by
 obtain ⟨l,hl⟩:=ja (l:=y.aOE) (k:=h) (by have:=hP.four;omega)
 have hs:=jgc hl;have ht:=jkv (l2:=l.filter (jJ y)) hl;have hf:=aPT (jJ y) l;rw [hs];refine ⟨by simp [hP.four],rfl,rfl,rfl,by omega,λl' o7 e he=>?_⟩
 dsimp only at o7;rw [aOY (by have:=hP.four;omega)] at o7
 obtain rfl:=aPJ o7;exact (aQP.1 he).2
theorem jgp {z:Yd} {h v:Nat} {l a:List En} (hv:z.aOE[v]?=some l) (hhm:z.aOE[h]?=some a) (aK:v≠h):qr z v=⟨z.now,z.seq,z.aOE.set v (l.filter (jJ z)),z.aOH⟩/\pollV z h v=⟨z.now,z.seq,(z.aOE.set v (ja2 (l.filter (jJ z)))).set h (kS a (vf (l.filter (jJ z)))),z.aOH⟩:=by
 have hs:=jgc hv;refine ⟨hs,?_⟩;have bO:=(aOS.1 hv).1;have e1:(z.aOE.set v (l.filter (jJ z)))[v]?=some (l.filter (jJ z)):=aOY bO;have e2:(z.aOE.set v (l.filter (jJ z)))[h]?=some a:=by rw [aPW aK];exact hhm
 simp only [pollV,hs,e1,e2,aPA,aQB]
theorem PollI.step {y z:Yd} {h v:Nat} (hI:PollI y h z) (hv:v<4) (hh:h<4) (aK:v≠h):PollI y h (pollV z h v):=by
 have h4:=hI.four;obtain ⟨l,hl⟩:=ja (l:=z.aOE) (k:=v) (by omega)
 obtain ⟨a,ha⟩:=ja (l:=z.aOE) (k:=h) (by omega)
 rw [(jgp hl ha aK).2];have hf:=aPT (jJ z) l;generalize hL:l.filter (jJ z)=L at*;have ha2:(z.aOE.set v (ja2 L))[h]?=some a:=by rw [aPW aK];exact ha
 have t1:=jkv (l2:=ja2 L) hl;have t2:=jkv (y:=⟨z.now,z.seq,z.aOE.set v (ja2 L),z.aOH⟩) (l2:=kS a (vf L)) ha2;have t3:=juJ a (vf L);have t4:(vf L).length+(ja2 L).length=L.length:=by rw [vf,ja2,<-aOU,aQR]
 have t5:=hI.tot;dsimp only at t1 t2;refine ⟨by simp [h4],hI.aOH,hI.now,hI.seq,by omega,λl' o7 e he=>?_⟩
 dsimp only at o7;rw [aOY (by rw [aPF];omega)] at o7
 obtain rfl:=aPJ o7;rcases juI he with he|he
 ·exact hI.frs a ha e he
 ·have:=aRU he
  rw [<-hL] at this;rw [<-ju0 hI.aOH];exact (aQP.1 this).2
noncomputable def pollZ (y:Yd) (h:Nat) (aOM:Int):Yd:=pollF h (ja9 h aOM) (qr y h)
noncomputable def jbc (y:Yd) (h:Nat) (aOM:Int):List En:=((pollZ y h aOM).aOE[h]?).getD []
noncomputable def jbb (y:Yd) (aOJ aOM:Int):Int:=if jt y=false then 8 else if¬(0<=aOJ/\aOJ<=99) then 5 else if (jbc y (aOJ.tmod 4).toNat aOM).length=0 then 9 else 0
noncomputable def jgI (z:Yd) (h:Nat) (e:En) (l:List En):Yd:=⟨z.now,z.seq,z.aOE.set h l,z.aOH.set (runAt z e.run).toNat (kD ((z.aOH[(runAt z e.run).toNat]?).getD default) e.aOK.toNat (((((z.aOH[(runAt z e.run).toNat]?).getD default).aOD)[e.aOK.toNat]?).getD default) z.now)⟩
noncomputable def jmm (z:Yd) (e:En):Int:=IntKind.i64.wrap (((((((z.aOH[(runAt z e.run).toNat]?).getD default).aOD)[e.aOK.toNat]?).getD default)).tri+1)
noncomputable def qu (y:Yd) (aOJ aOM:Int):Yd:=
 if jt y=false\/¬(0<=aOJ/\aOJ<=99) then y
 else match jbc y (aOJ.tmod 4).toNat aOM with
  |[]=>pollZ y (aOJ.tmod 4).toNat aOM
  |e::l=>jgI (pollZ y (aOJ.tmod 4).toNat aOM) (aOJ.tmod 4).toNat e l
noncomputable def jcY (y:Yd) (aOJ aOM:Int):List D:=
 if jbb y aOJ aOM≠0 then [iv (jbb y aOJ aOM),iv 0,iv 0,iv 0]
 else match jbc y (aOJ.tmod 4).toNat aOM with
  |[]=>[iv 0,iv 0,iv 0,iv 0]
  |e::l=>[iv 0,iv e.run,iv e.aOK,iv (jmm (pollZ y (aOJ.tmod 4).toNat aOM) e)]
theorem jkj {y:Yd} {e:En} (h:jJ y e=true):∃(k t:Nat) (r:Rn) (x:Tk),runAt y e.run=k/\y.aOH[k]?=some r/\e.aOK=t/\r.aOD[t]?=some x/\x.aOG=2:=by
 unfold jJ at h;rcases zc y e.run e.aOK with ⟨_,h2⟩|⟨k,r,h1,h2,⟨_,h3⟩|⟨j,x,hj,hx,h3⟩⟩
 ·rw [h2] at h;cases h
 ·rw [h3] at h;cases h
 ·rw [h3] at h
  exact ⟨k,j,r,x,h1,h2,hj,hx,by simpa using h⟩
section
variable {sh:List (List En)} {n:Nat} {l:List En}
theorem jam (h:n<sh.length):n+1<=(sh.flatMap λes=>[jf es]).length:=by have:=jaK h;rwa [aPK] at this
theorem jcV (h:sh[n]?=some l):((sh.flatMap λes=>[jf es]).drop n).take 1=[jf l]:=by have:=jbs h;rwa [aPK] at this
end
def jct:C:=iS [iA 3 (.box 27 4 (.t 0)),iA 6 wAL,iA 7 wAO] (.seq (iS [aT 18 4 3,iA 19 (iK 66 [18]),aU 20 19] (iD 20 (iS [aT 21 4 3,iA 22 (iK 67 [21]),iA 23 (wAT [(0,1,oI 8)]),wAA 6 22,wAB 7 23] .ret) .skip)) (.seq (iS [aM 24 1,iA 25 (.call 68 [.t 24,oI 0,oI 99]),aU 26 25] (iD 26 (iS [aT 27 4 3,iA 28 (iK 67 [27]),iA 29 (wAT [(0,1,oI 5)]),wAA 6 28,wAB 7 29] .ret) .skip)) (iS [aM 30 1,aQ 31 .rem 3 30 4,aM 8 31] (iS [aT 32 4 3,aM 33 8,iA 34 (iK 23 [32,33]),iA 9 wAL,wAA 9 34] (iS [aM 35 8,aM 36 2,iA 37 (iK 69 [35,36]),aM 10 37] (.seq (iS [aN 11 0] (.blk 0 (.loop (.seq (iS [aM 38 11,aM 39 10,aG 40 39,aP 41 .lss 3 38 40,aM 42 41,iB 43 42 true (iF 2 9),iB 44 42 true (iL 43),iB 45 42 true (iM 8),iB 46 42 true (iI 1 44 45),iB 47 42 true (iL 46),iB 48 42 true (iG 47),iB 49 42 true (iQ .eql 3 48 0),iA 50 (iY 42 (.t 49) (oF))] (iD 50 .skip (.exit 0))) (.seq (.blk 1 (.seq (.dreg (tA 0 53 (iT 4 9) (tA 1 54 (iM 10) (tA 2 55 (iM 11) (tA 3 56 (iI 1 54 55) (tA 4 57 (iL 56) (tC 58 (iK 23 [53,57]) [] (.alt (wAA 9 58) [] .done .stop) .stop))))))) (.seq (.dreg (tA 0 60 (iF 2 9) (tA 1 61 (iL 60) (tA 2 62 (iM 10) (tA 3 63 (iM 11) (tA 4 64 (iI 1 62 63) (tA 5 65 (iL 64) (tA 6 66 (iI 1 61 65) (tA 7 67 (iL 66) (tC 68 (iK 70 [67]) [] (tA 9 59 (iM 68) (tA 10 69 (iE 59 0) (tA 11 70 (iE 59 1) (tA 12 12 (iM 69) (tA 13 13 (iM 70) .done))))) .stop)))))))))) (.seq (.dreg (tA 0 71 (iF 2 9) (tA 1 72 (iL 71) (tA 2 73 (iM 10) (tA 3 74 (iM 11) (tA 4 75 (iI 1 73 74) (tA 5 76 (iL 75) (tA 6 77 (iM 13) (tA 7 78 (iI 1 72 76) (.alt (wAE 78 77) [] .done .stop)))))))))) (.dreg (tA 0 79 (iF 2 9) (tA 1 80 (iL 79) (tA 2 81 (iM 8) (tA 3 82 (iF 2 9) (tA 4 83 (iL 82) (tA 5 84 (iM 8) (tA 6 85 (iI 1 83 84) (tA 7 86 (iL 85) (tA 8 87 (iM 12) (tC 88 (iK 71 [86,87]) [2,1,0] (tA 10 89 (iI 1 80 81) (.alt (wAE 89 88) [] .done .stop)) .stop))))))))))))))) (.reg [aM 51 11,aQ 52 .add 3 51 1,aM 11 52])))))) (iS [aF 91 2 9,aL 92 91,aM 93 8,aI 94 1 92 93,aL 95 94,iA 96 (iK 72 [95]),aM 90 96,aE 97 90 0,aE 98 90 1,aE 99 90 2,iA 14 wAP,wAB 14 97,aM 15 98,aM 16 99] (.seq (iS [aM 100 16,aU 101 100] (iD 101 (iS [aT 102 4 9,iA 103 (wAT [(0,1,oI 9)]),wAA 6 102,wAB 7 103] .ret) .skip)) (iS [aF 104 2 9,aL 105 104,aM 106 8,aM 107 15,aI 108 1 105 106,wAE 108 107] (iS [aT 109 4 9,aF 110 2 14,aL 111 110,iA 112 (iK 26 [109,111]),aM 17 112] (.seq (.dreg (tA 0 113 (iF 3 9) (tA 1 114 (iL 113) (tA 2 115 (iM 17) (tA 3 116 (iF 3 9) (tA 4 117 (iL 116) (tA 5 118 (iM 17) (tA 6 119 (iI 8 117 118) (tA 7 120 (iT 8 119) (tA 8 121 (iF 3 14) (tA 9 122 (iL 121) (tA 10 123 (iF 0 9) (tA 11 124 (iL 123) (tC 125 (iK 73 [120,122,124]) [2,1,0] (tA 13 126 (iI 8 114 115) (.alt (wAC 126 125) [] .done .stop)) .stop)))))))))))))) (.seq (.dreg (tA 0 127 (iT 4 9) (tA 1 128 (iF 2 14) (tA 2 129 (iL 128) (tA 3 130 (iF 3 14) (tA 4 131 (iL 130) (tA 5 132 (iF 3 9) (tA 6 133 (iL 132) (tA 7 134 (iM 17) (tA 8 135 (iI 8 133 134) (tA 9 136 (iF 7 135) (tA 10 137 (iL 136) (tA 11 138 (iF 3 14) (tA 12 139 (iL 138) (tA 13 140 (iI 4 137 139) (tA 14 141 (iF 2 140) (tA 15 142 (iL 141) (tA 16 143 (wAT [(1,1,.t 129),(2,1,.t 131),(3,1,.t 142)]) (.alt (wAA 6 127) [16,15,14,13,12,11,10,9,8,7,6,5,4,3,2,1] (.alt (wAB 7 143) [] .done .stop) .stop))))))))))))))))))) .ret))))))))))))
theorem jmo:fnC Tryz.prog Tryz.f15=some (jct,[.cell 6 true 4,.cell 7 true 4],144):=by kernel_rfl
def jcu:C:=iS [iA 3 (.box 27 4 (.t 0)),iA 6 wAL,iA 7 wAO] (.seq (.blk 0 (iS [aT 20 4 3,iA 21 (iK 18 [20]),aU 22 21,aM 19 22] (iD 19 (iS [aT 23 4 3,iA 24 (iK 61 [23]),iA 25 (wAT [(0,1,oI 8)]),wAA 6 24,wAB 7 25] .ret) (iS [aM 27 1,iA 28 (.call 62 [.t 27,oI 0,oI 99]),aU 29 28,aM 26 29] (iD 26 (iS [aT 30 4 3,iA 31 (iK 61 [30]),iA 32 (wAT [(0,1,oI 5)]),wAA 6 31,wAB 7 32] .ret) .skip))))) (iS [aM 33 1,aQ 34 .rem 3 33 4,aM 8 34] (iS [aT 35 4 3,aM 36 8,iA 37 (iK 24 [35,36]),iA 9 wAL,wAA 9 37] (.seq (iS [aM 38 8,aM 39 2,iA 40 (iK 19 [38,39]),aG 41 40,aN 42 0] (.blk 1 (.loop (iS [aP 43 .lss 3 42 41] (.seq (iD 43 .skip (.exit 1)) (.seq (.blk 2 (iS [aI 44 1 40 42,aL 45 44,aM 11 45] (.seq (iS [aF 46 2 9,aL 47 46,aM 48 8,aI 49 1 47 48,aL 50 49,aG 51 50,aQ 52 .gtr 3 51 0] (iD 52 (.exit 1) .skip)) (iS [aT 53 4 9,aM 54 11,iA 55 (iK 24 [53,54]),wAA 9 55] (iS [aF 57 2 9,aL 58 57,aM 59 11,aI 60 1 58 59,aL 61 60,iA 62 (iK 63 [61]),aM 56 62,aE 63 56 0,aE 64 56 1,aM 12 63,aM 13 64] (.seq (.dreg (tA 0 65 (iF 2 9) (tA 1 66 (iL 65) (tA 2 67 (iM 8) (tA 3 68 (iF 2 9) (tA 4 69 (iL 68) (tA 5 70 (iM 8) (tA 6 71 (iI 1 69 70) (tA 7 72 (iL 71) (tA 8 73 (iM 12) (tC 74 (iK 64 [72,73]) [2,1,0] (tA 10 75 (iI 1 66 67) (.alt (wAE 75 74) [] .done .stop)) .stop))))))))))) (.reg [aF 76 2 9,aL 77 76,aM 78 11,aM 79 13,aI 80 1 77 78,wAE 80 79]))))))) (.reg [aQ 81 .add 3 42 1,aM 42 81]))))))) (iS [aF 83 2 9,aL 84 83,aM 85 8,aI 86 1 84 85,aL 87 86,iA 88 (iK 65 [87]),aM 82 88,aE 89 82 0,aE 90 82 1,aE 91 82 2,iA 14 wAP,wAB 14 89,aM 15 90,aM 16 91] (.seq (iS [aM 92 16,aU 93 92] (iD 93 (iS [aT 94 4 9,iA 95 (wAT [(0,1,oI 9)]),wAA 6 94,wAB 7 95] .ret) .skip)) (iS [aF 96 2 9,aL 97 96,aM 98 8,aM 99 15,aI 100 1 97 98,wAE 100 99] (.seq (.dreg (tA 0 101 (iF 3 9) (tA 1 102 (iL 101) (tA 2 103 (iT 4 9) (tA 3 104 (iF 2 14) (tA 4 105 (iL 104) (tC 106 (iK 25 [103,105]) [1,0] (tA 6 107 (iI 8 102 106) (tA 7 17 (iM 107) .done)) .stop))))))) (.seq (.dreg (tA 0 108 (iM 17) (tA 1 109 (iF 0 108) (tA 2 110 (iF 7 109) (tA 3 111 (iL 110) (tA 4 112 (iF 3 14) (tA 5 113 (iL 112) (tA 6 114 (iI 4 111 113) (tA 7 18 (iM 114) .done))))))))) (iS [aM 115 18,aF 116 0 115,aF 117 0 116,iC (.st 1 [none] (.t 117) (oI 3))] (iS [aM 118 18,aF 119 0 118,aF 120 2 119,aL 121 120,aQ 122 .add 3 121 1,aF 123 0 118,aF 124 2 123,wAD 124 122] (.seq (.dreg (tA 0 125 (iM 18) (tA 1 126 (iF 0 9) (tA 2 127 (iL 126) (tA 3 128 (iM 17) (tA 4 129 (iF 0 128) (tA 5 130 (iF 1 129) (tA 6 131 (iF 2 130) (tA 7 132 (iL 131) (tA 8 133 (iP .add 3 127 132) (tA 9 134 (iF 0 125) (tA 10 135 (iF 3 134) (.alt (wAD 135 133) [] .done .stop))))))))))))) (.seq (.dreg (tA 0 136 (iT 4 9) (tA 1 137 (iF 2 14) (tA 2 138 (iL 137) (tA 3 139 (iF 3 14) (tA 4 140 (iL 139) (tA 5 141 (iM 18) (tA 6 142 (iF 0 141) (tA 7 143 (iF 2 142) (tA 8 144 (iL 143) (tA 9 145 (wAT [(1,1,.t 138),(2,1,.t 140),(3,1,.t 144)]) (.alt (wAA 6 136) [9,8,7,6,5,4,3,2,1] (.alt (wAB 7 145) [] .done .stop) .stop)))))))))))) .ret)))))))))))))
theorem jmu:fnC Tryz.prog Tryz.f14=some (jcu,[.cell 6 true 4,.cell 7 true 4],146):=by kernel_rfl
theorem jsV {y:Yd} {aOJ aOM:Int} {h:Nat} {Z:Yd} (hP:YardOkP y) (hw:0<=aOJ/\aOJ<=99) (fZ:(aOJ.tmod 4).toNat=h) (hZ:pollZ y h aOM=Z) (ha:Z.aOE[h]?=some []):qu y aOJ aOM=Z/\jcY y aOJ aOM=[iv 9,iv 0,iv 0,iv 0]:=by
 have hE:jbc y (aOJ.tmod 4).toNat aOM=[]:=by rw [fZ,jbc,hZ,ha,aPA]
 have aR:=qX hP;have hK:jbb y aOJ aOM=9:=by rw [jbb,if_neg (by rw [aR];decide),if_neg (by simpa using hw),hE];rfl
 refine ⟨?_,by rw [jcY,if_pos (by rw [hK];decide),hK]⟩
 rw [qu,if_neg (by rintro (h|h);(rw [aR] at h;cases h);exact h hw),hE]
 dsimp only;rw [fZ,hZ]
theorem jpD {y:Yd} {aOJ aOM:Int} {h:Nat} {Z:Yd} {e:En} {l:List En} (hP:YardOkP y) (hw:0<=aOJ/\aOJ<=99) (fZ:(aOJ.tmod 4).toNat=h) (hZ:pollZ y h aOM=Z) (ha:Z.aOE[h]?=some (e::l)):qu y aOJ aOM=jgI Z h e l/\jcY y aOJ aOM=[iv 0,iv e.run,iv e.aOK,iv (jmm Z e)]:=by
 have hE:jbc y (aOJ.tmod 4).toNat aOM=e::l:=by rw [fZ,jbc,hZ,ha,aPA]
 have aR:=qX hP;have hK:jbb y aOJ aOM=0:=by rw [jbb,if_neg (by rw [aR];decide),if_neg (by simpa using hw),hE,if_neg (by simp)]
 refine ⟨?_,?_⟩
 ·rw [qu,if_neg (by rintro (h|h);(rw [aR] at h;cases h);exact h hw),hE]
  dsimp only;rw [fZ,hZ]
 ·rw [jcY,if_neg (by rw [hK];decide),hE]
  dsimp only;rw [fZ,hZ]
abbrev ZRp (b ty:Nat):Ob:=.box b ty [.a (.v (.int .i64 0)),.a (.v (.int .i64 0)),.a (.v (.int .i64 0)),.a (.v (.int .i64 0))]
theorem jFt {g sz n:Nat} {d:D} {η:jg} (hd:d.isSl=true) (hs:d.size=sz) (hn:d.len=n) (hp:0<sz):∀s:St,s.o g=.loose d η->∃dd,Is s (.hs g 0 [] (η []) sz 0 n) dd:=by
 intro s ho;subst hs hn;exact ⟨d.sub 0 (0+d.len),d,η,d,by rw [ho];rfl,rfl,jov d,hd,rfl,hp,by omega,rfl⟩
theorem jeJ {y:Yd} {aOJ aOM:Int} {h:Nat} {Z:Yd} {a:List En} {b6 b7 b9 t7:Nat} {f2 f3:jg} (ht:jB y<=2000000) (hP:YardOkP y) (hw:0<=aOJ/\aOJ<=99) (fZ:(aOJ.tmod 4).toNat=h) (eZ:h<4) (hZ:pollZ y h aOM=Z) (hI:PollI y h Z) (ha:Z.aOE[h]?=some a) (nZ:a.length<=2000000):
 wpC Tryz.prog 0 (C.sub [1,1,1,1,1,1,1] (C.ghs [[1,1,1,1,1,1,1,1,1,1,1,1,0],[1,1,1,1,1,1,1,1,1,1,1,1,1]] jct)) (jzf [.cell 6 true 4,.cell 7 true 4] (.tup [(true,jb (qu y aOJ aOM)),(true,jcY y aOJ aOM)])) (St.of [(6,Bx 600 b6),(7,Bx 700 b7),(8,Ni h),(9,Bx 900 b9)] [(600,ZYd b6 tYd),(700,ZRp b7 t7),(900,jX b9 tYd Z.now Z.seq Z.aOE f2 Z.aOH f3)]):=by
 unfold jct;simp only [C.ghs,C.ghAt,List.foldr,C.sub];have h4:=hI.four;have fS:=(aOS.1 ha).1;have pY:=qN h;simp only [go_sem,fS,pY,aPK,jcV ha,jam fS];cases a with
 |nil=>
  obtain ⟨e1,e2⟩:=jsV hP hw fZ hZ ha;rw [e1,e2];refine jw (jcA [] (by simp)) (by simp only [go_sem,qn ha]) λwV=>?_
  simp only [go_sem,jj,jyv,jl3,List.headD_nil,List.isEmpty_nil,List.tail_nil];intro b14;simp only [vl]
  apply ji
  simp only [go_sem,jA,true_or]
  apply ji
  simp only [go_sem,jA,jS,jI,true_or,jb]
 |cons e l=>
  obtain ⟨e1,e2⟩:=jpD hP hw fZ hZ ha;rw [e1,e2];refine jw (jcA (e::l) (by omega)) (by simp only [go_sem,qn ha]) λwV=>?_
  simp only [go_sem,jj,jyv,jl3,List.headD_cons,List.isEmpty_cons,List.tail_cons];intro b14;simp only [go_sem,fS,aPK,jam fS,jbv];refine λg1 sA=>?_
  obtain ⟨k,t,r,x,cD,hr,iX,hx,lN⟩:=jkj (hI.frs _ ha e (by simp))
  rw [<-hI.aOH] at hr
  have lA:runAt ⟨Z.now,Z.seq,Z.aOE.set h l,Z.aOH⟩ e.run=(k:Int):=by
   rw [<-cD];unfold runAt;rw [hI.aOH]
  have mI:runAt Z e.run=(k:Int):=lA;have dM:=(aOS.1 hr).1;have dD:=(aOS.1 hx).1;have bL:=qN k;have eT:=qN t;have fQ:=jde (y:=Z) (by have:=hI.tot;omega) (aOT hr)
  have hH:jgI Z h e l=⟨Z.now,Z.seq,Z.aOE.set h l,Z.aOH.set k (kD r t x Z.now)⟩:=by
   simp only [jgI,mI,iX,aPB,hr,hx,aPA]
  have hT:jmm Z e=IntKind.i64.wrap (x.tri+1):=by
   simp only [jmm,mI,iX,aPB,hr,hx,aPA]
  rw [hH,hT,iX];refine jk (qf ⟨Z.now,Z.seq,Z.aOE.set h l,Z.aOH⟩ e.run) λη=>?_
  simp only [go_sem,jb];rw [lA];simp only [go_sem,dM,bL,jlV hr,jgE hr,jd,je];refine jw (jid r t x Z.now hx fQ.1 fQ.2) (by simp only [go_sem,jd,je,vB hr,vA hr]) ληq=>?_
  simp only [go_sem,jd,je];simp only [go_sem,dM,jgE hr,jrl (kD r t x Z.now) dM];refine λg3 hg3=>?_
  have bZ:(Z.aOH.set k (kD r t x Z.now))[k]?=some (kD r t x Z.now):=aOY dM;have lY:k<(Z.aOH.set k (kD r t x Z.now)).length:=by rw [aPF];exact dM
  have bG:(kD r t x Z.now).aOD[t]?=some ⟨3,x.aOO,IntKind.i64.wrap (x.tri+1),IntKind.i64.wrap (Z.now+r.aOF.aOP)⟩:=aOY dD;have oP:t<(kD r t x Z.now).aOD.length:=(aOS.1 bG).1;have aJA:(kD r t x Z.now).aOD[t]?=some ⟨3,x.aOO,IntKind.i64.wrap (x.tri+1),IntKind.i64.wrap (Z.now+r.aOF.aOP)⟩:=bG;generalize kD r t x Z.now=r2 at*;refine ky ?_;refine WkK.wk (s':=St.of [(6,Bx 600 b6),(7,Bx 700 b7),(9,Bx 900 b9),(14,Bx 1400 b14),(17,Ni k)] [(600,ZYd b6 tYd),(700,ZRp b7 t7),(900,jX b9 tYd Z.now Z.seq (Z.aOE.set h l) g1 (Z.aOH.set k r2) g3),(1400,.box b14 tEn [.a (.v (.int .i64 e.aOL)),.a (.v (.int .i64 e.seq)),.a (.v (.int .i64 e.run)),.a (.v (.int .i64 e.aOK))])]) (js [600,700,900,1400] (by simp only [go_sem,iX]<;>trivial)) ?_
  refine jfA 900 2 94 rfl rfl rfl (by decide) (Nat.zero_lt_succ 0) ?_
  refine jfA 900 3 95 rfl rfl rfl (by decide) (Nat.zero_lt_succ 7) ?_
  have wD:=jFt (g:=95) (sz:=8) (d:=jG (Z.aOH.set k r2)) (η:=g3) rfl rfl (vF _) (by decide)
  refine WkK.wk (s':=St.of [(6,Bx 600 b6),(7,Bx 700 b7),(9,Bx 900 b9),(14,Bx 1400 b14),(17,Ni k)] [(600,ZYd b6 tYd),(700,ZRp b7 t7),(900,.box b9 tYd [.a (.v (.int .i64 Z.now)),.a (.v (.int .i64 Z.seq)),.a (.hs 94 0 [] (g1 []) 1 0 (Z.aOE.set h l).length),.a (.hs 95 0 [] (g3 []) 8 0 (Z.aOH.set k r2).length)]),(94,.loose (ke (Z.aOE.set h l)) g1),(95,.loose (jG (Z.aOH.set k r2)) g3),(1400,.box b14 tEn [.a (.v (.int .i64 e.aOL)),.a (.v (.int .i64 e.seq)),.a (.v (.int .i64 e.run)),.a (.v (.int .i64 e.aOK))])]) (js [600,700,900,94,95,1400]) ?_;refine WkK.of ?_;simp only [go_sem,lY,bL,wD,zh bZ,zz bZ,jY bZ,oP,eT,jnq bG,jm8 bG,iX];refine ky ?_;refine WkK.wk (s':=St.of [(6,Bx 600 b6),(7,Bx 700 b7)] [(600,.box b6 tYd [.a (.v (.int .i64 Z.now)),.a (.v (.int .i64 Z.seq)),.a (.hs 94 0 [] (g1 []) 1 0 (Z.aOE.set h l).length),.a (.hs 95 0 [] (g3 []) 8 0 (Z.aOH.set k r2).length)]),(700,.box b7 t7 [.a (.v (.int .i64 0)),.a (.v (.int .i64 e.run)),.a (.v (.int .i64 t)),.a (.v (.int .i64 (IntKind.i64.wrap (x.tri+1))))]),(94,.loose (ke (Z.aOE.set h l)) g1),(95,.loose (jG (Z.aOH.set k r2)) g3)]) (js [600,700,94,95]) ?_
  refine jbD 600 2 94 (d:=ke (Z.aOE.set h l)) (η:=g1) rfl rfl rfl rfl (ja0 _).symm rfl (Nat.zero_lt_succ 0) ?_;refine jbD 600 3 95 (d:=jG (Z.aOH.set k r2)) (η:=g3) rfl rfl rfl rfl (vF _).symm rfl (Nat.zero_lt_succ 7) ?_;refine WkK.of ?_;simp only [go_sem];simp only [vl]
  apply ji
  simp only [go_sem,jA,true_or]
  apply ji
  simp only [go_sem,jA,jS,jI,true_or]
theorem jri (y:Yd) (aOJ aOM:Int) (ht:jB y<=2000000):jZ Tryz.prog 15 [.agg (jb y),.c (.val (.int .i64 aOJ)),.c (.val (.int .i64 aOM))] (.tup [(true,jb (qu y aOJ aOM)),(true,jcY y aOJ aOM)]):=by
 refine vx [[1,1,1,1,1,1,1],[1,1,1,1,1,1,1,1,1,1,1,1,0],[1,1,1,1,1,1,1,1,1,1,1,1,1]] Tryz.func15 jmo (by simp) ?_
 unfold jct;simp only [C.ghs,C.ghAt,List.foldr];simp only [go_sem,jb];intro b3 b6 b7;refine jk (qb y ht) λη=>?_
 simp only [go_sem];cases aR:jt y
 ·have hy:qu y aOJ aOM=y:=by rw [qu,if_pos (.inl aR)]
  have hc:jbb y aOJ aOM=8:=by rw [jbb,if_pos aR]
  have hr:jcY y aOJ aOM=[iv 8,iv 0,iv 0,iv 0]:=by rw [jcY,if_pos (by rw [hc];decide),hc]
  rw [hy,hr];simp only [go_sem];refine jk (kp y ht) λbI=>?_
  simp only [go_sem,jb];simp only [vl]
  apply ji
  simp only [go_sem,jA,true_or]
  apply ji
  simp only [go_sem,jA,jS,jI,true_or]
 have hP:=yard_iff.1 aR;simp only [go_sem];refine jk (jK aOJ 0 99) λη=>?_
 simp only [go_sem];cases hw:decide (0<=aOJ/\aOJ<=99)
 ·have hw':=of_decide_eq_false hw
  have hy:qu y aOJ aOM=y:=by rw [qu,if_pos (.inr hw')]
  have hc:jbb y aOJ aOM=5:=by rw [jbb,if_neg (by rw [aR];decide),if_pos hw']
  have hr:jcY y aOJ aOM=[iv 5,iv 0,iv 0,iv 0]:=by rw [jcY,if_pos (by rw [hc];decide),hc]
  rw [hy,hr];simp only [go_sem];refine jk (kp y ht) λbI=>?_
  simp only [go_sem,jb];simp only [vl]
  apply ji
  simp only [go_sem,jA,true_or]
  apply ji
  simp only [go_sem,jA,jS,jI,true_or]
 have hw':=aPV hw;obtain ⟨h,hh⟩:∃h:Nat,aOJ.tmod 4=(h:Int):=⟨(aOJ.tmod 4).toNat,by rw [aQA hw'.1];omega⟩
 have eZ:h<4:=by rw [aQA hw'.1] at hh;omega
 have hwr:IntKind.i64.wrap (aOJ.tmod 4)=(h:Int):=by rw [hh];exact kU (by omega) (by omega)
 have pY:=qN h;simp only [go_sem,hh];refine jk (jdi y h ht) λsJ=>?_
 simp only [go_sem,jb];intro b9;refine jk (jju h aOM) λwG=>?_
 simp only [go_sem];have hI0:=PollI.start hP eZ;obtain ⟨v0,v1,v2,hv,w0,w1,w2,n0,n1,n2⟩:=jd6 eZ aOM;have hZ:pollZ y h aOM=pollF h (ja9 h aOM) (qr y h):=rfl;generalize fX:qr y h=z0 at*;generalize ja9 h aOM=V at*;have hVl:V.length=3:=by rw [hv];rfl
 have hVm:∀(i:Nat) (v:Int),V[i]?=some v->∃n:Nat,v=n/\n<4/\n≠h:=λi v hi=>by
  have:=aOT hi;rw [hv] at this;simp at this;rcases this with rfl|rfl|rfl
  ·exact ⟨v0,rfl,w0,n0⟩
  ·exact ⟨v1,rfl,w1,n1⟩
  ·exact ⟨v2,rfl,w2,n2⟩
 obtain ⟨Z,y5⟩:∃Z,pollF h V z0=Z:=⟨_,rfl⟩;have v7:pollZ y h aOM=Z:=by rw [hZ,y5]
 have fZ:(aOJ.tmod 4).toNat=h:=by rw [hh];omega
 have hpk:jbb y aOJ aOM=if ((Z.aOE[h]?).getD []).length=0 then 9 else 0:=by rw [jbb,if_neg (by rw [aR];decide),if_neg (by simpa using hw'),fZ,jbc,v7]
 refine kh (λi:Nat×Yd×jg×jg=>St.of [(6,Bx 600 b6),(7,Bx 700 b7),(8,Ni h),(9,Bx 900 b9),(10,Hd 10 (wG 0)),(11,Ni i.1)] [(600,ZYd b6 _),(700,ZRp b7 _),(900,jX b9 _ i.2.1.now i.2.1.seq i.2.1.aOE i.2.2.1 i.2.1.aOH i.2.2.2),(10,.loose (jc V) (wG 0))]) (λi=>i.1<=V.length/\PollI y h i.2.1/\pollF h (V.drop i.1) i.2.1=Z) (λi=>V.length-i.1) (0,z0,sJ 2,sJ 3) (⟨aPP _,hI0,y5⟩) (js [600,700,900,3700]) ?_
 rintro ⟨i,z,f2,f3⟩ ⟨hi,hI,hF⟩;dsimp only at hi hI hF;have h4:=hI.four;obtain ⟨a,ha⟩:=ja (l:=z.aOE) (k:=h) (by omega)
 have fS:=(aOS.1 ha).1;have nZ:=zq (y:=z) (by have:=hI.tot;omega) (aOT ha)
 have cP:(i=V.length\/a.length≠0)->z=Z:=λhc=>by
  rcases hc with hc|hc
  ·rw [<-hF,hc,List.drop_length];rfl
  ·rw [<-hF]
   cases hd:V.drop i with
   |nil=>rfl
   |cons v vs=>rw [pollF,ha,aPA,if_neg hc]
 by_cases aB:i<V.length
 ·have aA:(i:Int)<V.length:=by omega
  have hU:=qN i;have gI:=kw i;cases he:((a.length:Nat):Int)==0
  ·obtain rfl:=cP (.inr (by intro h0;rw [h0] at he;cases he))
   simp only [go_sem,aA,fS,pY,aPK,jcV ha,jam fS,qn ha,he];refine ky ?_;refine WkK.wk (s':=St.of [(6,Bx 600 b6),(7,Bx 700 b7),(8,Ni h),(9,Bx 900 b9)] [(600,ZYd b6 _),(700,ZRp b7 _),(900,jX b9 _ z.now z.seq z.aOE f2 z.aOH f3)]) (js [600,700,900]) ?_;exact WkK.of (jeJ ht hP hw' fZ eZ v7 hI ha nZ)
  ·have ha0:a.length=0:=by simp only [aQW] at he;omega
   obtain ⟨v,hv⟩:=ja aB;obtain ⟨n,rfl,hn4,rC⟩:=hVm i v hv;have lP:0<=(n:Int):=by omega
   have n7:((V.flatMap λn=>[iv n]).drop i).take 1=[iv (n:Int)]:=by have:=jq hv;rwa [aPK] at this
   have lH:i+1<=(V.flatMap λn=>[iv n]).length:=by have:=jp aB;rwa [aPK] at this
   obtain ⟨l,hl⟩:=ja (l:=z.aOE) (k:=n) (by omega)
   obtain ⟨e1,e2⟩:=jgp hl ha rC;have lR:=hI.step hn4 eZ rC
   have y9:pollF h (V.drop (i+1)) (pollV z h n)=Z:=by
    rw [<-hF,aQT aB,pollF,ha,aPA,if_pos ha0];have:V[i]=(n:Int):=by rw [aOV aB] at hv;exact aPJ hv
    rw [this,aPB]
   have hlf:=aPT (jJ z) l;have eR:=zq (y:=z) (by have:=hI.tot;omega) (aOT hl)
   rw [e2] at y9 lR;simp only [go_sem,aA,aB,fS,pY,hU,aPK,jcV ha,jam fS,qn ha,he,n7,lH];refine jk (jdi z n (by have:=hI.tot;omega)) ληw=>?_
   simp only [go_sem,jb];rw [e1];generalize l.filter (jJ z)=L at*;have q1:(z.aOE.set n L)[n]?=some L:=aOY (by omega)
   have q2:n<(z.aOE.set n L).length:=by rw [aPF];omega
   have q0:(n:Int)>=0:=lP;simp only [go_sem,aB,aPK,n7,lH,jcV q1,jam q2,q2,q0];refine jw (jn2 L (by omega)) (by simp only [go_sem,qn q1]) ληh=>?_
   simp only [go_sem];simp only [go_sem,aB,aPK,n7,lH,jam q2,jcV q1,q2,q0,jbv,aQB];refine λg' dE=>?_
   have q3:(z.aOE.set n (ja2 L))[h]?=some a:=by rw [aPW rC];exact ha
   have q4:h<(z.aOE.set n (ja2 L)).length:=by rw [aPF];omega
   have q5:(vf L).length<=L.length:=by rw [vf,aOZ];omega
   simp only [go_sem,jam q4,jcV q3,q4];refine jw (jn0 a (vf L) (by omega)) (by simp only [go_sem,qn q3]) ληm=>?_
   simp only [go_sem];simp only [go_sem,aPK,jam q4,q4,jbv,gI];refine λg2' aDS=>?_
   exact ⟨(i+1,⟨z.now,z.seq,(z.aOE.set n (ja2 L)).set h (kS a (vf L)),z.aOH⟩,g2',ηw 3),⟨aB,lR,y9⟩,(js [600,700,900,10]),by (try dsimp only);omega⟩
 ·have aA:¬(i:Int)<V.length:=by omega
  obtain rfl:=cP (.inl (by omega))
  simp only [go_sem,aA];refine ky ?_;refine WkK.wk (s':=St.of [(6,Bx 600 b6),(7,Bx 700 b7),(8,Ni h),(9,Bx 900 b9)] [(600,ZYd b6 _),(700,ZRp b7 _),(900,jX b9 _ z.now z.seq z.aOE f2 z.aOH f3)]) (js [600,700,900]) ?_;exact WkK.of (jeJ ht hP hw' fZ eZ v7 hI ha nZ)
theorem jcB (l:List En) (hl:l.length<=4000000):jZ Tryz.prog 65 [.c (jf l)] (.tup [(true,jj (jyv l)),(false,[jf l.tail]),(false,[.val (.bool (jl3 l))])]):=by
 refine pf_ jfY ?_;unfold jcR;cases l with
 |nil=>
  simp only [go_sem,jj,jyv,jl3,List.headD_nil,List.isEmpty_nil,List.tail_nil];intro b2;simp only [vl]
  apply ji
  simp only [go_sem,jA,jgm,jgl,jS,jI,true_or]
 |cons x l=>
  have cR:l.length<=4000000:=by rw [aPI] at hl;omega
  have h0:(x::l)[0]?=some x:=rfl;have h1:(((l.length+1:Nat):Int)==0)=false:=by simp only [beq_eq_false_iff_ne,ne_eq];omega
  have h2:1<=l.length+1:=by omega
  have h3:0<l.length+1:=by omega
  have hd:List.take l.length l=l:=aRC;simp only [go_sem,jj,jyv,jl3,List.headD_cons,List.isEmpty_cons,List.tail_cons,h1];intro b2;simp only [go_sem,h3,jU h0,jj,hd,aPD,Nat.add_sub_cancel];refine jk (ki l cR) λbM=>?_
  simp only [go_sem];simp only [vl]
  apply ji
  simp only [go_sem,jA,jgm,jgl,jS,jI,true_or]
section
variable {l:List Rn} {k:Nat} {r:Rn}
theorem jF3 (h:l[k]?=some r):((l.flatMap jd).drop (k*8+1+2)).take 1=[.val (.int .i64 r.aOF.aOP)]:=qK (enc:=jd) (size:=8) (λ_=>rfl) h (j:=3) (n:=1) (by decide)
theorem jFo (h:l[k]?=some r):k*8+1+2+1<=(l.flatMap jd).length:=ve (enc:=jd) (size:=8) (λ_=>rfl) h (j:=3) (n:=1) (by decide)
end
theorem jeK {y:Yd} {aOJ aOM:Int} {h:Nat} {Z:Yd} {a:List En} {b6 b7 b9 t7:Nat} {f2 f3:jg} (ht:jB y<=2000000) (hP:YardOkP y) (hw:0<=aOJ/\aOJ<=99) (fZ:(aOJ.tmod 4).toNat=h) (eZ:h<4) (hZ:pollZ y h aOM=Z) (hI:PollI y h Z) (ha:Z.aOE[h]?=some a) (nZ:a.length<=2000000):
 wpC Tryz.prog 0 (C.sub [1,1,1,1,1] (C.ghs [[1,1,1,1,1,1,1,1,1,1,1,1,1,0],[1,1,1,1,1,1,1,1,1,1,1,1,1,1]] jcu)) (jzf [.cell 6 true 4,.cell 7 true 4] (.tup [(true,jb (qu y aOJ aOM)),(true,jcY y aOJ aOM)])) (St.of [(6,Bx 600 b6),(7,Bx 700 b7),(8,Ni h),(9,Bx 900 b9)] [(600,ZYd b6 tYd),(700,ZRp b7 t7),(900,jX b9 tYd Z.now Z.seq Z.aOE f2 Z.aOH f3)]):=by
 unfold jcu;simp only [C.ghs,C.ghAt,List.foldr,C.sub];have h4:=hI.four;have fS:=(aOS.1 ha).1;have pY:=qN h;simp only [go_sem,fS,pY,aPK,jcV ha,jam fS];cases a with
 |nil=>
  obtain ⟨e1,e2⟩:=jsV hP hw fZ hZ ha;rw [e1,e2];refine jw (jcB [] (by simp)) (by simp only [go_sem,qn ha]) λwV=>?_
  simp only [go_sem,jj,jyv,jl3,List.headD_nil,List.isEmpty_nil,List.tail_nil];intro b14;simp only [vl]
  apply ji
  simp only [go_sem,jA,true_or]
  apply ji
  simp only [go_sem,jA,jS,jI,true_or,jb]
 |cons e l=>
  obtain ⟨e1,e2⟩:=jpD hP hw fZ hZ ha;rw [e1,e2];refine jw (jcB (e::l) (by omega)) (by simp only [go_sem,qn ha]) λwV=>?_
  simp only [go_sem,jj,jyv,jl3,List.headD_cons,List.isEmpty_cons,List.tail_cons];intro b14;simp only [go_sem,fS,aPK,jam fS,jbv];refine λg1 sA=>?_
  obtain ⟨k,t,r,x,cD,hr,iX,hx,lN⟩:=jkj (hI.frs _ ha e (by simp))
  rw [<-hI.aOH] at hr
  have lA:runAt ⟨Z.now,Z.seq,Z.aOE.set h l,Z.aOH⟩ e.run=(k:Int):=by
   rw [<-cD];unfold runAt;rw [hI.aOH]
  have mI:runAt Z e.run=(k:Int):=lA;have dM:=(aOS.1 hr).1;have dD:=(aOS.1 hx).1;have bL:=qN k;have eT:=qN t;have fQ:=jde (y:=Z) (by have:=hI.tot;omega) (aOT hr)
  have hH:jgI Z h e l=⟨Z.now,Z.seq,Z.aOE.set h l,Z.aOH.set k (kD r t x Z.now)⟩:=by
   simp only [jgI,mI,iX,aPB,hr,hx,aPA]
  have hT:jmm Z e=IntKind.i64.wrap (x.tri+1):=by
   simp only [jmm,mI,iX,aPB,hr,hx,aPA]
  rw [hH,hT,iX];refine jk (kQ ⟨Z.now,Z.seq,Z.aOE.set h l,Z.aOH⟩ e.run) λη=>?_
  simp only [go_sem,jb];rw [lA];have hS:∀r':Rn,(Z.aOH.set k r')[k]?=some r':=λr'=>aOY dM
  have l8:∀r':Rn,k<(Z.aOH.set k r').length:=λr'=>by rw [aPF];exact dM
  have x1:(r.aOD.set t ⟨3,x.aOO,x.tri,x.til⟩)[t]?=some ⟨3,x.aOO,x.tri,x.til⟩:=aOY dD;have x2:(r.aOD.set t ⟨3,x.aOO,IntKind.i64.wrap (x.tri+1),x.til⟩)[t]?=some ⟨3,x.aOO,IntKind.i64.wrap (x.tri+1),x.til⟩:=aOY dD;have x3:(r.aOD.set t ⟨3,x.aOO,IntKind.i64.wrap (x.tri+1),IntKind.i64.wrap (Z.now+r.aOF.aOP)⟩)[t]?=some ⟨3,x.aOO,IntKind.i64.wrap (x.tri+1),IntKind.i64.wrap (Z.now+r.aOF.aOP)⟩:=aOY dD;have r1:=hS ⟨r.id,r.aOF,r.aOG,r.aOD.set t ⟨3,x.aOO,x.tri,x.til⟩⟩;have r2:=hS ⟨r.id,r.aOF,r.aOG,r.aOD.set t ⟨3,x.aOO,IntKind.i64.wrap (x.tri+1),x.til⟩⟩;have r3:=hS ⟨r.id,r.aOF,r.aOG,r.aOD.set t ⟨3,x.aOO,IntKind.i64.wrap (x.tri+1),IntKind.i64.wrap (Z.now+r.aOF.aOP)⟩⟩;have aJ:kD r t x Z.now=⟨r.id,r.aOF,r.aOG,r.aOD.set t ⟨3,x.aOO,IntKind.i64.wrap (x.tri+1),IntKind.i64.wrap (Z.now+r.aOF.aOP)⟩⟩:=rfl;rw [aJ]
  generalize aCG:IntKind.i64.wrap (x.tri+1)=tri at*;generalize nP:IntKind.i64.wrap (Z.now+r.aOF.aOP)=til at*;simp only [go_sem,dM,bL,aPO,zh hr,zz hr,jY hr,dD,eT,vP hx,zR hr (jch hx 3),jY r1,jnq x1,jm8 x1,aCG,zR r1 (jCr x1 tri),aQB,jF3 r2,jFo r2,nP,jY r2,jlf x2,zR r2 (jfG x2 til)];refine ky ?_;generalize hL:Z.aOH.set k ⟨r.id,r.aOF,r.aOG,r.aOD.set t ⟨3,x.aOO,tri,til⟩⟩=L at*;refine WkK.wk (s':=St.of [(6,Bx 600 b6),(7,Bx 700 b7),(9,Bx 900 b9),(14,Bx 1400 b14),(18,.c (.ep 900 3 [k*8+7] (t*4) (f3 [k*8+7])))] [(600,ZYd b6 tYd),(700,ZRp b7 t7),(900,jX b9 tYd Z.now Z.seq (Z.aOE.set h l) g1 L f3),(1400,.box b14 tEn [.a (.v (.int .i64 e.aOL)),.a (.v (.int .i64 e.seq)),.a (.v (.int .i64 e.run)),.a (.v (.int .i64 e.aOK))])]) (js [600,700,900,1400] (by simp only [go_sem,iX]<;>trivial)) ?_
  refine jfA 900 2 94 rfl rfl rfl (by decide) (Nat.zero_lt_succ 0) ?_
  refine jfA 900 3 95 rfl rfl rfl (by decide) (Nat.zero_lt_succ 7) ?_
  refine WkK.wk (s':=St.of [(6,Bx 600 b6),(7,Bx 700 b7),(9,Bx 900 b9),(14,Bx 1400 b14),(18,.c (.ep 95 0 [k*8+7] (t*4) (f3 [k*8+7])))] [(600,ZYd b6 tYd),(700,ZRp b7 t7),(900,.box b9 tYd [.a (.v (.int .i64 Z.now)),.a (.v (.int .i64 Z.seq)),.a (.hs 94 0 [] (g1 []) 1 0 (Z.aOE.set h l).length),.a (.hs 95 0 [] (f3 []) 8 0 L.length)]),(94,.loose (ke (Z.aOE.set h l)) g1),(95,.loose (jG L) f3),(1400,.box b14 tEn [.a (.v (.int .i64 e.aOL)),.a (.v (.int .i64 e.seq)),.a (.v (.int .i64 e.run)),.a (.v (.int .i64 e.aOK))])]) (js [600,700,900,94,95,1400]) ?_;refine WkK.of ?_;simp only [go_sem,aPO,iX,jY r3,jnq x3,jm8 x3];refine ky ?_;refine WkK.wk (s':=St.of [(6,Bx 600 b6),(7,Bx 700 b7)] [(600,.box b6 tYd [.a (.v (.int .i64 Z.now)),.a (.v (.int .i64 Z.seq)),.a (.hs 94 0 [] (g1 []) 1 0 (Z.aOE.set h l).length),.a (.hs 95 0 [] (f3 []) 8 0 L.length)]),(700,.box b7 t7 [.a (.v (.int .i64 0)),.a (.v (.int .i64 e.run)),.a (.v (.int .i64 t)),.a (.v (.int .i64 tri))]),(94,.loose (ke (Z.aOE.set h l)) g1),(95,.loose (jG L) f3)]) (js [600,700,94,95]) ?_
  refine jbD 600 2 94 (d:=ke (Z.aOE.set h l)) (η:=g1) rfl rfl rfl rfl (ja0 _).symm rfl (Nat.zero_lt_succ 0) ?_;refine jbD 600 3 95 (d:=jG L) (η:=f3) rfl rfl rfl rfl (vF _).symm rfl (Nat.zero_lt_succ 7) ?_;refine WkK.of ?_;simp only [go_sem];simp only [vl]
  apply ji
  simp only [go_sem,jA,true_or]
  apply ji
  simp only [go_sem,jA,jS,jI,true_or]
theorem jrj (y:Yd) (aOJ aOM:Int) (ht:jB y<=2000000):jZ Tryz.prog 14 [.agg (jb y),.c (.val (.int .i64 aOJ)),.c (.val (.int .i64 aOM))] (.tup [(true,jb (qu y aOJ aOM)),(true,jcY y aOJ aOM)]):=by
 refine vx [[1,1,1,1,1],[1,1,1,1,1,1,1,1,1,1,1,1,1,0],[1,1,1,1,1,1,1,1,1,1,1,1,1,1]] Tryz.func14 jmu (by simp) ?_
 unfold jcu;simp only [C.ghs,C.ghAt,List.foldr];simp only [go_sem,jb];intro b3 b6 b7;refine jk (kn y ht) λη=>?_
 simp only [go_sem];cases aR:jt y
 ·have hy:qu y aOJ aOM=y:=by rw [qu,if_pos (.inl aR)]
  have hc:jbb y aOJ aOM=8:=by rw [jbb,if_pos aR]
  have hr:jcY y aOJ aOM=[iv 8,iv 0,iv 0,iv 0]:=by rw [jcY,if_pos (by rw [hc];decide),hc]
  rw [hy,hr];simp only [go_sem];refine jk (kj y ht) λbI=>?_
  simp only [go_sem,jb];simp only [vl]
  apply ji
  simp only [go_sem,jA,true_or]
  apply ji
  simp only [go_sem,jA,jS,jI,true_or]
 have hP:=yard_iff.1 aR;simp only [go_sem];refine jk (jx aOJ 0 99) λη=>?_
 simp only [go_sem];cases hw:decide (0<=aOJ/\aOJ<=99)
 ·have hw':=of_decide_eq_false hw
  have hy:qu y aOJ aOM=y:=by rw [qu,if_pos (.inr hw')]
  have hc:jbb y aOJ aOM=5:=by rw [jbb,if_neg (by rw [aR];decide),if_pos hw']
  have hr:jcY y aOJ aOM=[iv 5,iv 0,iv 0,iv 0]:=by rw [jcY,if_pos (by rw [hc];decide),hc]
  rw [hy,hr];simp only [go_sem];refine jk (kj y ht) λbI=>?_
  simp only [go_sem,jb];simp only [vl]
  apply ji
  simp only [go_sem,jA,true_or]
  apply ji
  simp only [go_sem,jA,jS,jI,true_or]
 have hw':=aPV hw;obtain ⟨h,hh⟩:∃h:Nat,aOJ.tmod 4=(h:Int):=⟨(aOJ.tmod 4).toNat,by rw [aQA hw'.1];omega⟩
 have eZ:h<4:=by rw [aQA hw'.1] at hh;omega
 have hwr:IntKind.i64.wrap (aOJ.tmod 4)=(h:Int):=by rw [hh];exact kU (by omega) (by omega)
 have pY:=qN h;simp only [go_sem,hh];refine jk (jdm y h ht) λsJ=>?_
 simp only [go_sem,jb];intro b9;refine jk (jau h aOM) λwG=>?_
 simp only [go_sem];have hI0:=PollI.start hP eZ;obtain ⟨v0,v1,v2,hv,w0,w1,w2,n0,n1,n2⟩:=jd6 eZ aOM;have hZ:pollZ y h aOM=pollF h (ja9 h aOM) (qr y h):=rfl;generalize fX:qr y h=z0 at*;generalize ja9 h aOM=V at*;have hVl:V.length=3:=by rw [hv];rfl
 have hVm:∀(i:Nat) (v:Int),V[i]?=some v->∃n:Nat,v=n/\n<4/\n≠h:=λi v hi=>by
  have:=aOT hi;rw [hv] at this;simp at this;rcases this with rfl|rfl|rfl
  ·exact ⟨v0,rfl,w0,n0⟩
  ·exact ⟨v1,rfl,w1,n1⟩
  ·exact ⟨v2,rfl,w2,n2⟩
 obtain ⟨Z,y5⟩:∃Z,pollF h V z0=Z:=⟨_,rfl⟩;have v7:pollZ y h aOM=Z:=by rw [hZ,y5]
 have fZ:(aOJ.tmod 4).toNat=h:=by rw [hh];omega
 have hpk:jbb y aOJ aOM=if ((Z.aOE[h]?).getD []).length=0 then 9 else 0:=by rw [jbb,if_neg (by rw [aR];decide),if_neg (by simpa using hw'),fZ,jbc,v7]
 refine kh (λi:Nat×Yd×jg×jg=>St.of [(6,Bx 600 b6),(7,Bx 700 b7),(8,Ni h),(9,Bx 900 b9),(40,Hd 10 (wG 0)),(41,Ni V.length),(42,Ni i.1)] [(600,ZYd b6 _),(700,ZRp b7 _),(900,jX b9 _ i.2.1.now i.2.1.seq i.2.1.aOE i.2.2.1 i.2.1.aOH i.2.2.2),(10,.loose (jc V) (wG 0))]) (λi=>i.1<=V.length/\PollI y h i.2.1/\pollF h (V.drop i.1) i.2.1=Z) (λi=>V.length-i.1) (0,z0,sJ 2,sJ 3) (⟨aPP _,hI0,y5⟩) (js [600,700,900,4000]) ?_
 rintro ⟨i,z,f2,f3⟩ ⟨hi,hI,hF⟩;dsimp only at hi hI hF;have h4:=hI.four;obtain ⟨a,ha⟩:=ja (l:=z.aOE) (k:=h) (by omega)
 have fS:=(aOS.1 ha).1;have nZ:=zq (y:=z) (by have:=hI.tot;omega) (aOT ha)
 have cP:(i=V.length\/a.length≠0)->z=Z:=λhc=>by
  rcases hc with hc|hc
  ·rw [<-hF,hc,List.drop_length];rfl
  ·rw [<-hF]
   cases hd:V.drop i with
   |nil=>rfl
   |cons v vs=>rw [pollF,ha,aPA,if_neg hc]
 by_cases aB:i<V.length
 ·have aA:(i:Int)<V.length:=by omega
  have hU:=qN i;have gI:=kw i;obtain ⟨v,hv⟩:=ja aB;obtain ⟨n,rfl,hn4,rC⟩:=hVm i v hv;have lP:0<=(n:Int):=by omega
  have n7:((V.flatMap λn=>[iv n]).drop i).take 1=[iv (n:Int)]:=by have:=jq hv;rwa [aPK] at this
  have lH:i+1<=(V.flatMap λn=>[iv n]).length:=by have:=jp aB;rwa [aPK] at this
  by_cases ha0:a.length=0
  ·have he:¬((a.length:Nat):Int)>0:=by omega
   obtain ⟨l,hl⟩:=ja (l:=z.aOE) (k:=n) (by omega)
   obtain ⟨e1,e2⟩:=jgp hl ha rC;have lR:=hI.step hn4 eZ rC
   have y9:pollF h (V.drop (i+1)) (pollV z h n)=Z:=by
    rw [<-hF,aQT aB,pollF,ha,aPA,if_pos ha0];have:V[i]=(n:Int):=by rw [aOV aB] at hv;exact aPJ hv
    rw [this,aPB]
   have hlf:=aPT (jJ z) l;have eR:=zq (y:=z) (by have:=hI.tot;omega) (aOT hl)
   rw [e2,List.set_comm _ _ rC] at y9 lR;simp only [go_sem,aA,aB,fS,pY,hU,aPK,jcV ha,jam fS,qn ha,he,n7,lH];refine jk (jdm z n (by have:=hI.tot;omega)) ληw=>?_
   simp only [go_sem,jb];rw [e1];generalize l.filter (jJ z)=L at*;have q1:(z.aOE.set n L)[n]?=some L:=aOY (by omega)
   have q2:n<(z.aOE.set n L).length:=by rw [aPF];omega
   have q0:(n:Int)>=0:=lP;have q3:(z.aOE.set n L)[h]?=some a:=by rw [aPW rC];exact ha
   have q4:h<(z.aOE.set n L).length:=by rw [aPF];omega
   have q5:(vf L).length<=L.length:=by rw [vf,aOZ];omega
   simp only [go_sem,aPK,jcV q1,jam q2,q2];refine jw (joc L (by omega)) (by simp only [go_sem,qn q1]) ληh=>?_
   simp only [go_sem];simp only [go_sem,aPK,jam q4,jcV q3,q4];refine jw (joa a (vf L) (by omega)) (by simp only [go_sem,qn q3]) ληm=>?_
   simp only [go_sem];simp only [go_sem,aPK,jam q4,q4,jbv];refine λg' dE=>?_
   have q6:n<((z.aOE.set n L).set h (kS a (vf L))).length:=by rw [aPF];exact q2
   have q7:((z.aOE.set n L).set h (kS a (vf L)))[n]?=some L:=by rw [aPW (Ne.symm rC)];exact q1
   have q8:((z.aOE.set n L).set h (kS a (vf L))).set n (ja2 L)=(z.aOE.set h (kS a (vf L))).set n (ja2 L):=by
    rw [List.set_comm _ _ rC,aQB]
   simp only [go_sem,q6,jam q6,q8,gI];refine λg2' aDS=>?_
   exact ⟨(i+1,⟨z.now,z.seq,(z.aOE.set h (kS a (vf L))).set n (ja2 L),z.aOH⟩,g2',ηw 3),⟨aB,lR,y9⟩,(js [600,700,900,10]),by (try dsimp only);omega⟩
  ·have he:((a.length:Nat):Int)>0:=by omega
   obtain rfl:=cP (.inr ha0);simp only [go_sem,aA,aB,fS,pY,hU,aPK,jcV ha,jam fS,qn ha,he,n7,lH];refine ky ?_;refine WkK.wk (s':=St.of [(6,Bx 600 b6),(7,Bx 700 b7),(8,Ni h),(9,Bx 900 b9)] [(600,ZYd b6 _),(700,ZRp b7 _),(900,jX b9 _ z.now z.seq z.aOE f2 z.aOH f3)]) (js [600,700,900]) ?_;exact WkK.of (jeK ht hP hw' fZ eZ v7 hI ha nZ)
 ·have aA:¬(i:Int)<V.length:=by omega
  obtain rfl:=cP (.inl (by omega))
  simp only [go_sem,aA];refine ky ?_;refine WkK.wk (s':=St.of [(6,Bx 600 b6),(7,Bx 700 b7),(8,Ni h),(9,Bx 900 b9)] [(600,ZYd b6 _),(700,ZRp b7 _),(900,jX b9 _ z.now z.seq z.aOE f2 z.aOH f3)]) (js [600,700,900]) ?_;exact WkK.of (jeK ht hP hw' fZ eZ v7 hI ha nZ)
structure Rp where
 code:Int
 run:Int
 aOK:Int
 tri:Int
 deriving DecidableEq,Inhabited
abbrev jex (r:Rp):List D:=[iv r.code,iv r.run,iv r.aOK,iv r.tri]
noncomputable def jbw (y:Yd) (aOJ aOM:Int):Rp:=
 if jbb y aOJ aOM≠0 then ⟨jbb y aOJ aOM,0,0,0⟩
 else match jbc y (aOJ.tmod 4).toNat aOM with
  |[]=>⟨0,0,0,0⟩
  |e::l=>⟨0,e.run,e.aOK,jmm (pollZ y (aOJ.tmod 4).toNat aOM) e⟩
theorem jAY (y:Yd) (aOJ aOM:Int):jcY y aOJ aOM=jex (jbw y aOJ aOM):=by
 unfold jcY jbw;split
 ·rfl
 ·split<;>rfl
theorem jkU (y:Yd) (aOJ aOM:Int) (ht:jB y<=2000000):jZ Tryz.prog 15 [.agg (jb y),.c (.val (.int .i64 aOJ)),.c (.val (.int .i64 aOM))] (.tup [(true,jb (qu y aOJ aOM)),(true,jex (jbw y aOJ aOM))]):=by
 rw [<-jAY];exact jri y aOJ aOM ht
theorem jk1 (y:Yd) (aOJ aOM:Int) (ht:jB y<=2000000):jZ Tryz.prog 14 [.agg (jb y),.c (.val (.int .i64 aOJ)),.c (.val (.int .i64 aOM))] (.tup [(true,jb (qu y aOJ aOM)),(true,jex (jbw y aOJ aOM))]):=by
 rw [<-jAY];exact jrj y aOJ aOM ht
theorem jwC {y:Yd} {h:Nat} (hh:h<4):∀(vs:List Int) (z:Yd),(∀v∈vs,∃n:Nat,v=n/\n<4/\n≠h)->PollI y h z->PollI y h (pollF h vs z)
 |[],_,_,hI=>hI
 |v::vs,z,hv,hI=>by
  rw [pollF];split
  ·obtain ⟨n,rfl,h1,h2⟩:=hv v (by simp)
   exact jwC hh vs _ (λv sQ=>hv v (by simp [sQ])) (by rw [aPB];exact hI.step h1 hh h2)
  ·exact hI
theorem jnV {y:Yd} (hP:YardOkP y) {h:Nat} (hh:h<4) (aOM:Int):PollI y h (pollZ y h aOM):=by
 obtain ⟨v0,v1,v2,hv,w0,w1,w2,n0,n1,n2⟩:=jd6 hh aOM;refine jwC hh _ _ (λv hm=>?_) (PollI.start hP hh)
 rw [hv] at hm;simp at hm;rcases hm with rfl|rfl|rfl
 ·exact ⟨v0,rfl,w0,n0⟩
 ·exact ⟨v1,rfl,w1,n1⟩
 ·exact ⟨v2,rfl,w2,n2⟩
theorem jsl:∀(f:Nat) (l:List UInt8) (n i:Nat),(∀c∈l.take f,128<=c.toNat)->vGo f l n i=none
 |0,_,_,_,_=>rfl
 |_+1,[],_,_,_=>rfl
 |f+1,b::l,n,i,h=>by
  have hb:=h b (by simp)
  rw [vGo,if_neg (by omega)]
  exact jsl f l _ _ λc hc=>h c (by simp [hc])
structure GoOn (l:List UInt8) (i:Nat) (n:Nat):Prop where
 le:i<=l.length
 on:∀c∈l.take i,128<=c.toNat
 dec:n=jgT (l.take i)
theorem GoOn.start (l:List UInt8):GoOn l 0 0:=⟨aPP _,by simp,rfl⟩
theorem GoOn.next {l:List UInt8} {i n:Nat} {b:UInt8} (h:GoOn l i n) (hb:l[i]?=some b) (h8:128<=b.toNat):GoOn l (i+1) (n+b.toNat%128*128^i):=by
 have hi:=(aOS.1 hb).1;have e:l.take (i+1)=l.take i++[b]:=by rw [aPE,hb];rfl
 refine ⟨hi,λc hc=>?_,?_⟩
 ·rw [e] at hc
  rcases aOX.1 hc with hc|hc
  ·exact h.on c hc
  ·simp at hc;subst hc;exact h8
 ·rw [e,jbY,<-h.dec,aOZ,aQL (by omega)]
theorem GoOn.done {l:List UInt8} {i n:Nat} {b:UInt8} (h:GoOn l i n) (hi:i<5) (hb:l[i]?=some b) (h8:b.toNat<128):
 jf8 l=if n+b.toNat%128*128^i<=1000000000/\(za (n+b.toNat%128*128^i)).length=i+1 then some (n+b.toNat%128*128^i,i+1) else none:=by
 have hl:=(aOS.1 hb).1
 have e:l=l.take i++b::l.drop (i+1):=by
  have:l.drop i=b::l.drop (i+1):=by rw [aQT hl];congr 1;exact (aOS.1 hb).2
  rw [<-this,aQR]
 have aC:(l.take i).length=i:=by rw [aOZ];omega
 have:=jq3 5 (l.take i) [] (l.drop (i+1)) b h.on h8 (by omega)
 rw [<-e] at this;simp only [aQG,aPU,aQN,aC] at this;rw [jbY,aC,<-h.dec] at this;exact this
theorem GoOn.stop {l:List UInt8} {i n:Nat} (h:GoOn l i n) (hi:5<=i\/l.length<=i):jf8 l=none:=by
 refine jsl 5 l 0 0 λc hc=>h.on c ?_
 rcases hi with hi|hi
 ·exact (List.take_sublist_take_left hi).subset hc
 ·rw [aOW hi];exact aRU hc
theorem jBk:∀l:List UInt8,jgT l<128^l.length
 |[]=>by simp [jgT]
 |b::l=>by
  have:=jBk l;simp only [jgT,aPI,Nat.pow_succ];omega
theorem GoOn.lt {l:List UInt8} {i n:Nat} (h:GoOn l i n):n<128^i:=by
 have:=jBk (l.take i);rw [aOZ,aQL h.le,<-h.dec] at this;exact this
theorem jx3 {t:ByteArray} {k i:Nat} {b:UInt8} (h:(t.data.toList.drop k)[i]?=some b):t[k+i]?=some b:=by
 rw [aQU,Array.getElem?_toList] at h
 have hk:k+i<t.size:=by
  obtain ⟨h1,_⟩:=Array.getElem?_eq_some_iff.1 h;exact h1
 rw [getElem?_pos t (k+i) hk];rw [getElem?_pos t.data (k+i) hk] at h;exact h
theorem pow_i {i:Nat} (h:i<5):128^i<=268435456:=by
 obtain rfl|rfl|rfl|rfl|rfl:i=0\/i=1\/i=2\/i=3\/i=4:=by omega
 all_goals decide
theorem shl_m (b:Int) {m:Nat} (hm:m<=40) (hb:0<=b/\b<128):jcC .shl .i64 b (m:Int)=.int .i64 (b*((2^m:Nat):Int)):=by
 have y0:IntKind.i64.bits=64:=rfl;have e1:min ((m:Int).toNat) IntKind.i64.bits=m:=by rw [y0,aPB];omega
 have e2:(2:Int)^m=((2^m:Nat):Int):=by rw [Int.natCast_pow];rfl
 have hz:jcC .shl .i64 b (m:Int)=.int .i64 (IntKind.i64.wrap (b*((2^m:Nat):Int))):=by
  show Value.int .i64 (IntKind.i64.wrap (b*2^(min ((m:Int).toNat) IntKind.i64.bits)))=_;rw [e1,e2]
 rw [hz];have hp:(2:Nat)^m<=2^40:=Nat.pow_le_pow_right (by decide) hm
 have mK:(2:Nat)^m<=1099511627776:=hp;have h1:b*((2^m:Nat):Int)<=128*1099511627776:=Int.mul_le_mul (by omega) (Int.ofNat_le.2 mK) (Int.natCast_nonneg _) (by omega)
 have h0:0<=b*((2^m:Nat):Int):=Int.mul_nonneg hb.1 (Int.natCast_nonneg _);generalize b*((2^m:Nat):Int)=z at*;rw [kU (by omega) (by omega)]
theorem shl_i (b:Int) {i:Nat} (h:i<5) (hb:0<=b/\b<128):jcC .shl .i64 b (7*(i:Int))=.int .i64 (b*((128^i:Nat):Int)):=by
 have:=shl_m b (m:=7*i) (by omega) hb
 rw [Nat.pow_mul] at this;rw [show 7*(i:Int)=((7*i:Nat):Int) by omega]
 exact this
theorem shl_w (b:Int) {i:Nat} (h:i<5) (hb:0<=b/\b<128):IntKind.i64.wrap (b*2^min (7*(i:Int)).toNat 64)=b*((128^i:Nat):Int):=by
 have h1:Value.int .i64 (IntKind.i64.wrap (b*2^min (7*(i:Int)).toNat 64))=.int .i64 (b*((128^i:Nat):Int)):=shl_i b h hb;injection h1
theorem jyH (n:Nat):(jd8 (n:Int)).size=if n<=1000000000 then (za n).length else 0:=by
 split
 ·rename_i h;rw [jhY h];rfl
 ·rename_i h
  have:jd8 (n:Int)=⟨#[]⟩:=by rw [jd8,if_neg (by omega)]
  rw [this];rfl
theorem jxQ (u:UInt8):IntKind.i64.wrap (u.toNat:Int)=u.toNat:=kU (by omega) (by have:=u.toNat_lt;omega)
theorem jEI (u:UInt8):((u.toNat:Int)).tmod 128=((u.toNat%128:Nat):Int):=rfl
theorem jpv {s:St} (a b:Nat) (u v:Value) (ha:s.t a=.c (.v u)) (hb:s.t b=.c (.v v)) (hu:u.oneCell'=true:=by rfl) (hv:v.oneCell'=true:=by rfl):jvs [.t a,.t b] (.tup [(false,[.val u]),(false,[.val v])]) s:=by
 simp only [vl,jgm,ha,hb,jgl,jS,jI];refine ⟨by simp,?_⟩
 simp [qC,A0.one,hu,hv,IsD,RT.flat]
def jjl:C:=iS [aN 4 0,aN 5 0] (.seq (iS [aM 9 1,aM 10 0,iA 11 (.len true (.t 10)),aQ 12 .sub 3 11 1,iA 13 (.call 62 [.t 9,oI 0,.t 12]),aU 14 13] (iD 14 (iS [aN 4 0,aN 5 (-1)] .ret) .skip)) (iS [aN 6 0] (.seq (iS [aN 7 0] (.blk 0 (.loop (.seq (iS [aM 15 7,aQ 16 .lss 3 15 5,aM 17 16,iB 18 17 true (iM 1),iB 19 17 true (iM 7),iB 20 17 true (iP .add 3 18 19),iB 21 17 true (iM 0),iB 22 17 true (.len true (.t 21)),iB 23 17 true (iP .lss 3 20 22),iA 24 (iY 17 (.t 23) (oF))] (iD 24 .skip (.exit 0))) (.seq (.blk 1 (iS [aM 27 0,aM 28 1,aM 29 7,aP 30 .add 3 28 29,iA 31 (.sidx (.t 27) (.t 30)),iA 32 (.cv (.num .i64) 0 (.t 31)),aM 8 32] (iS [aM 33 6,aM 34 8,aQ 35 .rem 3 34 128,aM 36 7,iA 37 (.bin .mul 3 (oI 7) (.t 36)),aP 38 .shl 3 35 37,aP 39 .add 3 33 38,aM 6 39] (iS [aM 40 8,aQ 41 .lss 3 40 128] (iD 41 (.seq (iS [aM 42 6,iA 43 (iK 153 [42]),iA 44 (.len true (.t 43)),aM 45 7,aQ 46 .add 3 45 1,aP 47 .neq 3 44 46] (iD 47 (iS [aN 4 0,aN 5 (-1)] .ret) .skip)) (iS [aM 48 6,aM 49 1,aM 50 7,aP 51 .add 3 49 50,aQ 52 .add 3 51 1,aM 4 48,aM 5 52] .ret)) .skip))))) (.reg [aM 25 7,aQ 26 .add 3 25 1,aM 7 26])))))) (iS [aN 4 0,aN 5 (-1)] .ret))))
theorem jlF:fnC Tryz.prog Tryz.f154=some (jjl,[.t 4,.t 5],53):=by kernel_rfl
def jdU:C:=iS [iA 2 (.mov (.c (.slice none 0 0))),aO 3 false] (iS [iA 4 (.mov (.c (.slice none 0 0)))] (.seq (iS [aN 5 0] (.blk 0 (.loop (.seq (iS [aM 8 5,aM 9 0,iA 10 (.len true (.t 9)),aP 11 .lss 3 8 10] (iD 11 .skip (.exit 0))) (.blk 1 (iS [aM 13 0,aM 14 5,iA 15 (iK 154 [13,14]),aM 12 15,aE 16 12 0,aE 17 12 1,aM 6 16,aM 7 17] (.seq (iS [aM 18 7,aQ 19 .lss 3 18 0] (iD 19 (iS [iA 2 (.mov (.c (.slice none 0 0))),aO 3 false] .ret) .skip)) (iS [aM 20 4,aM 21 6,iA 22 (wAY [(0,1,.t 21)]),iA 23 (wA7 20 22),aM 4 23] (.reg [aM 24 7,aM 5 24]))))))))) (iS [aM 25 4,aM 2 25,aO 3 true] .ret)))
theorem jg9:fnC Tryz.prog Tryz.f102=some (jdU,[.t 2,.t 3],26):=by kernel_rfl
theorem jpN (t:ByteArray) (k:Int) (ht:t.size<=1000000000) (hk:k<=1000000000):jZ Tryz.prog 154 [.c (.val (.string t)),.c (.val (.int .i64 k))] (.tup [(false,[.val (.int .i64 (vAt t k).1)]),(false,[.val (.int .i64 (vAt t k).2)])]):=by
 refine pf_ jlF ?_;unfold jjl;have fK:IntKind.i64.wrap ((t.size:Int)-1)=(t.size:Int)-1:=zm;simp only [go_sem,fK];refine jk (jx k 0 ((t.size:Int)-1)) λη=>?_
 simp only [go_sem];by_cases cJ:0<=k/\k<=(t.size:Int)-1;rotate_left
 ·have hb:decide (0<=k/\k<=(t.size:Int)-1)=false:=decide_eq_false cJ
  have hv:vAt t k=(0,-1):=by
   rw [vAt];split
   ·rfl
   ·rw [List.drop_eq_nil_of_le (by simp only [aRM];have:t.data.size=t.size:=rfl;omega)]
    rfl
  simp only [go_sem,hb,hv,Bool.not_false];exact jpv _ _ _ _ (by simp only [go_sem]) (by simp only [go_sem])
 have hb:decide (0<=k/\k<=(t.size:Int)-1)=true:=decide_eq_true cJ;simp only [go_sem,hb,Bool.not_true];clear hb;obtain ⟨k,rfl⟩:=Int.eq_ofNat_of_zero_le cJ.1
 have hv:vAt t (k:Int)=match jf8 (t.data.toList.drop k) with
  |some (v,m)=>((v:Int),(k:Int)+(m:Int))
  |none=>(0,-1):=by rw [vAt,if_neg (by omega),aPB];rfl
 rw [hv];have aC:(t.data.toList.drop k).length=t.size-k:=by rw [aPN,aRM];rfl
 generalize hL:t.data.toList.drop k=L at*;refine kh (λi:Nat×Nat=>St.of [(0,.c (.v (.string t))),(1,Ni k),(6,Ni i.2),(7,Ni i.1)] []) (λi=>i.1<=5/\GoOn L i.1 i.2) (λi=>5-i.1) (0,0) (⟨by decide,GoOn.start L⟩) (vU [] (by simp only [go_sem]<;>trivial)) ?_
 rintro ⟨i,n⟩ ⟨hi,hG⟩;dsimp only at hi hG;have aKJ:=hG.le;have gP:IntKind.i64.wrap ((k:Int)+(i:Int))=((k+i:Nat):Int):=by rw [kU (by omega) (by omega)];omega
 by_cases hi5:i<5;rotate_left
 ·have rZ:¬(i:Int)<5:=by omega
  rw [hG.stop (.inl (by omega))]
  simp only [go_sem,rZ];exact jpv _ _ _ _ (by simp only [go_sem]) (by simp only [go_sem])
 have rZ:(i:Int)<5:=by omega
 by_cases aB:i<L.length;rotate_left
 ·have aA:¬((k+i:Nat):Int)<(t.size:Int):=by omega
  rw [hG.stop (.inr (by omega))]
  simp only [go_sem,rZ,gP,aA];exact jpv _ _ _ _ (by simp only [go_sem]) (by simp only [go_sem])
 have aA:((k+i:Nat):Int)<(t.size:Int):=by omega
 have h0:(0:Int)<=((k+i:Nat):Int):=by omega
 obtain ⟨u,hu⟩:=ja aB;have hut:=jx3 (t:=t) (k:=k) (by rw [hL];exact hu)
 have hu8:=u.toNat_lt;have xC:IntKind.i64.wrap (7*(i:Int))=7*(i:Int):=zm;have eD:=shl_w ((u.toNat%128:Nat):Int) hi5 ⟨by omega,by omega⟩
 have iV:=hG.lt;have hpi:=pow_i hi5;have xZ:(u.toNat%128)*128^i<=128*268435456:=Nat.mul_le_mul (by omega) hpi
 have yY:((u.toNat%128:Nat):Int)*((128^i:Nat):Int)=((u.toNat%128*128^i:Nat):Int):=by rw [Int.natCast_mul]
 have uZ:IntKind.i64.wrap ((n:Int)+((u.toNat%128*128^i:Nat):Int))=((n+u.toNat%128*128^i:Nat):Int):=by rw [kU (by omega) (by omega)];omega
 have gI:=kw i;have aBY:IntKind.i64.wrap (((k+i:Nat):Int)+1)=(k:Int)+((i+1:Nat):Int):=by rw [kU (by omega) (by omega)];omega
 have cE:=λh=>hG.next hu h
 have uR:=λh=>hG.done hi5 hu h
 rw [yY] at eD;have hlen2:=jyH (n+u.toNat%128*128^i);generalize n+u.toNat%128*128^i=N at*;simp only [go_sem,rZ,gP,aA,h0,aPB,hut,jxQ,jEI,xC];refine ⟨u,rfl,by omega,?_⟩
 by_cases h8:u.toNat<128
 ·have lF:(u.toNat:Int)<128:=by omega
  have hd:=uR h8;simp only [go_sem,lF];refine jw (jae (N:Int)) (by simp only [go_sem,eD,uZ]) λη=>?_
  simp only [go_sem,eD,uZ];by_cases hc:N<=1000000000/\(za N).length=i+1
  ·rw [if_pos hc] at hd
   have hb:(((jd8 (N:Int)).size:Int) !=((i+1:Nat):Int))=false:=by rw [hlen2,if_pos hc.1,hc.2];simp
   rw [hd];simp only [go_sem,gI,hb,gP,aBY];exact jpv _ _ _ _ (by simp only [go_sem]) (by simp only [go_sem])
  ·rw [if_neg hc] at hd
   have hb:(((jd8 (N:Int)).size:Int) !=((i+1:Nat):Int))=true:=by
    rw [hlen2];simp only [bne_iff_ne,ne_eq];split
    ·rename_i g;have:¬(za N).length=i+1:=λq=>hc ⟨g,q⟩
     omega
    ·omega
   rw [hd];simp only [go_sem,gI,hb];exact jpv _ _ _ _ (by simp only [go_sem]) (by simp only [go_sem])
 ·have lF:¬(u.toNat:Int)<128:=by omega
  simp only [go_sem,lF,gI];exact ⟨(i+1,N),⟨hi5,cE (by omega)⟩,(vU [] (by simp only [go_sem,eD,uZ]<;>trivial)),by (try dsimp only);omega⟩
theorem jsE:∀(f g:Nat) (l:List UInt8),l.length<=f->l.length<=g->rvF f l=rvF g l
 |f,g,[],_,_=>by cases f<;>cases g<;>rfl
 |0,_,_::_,h,_=>by simp at h
 |_,0,_::_,_,h=>by simp at h
 |f+1,g+1,b::l,h1,h2=>by
  simp only [rvF];cases hv:jf8 (b::l) with
  |none=>rfl
  |some p=>
   obtain ⟨v,k⟩:=p;obtain ⟨_,q,h5,rfl⟩:=jd9 hv;have aK:=aRP.2 (jc2 v);simp only [aPI] at h1 h2;dsimp only;rw [jsE f g]
   ·rw [aPN,aPI];omega
   ·rw [aPN,aPI];omega
structure RvTo (t:ByteArray) (k:Nat) (L:List Int):Prop where
 le:k<=t.size
 len:L.length<=k
 eq:rvF t.size t.data.toList=(rvF t.size (t.data.toList.drop k)).map λr=>L++r
theorem RvTo.start (t:ByteArray):RvTo t 0 []:=⟨aPP _,aPD _,by simp⟩
theorem RvTo.step {t:ByteArray} {k:Nat} {L:List Int} (h:RvTo t k L) (hk:k<t.size):
 (vAt t (k:Int)).2=-1/\rvF t.size t.data.toList=none\/∃v m:Nat,vAt t (k:Int)=((v:Int),(m:Int))/\k<m/\RvTo t m (L++[(v:Int)]):=by
 have hs:t.data.toList.length=t.size:=by rw [aRM];rfl
 have hv:vAt t (k:Int)=match jf8 (t.data.toList.drop k) with
  |some (v,m)=>((v:Int),(k:Int)+(m:Int))
  |none=>(0,-1):=by rw [vAt,if_neg (by omega),aPB];rfl
 have hl:(t.data.toList.drop k).length=t.size-k:=by rw [aPN,hs]
 have dJ:=h.eq;cases hd:t.data.toList.drop k with
 |nil=>rw [hd] at hl;simp at hl;omega
 |cons b l=>
  rw [hd] at hv hl dJ;obtain ⟨f,hf⟩:∃f,t.size=f+1:=⟨t.size-1,by omega⟩
  cases hh:jf8 (b::l) with
  |none=>
   left;rw [hv,hh];refine ⟨rfl,?_⟩;rw [dJ,hf];simp only [rvF,hh,Option.map_none]
  |some p=>
   obtain ⟨v,m⟩:=p;right;obtain ⟨_,q,h5,rfl⟩:=jd9 hh;have aK:=aRP.2 (jc2 v);have hlq:=congrArg List.length h5;rw [aOU] at hlq;refine ⟨v,k+(za v).length,?_,by omega,by omega,?_,?_⟩
   ·rw [hv,hh];simp
   ·have:=h.len;simp;omega
   ·have e1:rvF (f+1) (b::l)=(rvF f ((b::l).drop (za v).length)).map λr=>(v:Int)::r:=by simp only [rvF,hh]
    rw [dJ]
    conv=>lhs;rw [hf,e1]
    rw [<-List.drop_drop,hd,jsE f t.size ((b::l).drop (za v).length) (by rw [aPN];omega) (by rw [aPN];omega),Option.map_map]
    congr 1
    funext r
    simp
theorem RvTo.done {t:ByteArray} {k:Nat} {L:List Int} (h:RvTo t k L) (hk:¬k<t.size):rvF t.size t.data.toList=some L:=by
 have hs:t.data.toList.length=t.size:=by rw [aRM];rfl
 rw [h.eq,List.drop_eq_nil_of_le (by omega)]
 cases t.size<;>simp [rvF]
theorem jzL (l:List Int) (a:Int):D.sl 1 jes (l.flatMap (λn=>[iv n])++[iv a])=jc (l++[a]):=by simp [jc]
def rvR (t:ByteArray):List Int×Bool:=match rvF t.size t.data.toList with
 |some L=>(L,true)
 |none=>([],false)
theorem jED {s:St} {a b g c:Nat} {x u:Value} {d:D} {η:jg} (ha:s.t a=.c (.h g c [] x)) (ho:(s.o g).own c=some (d,η)) (hx:η []=x) (hb:s.t b=.c (.v u)) (hu:u.oneCell'=true:=by rfl):jvs [.t a,.t b] (.tup [(false,[d]),(false,[.val u])]) s:=by
 simp only [vl,jgm,ha,hb,jgl,jS,jI];refine ⟨by simp,?_⟩
 simp [qC,A0.one,hu,ho,IsD,RT.flat];exact ⟨_,_,⟨rfl,rfl⟩,hx,rfl⟩
theorem jEC {s:St} {a b:Nat} {u:Value} {size:Nat} {ty:TypeId} (ha:s.t a=.c (.v (.slice none 0 0))) (hb:s.t b=.c (.v u)) (hu:u.oneCell'=true:=by rfl):jvs [.t a,.t b] (.tup [(false,[.sl size ty []]),(false,[.val u])]) s:=by
 simp only [vl,jgm,ha,hb,jgl,jS,jI];refine ⟨by simp,?_⟩
 simp only [aPQ,List.flatMap_nil,aPR,aRE,aQG,qC,A0.one,hu,RT.flat,IsD];simp [];rfl
theorem jkY (t:ByteArray) (ht:t.size<=1000000000):jZ Tryz.prog 102 [.c (.val (.string t))] (.tup [(false,[jc (rvR t).1]),(false,[.val (.bool (rvR t).2)])]):=by
 refine pf_ jg9 ?_;unfold jdU;simp only [go_sem];refine kh (λi:(List Int×Nat)×jg=>St.of [(0,.c (.v (.string t))),(4,Hd 7 i.2),(5,Ni i.1.2)] [(7,.loose (jc i.1.1) i.2)]) (λi=>RvTo t i.1.2 i.1.1) (λi=>t.size-i.1.2) (([],0),jcb) (RvTo.start t) (vU [none] (by simp only [go_sem]<;>trivial)) ?_
 rintro ⟨⟨L,k⟩,η⟩ hi;dsimp only at hi;have cR:=hi.le;have aC:=hi.len;by_cases aB:k<t.size;rotate_left
 ·have aA:¬(k:Int)<(t.size:Int):=by omega
  have hr:rvR t=(L,true):=by rw [rvR,hi.done aB]
  rw [hr];simp only [go_sem,aA];exact jED (g:=7) (c:=0) (d:=jc L) (η:=η) (x:=η []) (by simp only [go_sem]) (by simp only [go_sem]) rfl (by simp only [go_sem])
 have aA:(k:Int)<(t.size:Int):=by omega
 have dU:L.length+1<=maxLen:=vT;have eG:(L.length+1)*8<=140737488355328:=by omega
 simp only [go_sem,aA];refine jk (jpN t (k:Int) ht (by omega)) λη=>?_
 simp only [go_sem];rcases hi.step aB with ⟨e1,e2⟩|⟨v,m,e1,hkm,hn⟩
 ·have hr:rvR t=([],false):=by rw [rvR,e2]
  have aV:(-1:Int)<0:=by omega
  rw [hr];simp only [go_sem,e1,aV];exact jEC (by simp only [go_sem]) (by simp only [go_sem])
 ·have aV:¬(m:Int)<0:=by omega
  have aJU:=hn.le;simp only [go_sem,e1,aV,dU,eG];intro aS bY;exact ⟨((L++[(v:Int)],m),bY),hn,(js [2300] (by simp only [go_sem,jzL]<;>trivial)),by (try dsimp only);omega⟩
section
variable {P:Program} {β N B:Nat} {s:St} {K:St->Prop} {d:Option Nat} {gd:Option (Nat×Bool)} {a:Act} {w w0:World} {F:Nat->List Nat}
def jAy (o' o:Nat->Ob):Prop:=∀g,o' g=o g\/o' g=.none
open Classical in
theorem RelF.less (h:RelF B w0 N s a w F) {o':Nat->Ob} (ho:jAy o' s.o):∃F':Nat->List Nat,RelF B w0 N ⟨s.t,o'⟩ a w F'/\∀g,∀b∈F' g,b∈F g:=by
 have hs:∀g,∀b∈(if o' g=s.o g then F g else []),b∈F g:=λg b hb=>by
  split at hb
  ·exact hb
  ·simp at hb
 refine ⟨λg=>if o' g=s.o g then F g else [],⟨h.below,h.hB,h.df,h.sz,h.sl,λg=>?_,λg=>?_,λg g' aK b hb a9=>h.dj g g' aK b (hs g b hb) (hs g' b a9)⟩,hs⟩
 ·show ORel B w (o' g) _
  by_cases e:o' g=s.o g
  ·rw [if_pos e,e];exact h.ob g
  ·rw [if_neg e,(ho g).resolve_left e];rfl
 ·by_cases e:o' g=s.o g
  ·rw [if_pos e];exact h.fr g
  ·rw [if_neg e];exact Fresh.nil _
def jDF (P:Program) (f:FuncId) (args:List AV) (o:Nat->Ob) (A:AV) (o':Nat->Ob):Prop:=Inl P f args o λav o2=>av=A/\o2=o'
theorem joq {f:FuncId} {args:List AV} {o o':Nat->Ob} {A:AV} (h:Inl P f args o λav o2=>av=A/\jAy o' o2):jDF P f args o A o':=
 ⟨h.1,λB w F xs h1 h2=>(h.2 B w F xs h1 h2).mono λe w' ⟨v,av,o2,F',k1,k2,k3,k4,k5⟩=>by
  obtain ⟨F2,r,_⟩:=k2.less (o':=o') k5;exact ⟨v,av,o',F2,k1,r,k3,k4,rfl⟩⟩
theorem jv {f:Nat} {args:List X} {vs:List AV} {A:AV} {o':Nat->Ob} (h:jDF P f vs s.o A o') (ha:args.map s.ev=vs) (hk:K (St.put ⟨s.t,o'⟩ d A)):vp P β ⟨d,gd,.call f args⟩ s K:=by
 subst ha;exact jmO h λav o2 ⟨h1,h2⟩=>by subst h1 h2;exact hk
theorem jV {g M:Nat} (h:g<M) (n:Nat) (hn:M<=n):(g=n)=False:=eq_false (by omega)
end
def jDA (o:Nat->Ob) (g:Nat) (ob:Ob):Nat->Ob:=λk=>if k=g then ob else o k
theorem jDO (o:Nat->Ob) (g:Nat) (ob:Ob) (k:Nat):jDA o g ob k=if k=g then ob else o k:=(rfl)
theorem jak {g:Nat} {o o2:Nat->Ob} {ob:Ob} (h1:o2 g=ob) (h2:∀k,k≠g->o2 k=o k):jAy (jDA o g ob) o2:=λk=>by
 rw [jDO];by_cases e:k=g
 ·rw [if_pos e,e];exact .inl h1.symm
 ·rw [if_neg e];exact .inl (h2 k e).symm
attribute [go_sem] jDO
def St.ofB (T:List (Nat×AV)) (O:List (Nat×Ob)) (M:Nat) (ob:Nat->Ob):St:=⟨lkT T,λj=>if j<M then ob j else lkO O j⟩
theorem ofB_t (T:List (Nat×AV)) (O:List (Nat×Ob)) (M:Nat) (ob:Nat->Ob) (n:Nat):(St.ofB T O M ob).t n=lkT T n:=(rfl)
theorem ofB_o (T:List (Nat×AV)) (O:List (Nat×Ob)) (M:Nat) (ob:Nat->Ob) (n:Nat):(St.ofB T O M ob).o n=if n<M then ob n else lkO O n:=(rfl)
attribute [go_sem] ofB_t ofB_o
theorem kO {s:St} {T:List (Nat×AV)} {O:List (Nat×Ob)} {M:Nat} {ob:Nat->Ob} (ks:List (Option Nat)) (h:jz3 s T/\jrZ s ks O) (hf:∀j,j<M->s.o j=ob j) (hk:∀k∈jsx ks,M<=k) (hn:jjp (jsx ks)=true:=by decide):Wk s (St.ofB T O M ob):=λB N w0 w a F hr=>by
 have bT:=jxp hr.ob h.2;have oG:=jzY (ks:=ks) (O:=O) hr.dj (jcw hn);refine ⟨λj=>if j<M then F j else fp F ks O j,⟨hr.below,hr.hB,hr.df,hr.sz,jz1 hr.sl h.1,λg=>?_,λg=>?_,λg g' aK x hx bV=>?_⟩,λg x hx=>?_⟩
 ·by_cases c:g<M
  ·simp only [St.ofB,if_pos c];rw [<-hf g c];exact hr.ob g
  ·simp only [St.ofB,if_neg c];exact bT g
 ·by_cases c:g<M
  ·simp only [if_pos c];exact hr.fr g
  ·simp only [if_neg c];exact jzX hr.fr ks O g
 ·by_cases c:g<M
  ·simp only [if_pos c] at hx
   by_cases c':g'<M
   ·simp only [if_pos c'] at bV;exact hr.dj g g' aK x hx bV
   ·simp only [if_neg c'] at bV
    obtain ⟨k,h1,h2⟩:=jgL bV;exact hr.dj g k (by have:=hk k h1;omega) x hx h2
  ·simp only [if_neg c] at hx
   by_cases c':g'<M
   ·simp only [if_pos c'] at bV
    obtain ⟨k,h1,h2⟩:=jgL hx;exact hr.dj k g' (by have:=hk k h1;omega) x h2 bV
   ·simp only [if_neg c'] at bV;exact oG g g' aK x hx bV
 ·by_cases c:g<M
  ·simp only [if_pos c] at hx;exact ⟨g,hx⟩
  ·simp only [if_neg c] at hx
   obtain ⟨k,_,h2⟩:=jgL hx;exact ⟨k,h2⟩
theorem jp0:∀L:List Int,(L.flatMap λn=>[iv n]).length=L.length
 |[]=>rfl
 |a::L=>by rw [aPQ,aOU,jp0 L];simp;omega
theorem jFG {s:St} (k c:Nat) (p:List Nat) (x:Value) (sz lo n:Nat):(∃dd,Is s (.hs k c p x sz lo n) dd)=jjb ((s.o k).own c) λd0 η=>η p=x/\joU (D.get p d0) λdd=>(dd.isSl=true/\dd.size=sz/\0<sz/\lo+n<=dd.len)/\True:=by
 have:=jFj (s:=s) k c p x sz lo n λ_=>True
 rw [<-this];simp only [and_true]
def jaD:C:=iS [aN 2 0] (.seq (iS [aM 4 0,aF 5 0 4,aF 6 0 5,aL 7 6,aG 8 7,aQ 9 .eql 3 8 0] (iD 9 (iS [aM 10 0,aF 11 0 10,aF 12 1 11,iC (.st 1 [none] (.t 12) (oT))] (iS [aN 2 0] .ret)) .skip)) (iS [aM 13 0,aF 14 0 13,aF 15 0 14,aL 16 15,iA 17 (.ia 1 (.t 16) (oI 0)),aL 18 17,aM 3 18] (iS [aM 19 0,aM 20 0,aF 21 0 20,aF 22 0 21,aL 23 22,iA 24 (.sl 1 (.t 23) (some (oI 1)) none),aF 25 0 19,aF 26 0 25,iC (.st 1 [some (1,3)] (.t 26) (.t 24))] (iS [aM 27 3,aM 2 27] .ret))))
theorem jcr:fnC Tryz.prog Tryz.f103=some (jaD,[.t 2],28):=by kernel_rfl
def vm (b ty:Nat) (η:jg) (L:List Int) (s:Nat×Bool):Ob:=.box b ty [.a (.hs 87 0 [] (η []) 1 s.1 (L.length-s.1)),.a (.v (.bool s.2))]
theorem kM (L:List Int) (s:Nat×Bool) (b:Nat) (η:jg) (o:Nat->Ob) (hs:s.1<=L.length) (ho:o 88=vm b 128 η L s) (hL:o 87=.loose (jc L) η):
 jDF Tryz.prog 103 [Bx 88 b] o (Ni (jai L s).1) (jDA o 88 (vm b 128 η L (jai L s).2)):=by
 obtain ⟨k,bad⟩:=s;dsimp only at hs;refine joq ?_;refine qm (β:=8000000) Tryz.func103 jcr (by simp) ?_
 unfold jaD;unfold vm at ho;by_cases aB:k<L.length
 ·obtain ⟨x,hx⟩:=ja aB
  have he:(((L.length-k:Nat):Int)==0)=false:=by simp;omega
  have h1:1<=L.length-k:=by omega
  have hr:jai L (k,bad)=(x,(k+1,bad)):=by simp only [jai,hx]
  have lB:0<L.length-k:=by omega
  have dM:k+(L.length-k)<=L.length:=by omega
  have lZ:k+1<=L.length:=by omega
  have fB:=jq hx;have f8:(L.flatMap λn=>[iv n]).length=L.length:=jp0 L
  rw [aPK] at fB;have bC:L.length-k-1=L.length-(k+1):=by omega
  simp only [go_sem,ho,hL,he,h1,jFG,lB,dM,lZ,aPO,fB,aPK,f8,aPD,bC,jvI,jsq];rw [hr];refine ⟨rfl,jak (by simp only [go_sem,vm]) λg g2=>?_⟩
  simp only [go_sem,eq_false g2]
 ·have hk:L.length-k=0:=by omega
  have he:(((0:Nat):Int)==0)=true:=rfl;have hr:jai L (k,bad)=(0,(k,true)):=by simp only [jai,aQQ (by omega:L.length<=k)]
  have dM:k+0<=L.length:=by omega
  rw [hk] at ho;simp only [go_sem,ho,hL,jFG,dM];rw [hr];refine ⟨rfl,jak (by simp only [go_sem,vm,hk]) λg g2=>?_⟩
  simp only [go_sem,eq_false g2]
