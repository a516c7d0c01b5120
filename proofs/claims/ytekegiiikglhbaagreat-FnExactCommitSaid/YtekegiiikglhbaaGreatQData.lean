/- Parts. -/
import Derived.Test.YtekegiiikglhbaaGreatQBase2
import Derived.Test.YtekegiiikglhbaaGreatRows
set_option linter.all false
set_option maxHeartbeats 1000000
namespace Go.Proofs.YtekegiiikglhbaaGreat
open Go.RowKit
structure Ed where
 src:Int
 dst:Int
 deriving DecidableEq,Inhabited
structure Pl where
 aAH:Int
 aAK:Int
 aAJ:Int
 aAB:Int
 aAC:List Ed
 deriving DecidableEq,Inhabited
structure En where
 aAH:Int
 seq:Int
 run:Int
 aAI:Int
 deriving DecidableEq,Inhabited
structure Tk where
 aAD:Int
 aAL:Int
 tri:Int
 til:Int
 deriving DecidableEq,Inhabited
structure Rn where
 id:Int
 aAF:Pl
 aAD:Int
 aAB:List Tk
 deriving DecidableEq,Inhabited
structure Yd where
 now:Int
 seq:Int
 aAE:List (List En)
 aAG:List Rn
 deriving DecidableEq,Inhabited
abbrev tEdS:TypeId:=107
abbrev tTkS:TypeId:=110
abbrev tRnS:TypeId:=34
abbrev tSh:TypeId:=33
abbrev tEd:TypeId:=158
abbrev tEn:TypeId:=127
abbrev tTk:TypeId:=143
abbrev tRn:TypeId:=112
abbrev jmW:TypeId:=106
abbrev tYd:TypeId:=36
abbrev jmV:TypeId:=3
abbrev iv (n:Int):D:=.val (.int .i64 n)
def jp (l:List Int):D:=.sl 1 jmV (l.flatMap λn=>[iv n])
def jy (e:Ed):List D:=[iv e.src,iv e.dst]
def jL (l:List Ed):D:=.sl 2 tEd (l.flatMap jy)
def ja (p:Pl):List D:=[iv p.aAH,iv p.aAK,iv p.aAJ,iv p.aAB,jL p.aAC]
def jk (e:En):List D:=[iv e.aAH,iv e.seq,iv e.run,iv e.aAI]
def jo (l:List En):D:=.sl 4 tEn (l.flatMap jk)
def ji (t:Tk):List D:=[iv t.aAD,iv t.aAL,iv t.tri,iv t.til]
def ke (l:List Tk):D:=.sl 4 tTk (l.flatMap ji)
def jc (r:Rn):List D:=iv r.id::(ja r.aAF++[iv r.aAD,ke r.aAB])
def jC (l:List Rn):D:=.sl 8 tRn (l.flatMap jc)
def jX (l:List (List En)):D:=.sl 1 jmW (l.flatMap λes=>[jo es])
def jb (y:Yd):List D:=[iv y.now,iv y.seq,jX y.aAE,jC y.aAG]
section
variable {w:World} {own:Bool} {vs:List Value} {v:Value} {S:List Nat}
theorem kr {e:En} (h:RepL w own (jk e) vs S):vs=[.int .i64 e.aAH,.int .i64 e.seq,.int .i64 e.run,.int .i64 e.aAI]/\S=[]:=by
 obtain ⟨_,rfl,g1⟩:=RepL.val_inv h;obtain ⟨_,rfl,g2⟩:=RepL.val_inv g1;obtain ⟨_,rfl,g3⟩:=RepL.val_inv g2;obtain ⟨_,rfl,g4⟩:=RepL.val_inv g3;obtain ⟨rfl,rfl⟩:=g4;exact ⟨rfl,rfl⟩
theorem kF {e:Tk} (h:RepL w own (ji e) vs S):vs=[.int .i64 e.aAD,.int .i64 e.aAL,.int .i64 e.tri,.int .i64 e.til]/\S=[]:=by
 obtain ⟨_,rfl,g1⟩:=RepL.val_inv h;obtain ⟨_,rfl,g2⟩:=RepL.val_inv g1;obtain ⟨_,rfl,g3⟩:=RepL.val_inv g2;obtain ⟨_,rfl,g4⟩:=RepL.val_inv g3;obtain ⟨rfl,rfl⟩:=g4;exact ⟨rfl,rfl⟩
theorem qN {e:Ed} (h:RepL w own (jy e) vs S):vs=[.int .i64 e.src,.int .i64 e.dst]/\S=[]:=by
 obtain ⟨_,rfl,g1⟩:=RepL.val_inv h;obtain ⟨_,rfl,g2⟩:=RepL.val_inv g1;obtain ⟨rfl,rfl⟩:=g2;exact ⟨rfl,rfl⟩
theorem zZ {p:Pl} (h:RepL w own (ja p) vs S):∃ev,vs=[.int .i64 p.aAH,.int .i64 p.aAK,.int .i64 p.aAJ,.int .i64 p.aAB,ev]/\Rep w own (jL p.aAC) ev S:=by
 obtain ⟨_,rfl,g1⟩:=RepL.val_inv h;obtain ⟨_,rfl,g2⟩:=RepL.val_inv g1;obtain ⟨_,rfl,g3⟩:=RepL.val_inv g2;obtain ⟨_,rfl,g4⟩:=RepL.val_inv g3;obtain ⟨ev,_,S1,S2,rfl,rfl,V,rfl,rfl⟩:=g4;exact ⟨ev,rfl,by simpa using V⟩
theorem jI {r:Rn} (h:RepL w own (jc r) vs S):∃ev tv S1 S2,vs=[.int .i64 r.id,.int .i64 r.aAF.aAH,.int .i64 r.aAF.aAK,.int .i64 r.aAF.aAJ,.int .i64 r.aAF.aAB,ev,.int .i64 r.aAD,tv]
 /\Rep w own (jL r.aAF.aAC) ev S1/\Rep w own (ke r.aAB) tv S2/\S=S1++S2:=by
 obtain ⟨_,rfl,g1⟩:=RepL.val_inv h;obtain ⟨v1,v2,S1,S2,rfl,rfl,V,Y⟩:=RepL.append_inv _ g1;obtain ⟨ev,rfl,k1⟩:=zZ V;obtain ⟨_,rfl,g2⟩:=RepL.val_inv Y;obtain ⟨tv,_,S3,S4,rfl,rfl,h3,rfl,rfl⟩:=g2;exact ⟨ev,tv,S1,S3,rfl,k1,h3,by simp⟩
theorem kE {y:Yd} (h:RepL w own (jb y) vs S):∃sv rv S1 S2,vs=[.int .i64 y.now,.int .i64 y.seq,sv,rv]/\Rep w own (jX y.aAE) sv S1/\Rep w own (jC y.aAG) rv S2/\S=S1++S2:=by
 obtain ⟨_,rfl,g1⟩:=RepL.val_inv h;obtain ⟨_,rfl,g2⟩:=RepL.val_inv g1;obtain ⟨sv,_,S1,S2,rfl,rfl,V,k⟩:=g2;obtain ⟨rv,_,S3,S4,rfl,rfl,h3,rfl,rfl⟩:=k;exact ⟨sv,rv,S1,S3,rfl,V,h3,by simp⟩
theorem jf2 (w:World) (own:Bool) (e:En):RepL w own (jk e) [.int .i64 e.aAH,.int .i64 e.seq,.int .i64 e.run,.int .i64 e.aAI] []:=RepL.val_ (RepL.val_ (RepL.val_ (RepL.val_ RepL.nil_)))
theorem ji4 (w:World) (own:Bool) (e:Tk):RepL w own (ji e) [.int .i64 e.aAD,.int .i64 e.aAL,.int .i64 e.tri,.int .i64 e.til] []:=RepL.val_ (RepL.val_ (RepL.val_ (RepL.val_ RepL.nil_)))
theorem jod (w:World) (own:Bool) (e:Ed):RepL w own (jy e) [.int .i64 e.src,.int .i64 e.dst] []:=RepL.val_ (RepL.val_ RepL.nil_)
theorem jjo {p:Pl} {ev:Value} (h:Rep w own (jL p.aAC) ev S):RepL w own (ja p) [.int .i64 p.aAH,.int .i64 p.aAK,.int .i64 p.aAJ,.int .i64 p.aAB,ev] S:=by
 have:=RepL.val_ (u:=.int .i64 p.aAH) (RepL.val_ (u:=.int .i64 p.aAK) (RepL.val_ (u:=.int .i64 p.aAJ) (RepL.val_ (u:=.int .i64 p.aAB) (RepL.cons_ h (RepL.nil_ (w:=w) (own:=own))))))
 rwa [aBO] at this
theorem jeM {r:Rn} {ev tv:Value} {S1 S2:List Nat} (h:Rep w own (jL r.aAF.aAC) ev S1) (Y:Rep w own (ke r.aAB) tv S2):
 RepL w own (jc r) [.int .i64 r.id,.int .i64 r.aAF.aAH,.int .i64 r.aAF.aAK,.int .i64 r.aAF.aAJ,.int .i64 r.aAF.aAB,ev,.int .i64 r.aAD,tv] (S1++S2):=by
 have:=RepL.val_ (u:=.int .i64 r.id) (RepL.append_ _ (jjo h) (RepL.val_ (u:=.int .i64 r.aAD) (RepL.cons_ Y (RepL.nil_ (w:=w) (own:=own)))))
 rwa [aBO] at this
theorem jc6 {y:Yd} {sv rv:Value} {S1 S2:List Nat} (h:Rep w own (jX y.aAE) sv S1) (Y:Rep w own (jC y.aAG) rv S2):
 RepL w own (jb y) [.int .i64 y.now,.int .i64 y.seq,sv,rv] (S1++S2):=by
 have:=RepL.val_ (u:=.int .i64 y.now) (RepL.val_ (u:=.int .i64 y.seq) (RepL.cons_ h (RepL.cons_ Y (RepL.nil_ (w:=w) (own:=own)))))
 rwa [aBO] at this
theorem jma (r:Rn):(jc r).length=8:=rfl
end
theorem jbq {α:Type} {l m:List α} {k:Nat} {x:α} (hx:l[k]?=some x) (hy:m[k]?=some x) (h:l.take k=m.take k):l.take (k+1)=m.take (k+1):=by
 rw [aAX,aAX,h,hx,hy]
theorem jhb {α:Type} {l m:List α} {k:Nat} {x y:α} (hx:l[k]?=some x) (hy:m[k]?=some y) (h:x≠y):l≠m:=by
 intro e;subst e;rw [hx] at hy;exact h (aCV hy)
theorem jbr {α:Type} {l m:List α} {k:Nat} (hl:l.length<=k) (hm:m.length<=k) (h:l.take k=m.take k):l=m:=by
 rwa [aAW hl,aAW hm] at h
theorem jd {α:Type} {l:List α} {k:Nat} (h:k<l.length):∃x,l[k]?=some x:=⟨l[k],aAT h⟩
theorem jD {b b':Bool} (h:b=b'):Ending.returned (.bool b)=Ending.returned (.bool b'):=by rw [h]
theorem jen {P:Program} {e:TypeId} {size bytes:Nat} {z:Value} (h:(P.info? e).map (λi=>(i.zero,i.size,i.bytes))=some (some z,size,bytes)):
 ∃i zv,P.info? e=some i/\i.zero=some zv/\zv.cells=z.cells/\i.size=size/\i.bytes=bytes:=by
 cases hq:P.info? e with
 |none=>rw [hq] at h;simp at h
 |some i=>
  rw [hq] at h;simp at h;exact ⟨i,z,rfl,h.1,rfl,h.2.1,h.2.2⟩
def jcd {α:Type} (l:List α) (z:α) (k:Nat):List α:=l.take k++List.replicate (l.length-k) z
theorem va {α:Type} (l:List α) (z:α):jcd l z 0=List.replicate l.length z:=by simp [jcd]
theorem kH {α:Type} (l:List α) (z:α) (k:Nat) (h:k<=l.length):(jcd l z k).length=l.length:=by simp [jcd];omega
theorem vR {α:Type} (l:List α) (z:α):jcd l z l.length=l:=by simp [jcd]
theorem vQ {α:Type} {l:List α} {z x:α} {k:Nat} (hx:l[k]?=some x):(jcd l z k).set k x=jcd l z (k+1):=by
 have hk:k<l.length:=(aAR.1 hx).1;have cL:l[k]=x:=by rw [aAT hk] at hx;exact aCV hx
 unfold jcd;rw [List.set_append_right _ _ (by rw [aBA];exact Nat.min_le_left _ _),aBA,aCW (by omega),Nat.sub_self]
 obtain ⟨m,hm⟩:∃m,l.length-k=m+1:=⟨l.length-k-1,by omega⟩
 rw [hm,List.replicate_succ,List.set_cons_zero,List.take_succ_eq_append_getElem hk,cL,aAZ,show l.length-(k+1)=m by omega]
 rfl
theorem cb {P:Program} {f:FuncId} {args:Array Value} {w:World} {b b':Bool} (h:Calls P f args w λe w'=>e=.returned (.bool b)/\Below w.heap.size w w') (Z:b=b'):Calls P f args w λe w'=>e=.returned (.bool b')/\Below w.heap.size w w':=by subst Z;exact h
theorem qr {W w1:World} (Z:Below W.heap.size W w1):(∀b o,b<W.heap.size->w1.cell? ⟨b,o,none⟩=W.cell? ⟨b,o,none⟩)/\(∀b o,b<W.heap.size->w1.frozen? ⟨b,o,none⟩=W.frozen? ⟨b,o,none⟩):=
 ⟨λb o h=>Z.cell (p:=⟨b,o,none⟩) h,λb o h=>Z.frozen (p:=⟨b,o,none⟩) h⟩
theorem jbj {w:World} {own:Bool} {d:D} {v:Value} {S:List Nat} {p:Addr} {u:Value} (h:Rep w own d v S) (hp:∀b∈S,b≠p.block):Rep (w.setCell p u) own d v S:=
 Rep.keep d h λb Z=>Below.heap_setCell w p u b (hp b Z)
theorem Rep.form {w:World} {own:Bool} {size:Nat} {ty:TypeId} {cs:List D} {v:Value} {S:List Nat} (h:Rep w own (.sl size ty cs) v S):∃A n c,v=.slice A n c:=by
 obtain ⟨vs,T,S',hr,_,_⟩:=h;obtain ⟨_,A,n,c,rfl,_⟩:=hr.ro;exact ⟨A,n,c,rfl⟩
def jP {α:Type} (tot:α->Nat) (l:List α):Nat:=(l.map tot).sum
theorem jdT {α:Type} (tot:α->Nat) (l m:List α):jP tot (l++m)=jP tot l+jP tot m:=by simp [jP]
theorem kj {α:Type} {tot:α->Nat} {l:List α} {k:Nat} {x:α} (h:l[k]?=some x):jP tot (l.take (k+1))=jP tot (l.take k)+tot x:=by
 rw [aAX,h,jdT];simp [jP]
theorem kS {α:Type} (tot:α->Nat) (l:List α) (k:Nat):jP tot (l.take k)<=jP tot l:=by
 conv=>rhs;rw [<-aCO k l,jdT]
 exact Nat.le_add_right _ _
theorem jio {α:Type} {tot:α->Nat} {l:List α} {k:Nat} {x:α} (h:l[k]?=some x):tot x<=jP tot l:=by
 have V:=kj (tot:=tot) h;have Y:=kS tot l (k+1);omega
def jcf (p:Pl):Nat:=p.aAC.length
def qh (r:Rn):Nat:=jcf r.aAF+r.aAB.length
def kJ (l:List En):Nat:=l.length
def vl (l:List (List En)):Nat:=l.length+jP kJ l
def qE (l:List Rn):Nat:=l.length+jP qh l
def jG (y:Yd):Nat:=vl y.aAE+qE y.aAG
def szf (tot:Nat) (left:Int):Int:=if (tot:Int)<=left then left-tot else -1
theorem jO (tot:Nat) (left:Int):((tot:Int)<=left/\szf tot left=left-tot)\/(left<tot/\szf tot left=-1):=by
 unfold szf;split
 ·exact .inl ⟨by assumption,rfl⟩
 ·exact .inr ⟨by omega,rfl⟩
theorem km {a b:Int} (h:a=b):Ending.returned (.int .i64 a)=Ending.returned (.int .i64 b):=by rw [h]
theorem jnH {α:Type} {enc:α->List D} {w:World} {ty:TypeId} {xs:List α} {S:List Nat} {g n c k:Nat} (hl:∀x,(enc x).length=1) (h:Rep w true (.sl 1 ty (xs.flatMap enc)) (.slice (some ⟨g,0,none⟩) n c) S) (hk:k<xs.length):
 (∃u,w.cell? ⟨g,k,none⟩=some u)/\w.frozen? ⟨g,k,none⟩=false:=by
 obtain ⟨vs,S1,bB,cU,rfl⟩:=Rep.own hl (by decide) h
 have hn:n=xs.length:=by
  rcases bB.2 with ⟨e,_⟩|⟨g',cap',cur,e,_⟩
  ·cases e
  ·simp only [Value.slice.injEq] at e;exact e.2.1
 subst hn;have:=jbg bB k 1 (by omega) 0 (by omega)
 exact ⟨Option.isSome_iff_exists.1 (by simpa using this.1),by simpa using this.2⟩
def jeL (rs:List Rn) (id:Int):Int:=match rs.findIdx? (λr=>r.id==id) with
 |some k=>k
 |none=>-1
def qj (y:Yd) (id:Int):Int:=if 8<y.aAG.length then -1 else jeL y.aAG id
theorem jaO {rs:List Rn} {id:Int} {k:Nat} {x:Rn} (hx:rs[k]?=some x) (h:x.id=id) (bQ:∀j,j<k->∀z,rs[j]?=some z->z.id≠id):jeL rs id=k:=by
 have hk:k<rs.length:=(aAR.1 hx).1
 have:rs.findIdx? (λr=>r.id==id)=some k:=by
  rw [List.findIdx?_eq_some_iff_getElem];refine ⟨hk,?_,λj hj=>?_⟩
  ·rw [aAT hk] at hx
   simp only [Option.some.injEq] at hx;simp [hx,h]
  ·have:=bQ j hj rs[j] (aAT (by omega))
   simpa using this
 simp [jeL,this]
theorem jch {rs:List Rn} {id:Int} (bQ:∀j,j<rs.length->∀z,rs[j]?=some z->z.id≠id):jeL rs id=-1:=by
 have:rs.findIdx? (λr=>r.id==id)=none:=by
  rw [List.findIdx?_eq_none_iff];intro x hx;obtain ⟨j,hj,rfl⟩:=aBS hx;simpa using bQ j hj rs[j] (aAT hj)
 simp [jeL,this]
theorem jhG (rs:List Rn) (id:Int):(∃(k:Nat) (x:Rn),rs[k]?=some x/\x.id=id/\(∀j,j<k->∀z,rs[j]?=some z->z.id≠id)/\jeL rs id=k)\/((∀x∈rs,x.id≠id)/\jeL rs id=-1):=by
 cases h:rs.findIdx? (λr=>r.id==id) with
 |none=>
  right;rw [List.findIdx?_eq_none_iff] at h;have h':∀x∈rs,x.id≠id:=λx hx=>by simpa using h x hx
  exact ⟨h',jch λj hj z hz=>h' z (aAY hz)⟩
 |some k=>
  left;rw [List.findIdx?_eq_some_iff_getElem] at h;obtain ⟨hk,V,Y⟩:=h;have hx:rs[k]?=some rs[k]:=aAT hk;have dD:rs[k].id=id:=by simpa using V
  have bQ:∀j,j<k->∀z,rs[j]?=some z->z.id≠id:=λj hj z hz=>by
   have:=Y j hj;rw [aAT (by omega)] at hz
   simp only [Option.some.injEq] at hz;subst hz;simpa using this
  exact ⟨k,rs[k],hx,dD,bQ,jaO hx dD bQ⟩
def jdV (y:Yd) (id aAI:Int):Option Tk:=
 if qj y id<0 then none else match y.aAG[(qj y id).toNat]? with
 |some r=>if 0<=aAI then r.aAB[aAI.toNat]? else none
 |none=>none
def vb (y:Yd) (e:En):Bool:=match jdV y e.run e.aAI with
 |some t=>t.aAD==2
 |none=>false
theorem jcQ (y:Yd) (id aAI:Int):(qj y id=-1/\jdV y id aAI=none)\/
 (∃(k:Nat) (r:Rn),qj y id=k/\y.aAG[k]?=some r/\((¬(0<=aAI/\aAI<=(r.aAB.length:Int)-1)/\jdV y id aAI=none)\/
  (∃(j:Nat) (t:Tk),aAI=j/\r.aAB[j]?=some t/\jdV y id aAI=some t))):=by
 have V:qj y id=-1\/∃(k:Nat) (r:Rn),qj y id=k/\y.aAG[k]?=some r:=by
  unfold qj;split
  ·exact .inl rfl
  ·rcases jhG y.aAG id with ⟨k,x,hx,_,_,he⟩|⟨_,he⟩
   ·exact .inr ⟨k,x,he,hx⟩
   ·exact .inl he
 rcases V with h|⟨k,r,h,hr⟩
 ·exact .inl ⟨h,by unfold jdV;rw [if_pos (by omega)]⟩
 ·right
  refine ⟨k,r,h,hr,?_⟩
  have e:jdV y id aAI=if 0<=aAI then r.aAB[aAI.toNat]? else none:=by
   unfold jdV;rw [if_neg (by omega),h,aCI,hr]
  by_cases h0:0<=aAI
  ·rw [if_pos h0] at e
   by_cases hl:aAI.toNat<r.aAB.length
   ·right
    exact ⟨aAI.toNat,r.aAB[aAI.toNat],by omega,aAT hl,by rw [e,aAT hl]⟩
   ·left
    exact ⟨by omega,by rw [e,aBD (by omega)]⟩
  ·left
   rw [if_neg h0] at e;exact ⟨by omega,e⟩
def ve (r:Rn):Nat:=if r.aAD=1 then r.aAB.length else 0
def ky (y:Yd) (l:List En):Nat:=l.countP (λe=>!vb y e)
def zV (y:Yd):List En:=y.aAE.flatten
def qW (y:Yd):Int:=jP ve y.aAG+ky y (zV y)
theorem jgh (l:List Rn):jP ve l<=jP qh l:=by
 induction l with
 |nil=>simp [jP]
 |cons r l ih=>
  have h:ve r<=qh r:=by unfold ve qh;split<;>omega
  simp only [jP,aCE,List.sum_cons] at*;omega
theorem kU (l:List (List En)):l.flatten.length=jP kJ l:=by
 induction l with
 |nil=>simp [jP]
 |cons r l ih=>simp only [aDB,aBE,jP,aCE,List.sum_cons,kJ] at*;omega
theorem jir (y:Yd) (l:List En):ky y l<=l.length:=List.countP_le_length
theorem je9 {y:Yd} {l:List En} {k:Nat} {e:En} (h:l[k]?=some e):ky y (l.take (k+1))=ky y (l.take k)+(if vb y e then 0 else 1):=by
 unfold ky;rw [aAX,h,List.countP_append];cases hf:vb y e<;>simp [hf]
theorem je8 (y:Yd) (l:List En) (k:Nat):ky y (l.take k)<=ky y l:=by
 unfold ky;exact (List.take_sublist k l).countP_le
theorem vB {l:List (List En)} {k:Nat} {es:List En} (h:l[k]?=some es):(l.take (k+1)).flatten=(l.take k).flatten++es:=by
 rw [aAX,h,List.flatten_append];simp
open Go.RowKit
theorem iEd:(Tryz.prog.info? tEd).map (λi=>(i.zero,i.size,i.bytes))=some (some (.agg #[.int .i64 0,.int .i64 0]),2,16):=by kernel_rfl
theorem slEd:SlT Tryz.prog tEdS tEd 2 16 [.int .i64 0,.int .i64 0]:=⟨by kernel_rfl,jen iEd,rfl,by decide⟩
theorem szEd:(Tryz.prog.info? tEd).map (·.size)=some 2:=by kernel_rfl
theorem iEn:(Tryz.prog.info? tEn).map (λi=>(i.zero,i.size,i.bytes))=some (some (.agg #[.int .i64 0,.int .i64 0,.int .i64 0,.int .i64 0]),4,32):=by kernel_rfl
theorem slEn:SlT Tryz.prog jmW tEn 4 32 [.int .i64 0,.int .i64 0,.int .i64 0,.int .i64 0]:=⟨by kernel_rfl,jen iEn,rfl,by decide⟩
theorem szEn:(Tryz.prog.info? tEn).map (·.size)=some 4:=by kernel_rfl
theorem iTk:(Tryz.prog.info? tTk).map (λi=>(i.zero,i.size,i.bytes))=some (some (.agg #[.int .i64 0,.int .i64 0,.int .i64 0,.int .i64 0]),4,32):=by kernel_rfl
theorem slTk:SlT Tryz.prog tTkS tTk 4 32 [.int .i64 0,.int .i64 0,.int .i64 0,.int .i64 0]:=⟨by kernel_rfl,jen iTk,rfl,by decide⟩
theorem szTk:(Tryz.prog.info? tTk).map (·.size)=some 4:=by kernel_rfl
theorem iEnS:(Tryz.prog.info? jmW).map (λi=>(i.zero,i.size,i.bytes))=some (some (.slice none 0 0),1,24):=by kernel_rfl
theorem slEnS:SlT Tryz.prog tSh jmW 1 24 [.slice none 0 0]:=⟨by kernel_rfl,jen iEnS,rfl,by decide⟩
theorem iRn:(Tryz.prog.info? tRn).map (λi=>(i.zero,i.size,i.bytes))=some (some (.agg #[.int .i64 0,.int .i64 0,.int .i64 0,.int .i64 0,.int .i64 0,.slice none 0 0,.int .i64 0,.slice none 0 0]),8,96):=by kernel_rfl
theorem slRn:SlT Tryz.prog tRnS tRn 8 96 [.int .i64 0,.int .i64 0,.int .i64 0,.int .i64 0,.int .i64 0,.slice none 0 0,.int .i64 0,.slice none 0 0]:=⟨by kernel_rfl,jen iRn,rfl,by decide⟩
theorem szRn:(Tryz.prog.info? tRn).map (·.size)=some 8:=by kernel_rfl
theorem jmb:∀(y:Ed),∀d∈jy y,d.one:=by intro y d hd;simp [jy] at hd;rcases hd with rfl|rfl<;>trivial
theorem jhc:∀(y:En),∀d∈jk y,d.one:=by intro y d hd;simp [jk] at hd;rcases hd with rfl|rfl|rfl|rfl<;>trivial
theorem jl8:∀(y:Tk),∀d∈ji y,d.one:=by intro y d hd;simp [ji] at hd;rcases hd with rfl|rfl|rfl|rfl<;>trivial
theorem jl9:∀(y:Rn),∀d∈jc y,d.one:=by intro y d hd;simp [jc,ja,jL,ke] at hd;rcases hd with rfl|rfl|rfl|rfl|rfl|rfl|rfl|rfl<;>trivial
theorem zRn (w:World):RepL w true (jc ⟨0,⟨0,0,0,0,[]⟩,0,[]⟩) [.int .i64 0,.int .i64 0,.int .i64 0,.int .i64 0,.int .i64 0,.slice none 0 0,.int .i64 0,.slice none 0 0] []:=jeM (r:=⟨0,⟨0,0,0,0,[]⟩,0,[]⟩) (Rep.nil_ w 2 tEd) (Rep.nil_ w 4 tTk)
theorem zEn (w:World):RepL w true (jk ⟨0,0,0,0⟩) [.int .i64 0,.int .i64 0,.int .i64 0,.int .i64 0] []:=jf2 w true ⟨0,0,0,0⟩
theorem zTk (w:World):RepL w true (ji ⟨0,0,0,0⟩) [.int .i64 0,.int .i64 0,.int .i64 0,.int .i64 0] []:=ji4 w true ⟨0,0,0,0⟩
theorem zEd (w:World):RepL w true (jy ⟨0,0⟩) [.int .i64 0,.int .i64 0] []:=jod w true ⟨0,0⟩
theorem zEnS (w:World):RepL w true [jo []] [.slice none 0 0] []:=RepL.cons_ (Rep.nil_ w 4 tEn) RepL.nil_
open Go.RowKit Go.Sort Go.BigFrame
theorem jkF (l:List Ed) (a:Value) (S:List Nat) (w:World) (own:Bool) (left:Int) (ha:Rep w own (jL l) a S) (h0:0<=left) (V:left<=1048576):
 Calls Tryz.prog 123 #[a,.int .i64 left] w λe w'=>e=.returned (.int .i64 (szf l.length left))/\Below w.heap.size w w':=by
 obtain ⟨A,c,rfl,bK,bI,aV⟩:=Rep.open_ (size:=2) (enc:=jy) (λ_=>rfl) (by decide) ha
 clear ha aV;unfold maxLen at bI;have dO:l.length<=9223372036854775807:=by omega
 have hs:=jO l.length left
 go_enter Tryz.func123,Tryz.ntmps123
 go_wp2
 all_goals go_ret
 all_goals exact ⟨km (by omega),Below.refl _ _⟩
theorem jm0 (x:Pl) (a:Value) (S:List Nat) (w:World) (own:Bool) (left:Int) (ha:AggRep w own (ja x) a S) (h0:0<=left) (V:left<=1048576):
 Calls Tryz.prog 100 #[a,.int .i64 left] w λe w'=>e=.returned (.int .i64 (szf (jcf x) left))/\Below w.heap.size w w':=by
 obtain ⟨_,rfl,ha⟩:=ha;obtain ⟨av0,rfl,ah0⟩:=zZ ha;clear ha;have rS:=jO (x.aAC.length) (left);have hs:=jO (jcf x) left;have ht:jcf x=x.aAC.length:=rfl;rw [ht] at hs;have HT:=Lib.hid ht;clear ht
 go_enter Tryz.func100,Tryz.ntmps100
 go_wp2_with (first
  |(go_at_call 123;refine (jkF x.aAC _ _ _ _ _ (ah0.below (by repeat (first|(with_reducible exact Below.refl _ _)|(with_reducible assumption)|((with_reducible refine Below.alloc ?_ ?_ _);rotate_left;focus (simp;try omega))|((with_reducible refine Below.setCell ?_ ?_ _);rotate_left;focus (simp;try omega))|(with_reducible refine jB ?_ (by assumption)))) (aAV _)) (by omega) (by omega)).mono ?_;rintro e w1 ⟨rfl,aH⟩;obtain ⟨bK,d5⟩:=qr aH))
 all_goals go_ret
 all_goals exact ⟨km (HT.out▸(by omega)),by repeat (first|(with_reducible exact Below.refl _ _)|(with_reducible assumption)|((with_reducible refine Below.alloc ?_ ?_ _);rotate_left;focus (simp;try omega))|((with_reducible refine Below.setCell ?_ ?_ _);rotate_left;focus (simp;try omega))|(with_reducible refine jB ?_ (by assumption)))⟩
theorem ji6 (l:List En) (a:Value) (S:List Nat) (w:World) (own:Bool) (left:Int) (ha:Rep w own (jo l) a S) (h0:0<=left) (V:left<=1048576):
 Calls Tryz.prog 63 #[a,.int .i64 left] w λe w'=>e=.returned (.int .i64 (szf l.length left))/\Below w.heap.size w w':=by
 obtain ⟨A,c,rfl,bK,bI,aV⟩:=Rep.open_ (size:=4) (enc:=jk) (λ_=>rfl) (by decide) ha
 clear ha aV;unfold maxLen at bI;have dO:l.length<=9223372036854775807:=by omega
 have hs:=jO l.length left
 go_enter Tryz.func63,Tryz.ntmps63
 go_wp2
 all_goals go_ret
 all_goals exact ⟨km (by omega),Below.refl _ _⟩
theorem jhB (l:List (List En)) (a:Value) (S:List Nat) (w:World) (own:Bool) (left:Int) (ha:Rep w own (jX l) a S) (h0:0<=left) (V:left<=1048576):
 Calls Tryz.prog 34 #[a,.int .i64 left] w λe w'=>e=.returned (.int .i64 (szf (vl l) left))/\Below w.heap.size w w':=by
 obtain ⟨A,c,rfl,bK,bI,aV⟩:=Rep.open_ (size:=1) (enc:=(λes=>[jo es])) (λ_=>rfl) (by decide) ha
 clear ha;unfold maxLen at bI;have dO:l.length<=9223372036854775807:=by omega
 have hs:=jO (vl l) left;have ht:vl l=l.length+jP kJ l:=rfl;rw [ht] at hs;have HT:=Lib.hid ht;clear ht;by_cases oO:left-(l.length:Int)<0
 ·clear aV
  go_enter Tryz.func34,Tryz.ntmps34
  go_wp2
  go_ret
  exact ⟨km (by rw [HT.out];omega),Below.refl _ _⟩
 ·go_enter Tryz.func34,Tryz.ntmps34
  go_wp2
  go_loopw [1,5] (λq i wr=>∃(k:Nat) (v:Int),k<=l.length/\i=.int .i64 k/\q=.int .i64 v/\0<=v/\v=left-l.length-jP kJ (l.take k)/\Below w.heap.size w wr) (λ_ i _=>l.length-(intOf i).toNat)
  case atStart=>exact ⟨0,left-l.length,by omega,rfl,rfl,by omega,by simp [jP],Below.refl _ _⟩
  case round=>
   obtain ⟨k,v,hk,rfl,rfl,lU,hv,aB⟩:=hrel;by_cases aC:k<l.length
   ·obtain ⟨x,hx⟩:=jd aC
    obtain ⟨b1,o1,vk1,T1,rfl,-,aX,-,-,aH,aK⟩:=aV k x hx;clear aV;obtain ⟨au,_,aS0,aS1,rfl,rfl,ah0,rfl,rfl⟩:=aX;have cG:=kj (tot:=kJ) hx;have cT:=kS kJ l (k+1);have wT:=jO (kJ x) v;have d7:v<=1048576:=by omega
    have HV:=Lib.hid hv;have HK:=Lib.hid cG;clear hx hv cG;have p0:=(aB.cell (p:=⟨b1,o1+k,none⟩) aH).trans (by simpa using aK 0 _ rfl:w.cell? ⟨b1,o1+k,none⟩=_)
    clear aK
    go_wp2_with (go_at_call 63;refine (ji6 x _ _ _ _ _ (ah0.below aB (aAV _)) (by omega) (by omega)).mono ?_;rintro e w2 ⟨rfl,bA⟩)
    ·go_ret
     have hv:=HV.out;have cG:=HK.out;exact ⟨km (by rw [HT.out];(try simp only [kJ] at*);omega),jB aB bA⟩
    ·go_roundw
     case rel=>
      have hv:=HV.out;have cG:=HK.out;refine ⟨k+1,_,by omega,by go_num,rfl,by omega,?_,jB aB bA⟩
      try simp only [kJ] at*
      omega
     case measure=>simp [intOf];omega
   ·obtain rfl:k=l.length:=by omega
    clear aV;rw [aBL] at hv;have HV:=Lib.hid hv;clear hv
    go_wp2
    go_ret
    have hv:=HV.out;exact ⟨km (by rw [HT.out];omega),aB⟩
theorem jkE (l:List Tk) (a:Value) (S:List Nat) (w:World) (own:Bool) (left:Int) (ha:Rep w own (ke l) a S) (h0:0<=left) (V:left<=1048576):
 Calls Tryz.prog 101 #[a,.int .i64 left] w λe w'=>e=.returned (.int .i64 (szf l.length left))/\Below w.heap.size w w':=by
 obtain ⟨A,c,rfl,bK,bI,aV⟩:=Rep.open_ (size:=4) (enc:=ji) (λ_=>rfl) (by decide) ha
 clear ha aV;unfold maxLen at bI;have dO:l.length<=9223372036854775807:=by omega
 have hs:=jO l.length left
 go_enter Tryz.func101,Tryz.ntmps101
 go_wp2
 all_goals go_ret
 all_goals exact ⟨km (by omega),Below.refl _ _⟩
theorem jo1 (x:Rn) (a:Value) (S:List Nat) (w:World) (own:Bool) (left:Int) (ha:AggRep w own (jc x) a S) (h0:0<=left) (V:left<=1048576):
 Calls Tryz.prog 64 #[a,.int .i64 left] w λe w'=>e=.returned (.int .i64 (szf (qh x) left))/\Below w.heap.size w w':=by
 obtain ⟨_,rfl,ha⟩:=ha;obtain ⟨av0,av1,aS0,aS1,rfl,ah0,ah1,rfl⟩:=jI ha;clear ha;have rS:=jO (jcf x.aAF) (left);have dA:=jO (x.aAB.length) (szf (jcf x.aAF) (left));have hs:=jO (qh x) left;have ht:qh x=jcf x.aAF+x.aAB.length:=rfl;rw [ht] at hs;have HT:=Lib.hid ht;clear ht
 go_enter Tryz.func64,Tryz.ntmps64
 go_wp2_with (first
  |(go_at_call 100;refine (jm0 x.aAF _ _ _ _ _ ⟨_,rfl,jjo (ah0.below (by repeat (first|(with_reducible exact Below.refl _ _)|(with_reducible assumption)|((with_reducible refine Below.alloc ?_ ?_ _);rotate_left;focus (simp;try omega))|((with_reducible refine Below.setCell ?_ ?_ _);rotate_left;focus (simp;try omega))|(with_reducible refine jB ?_ (by assumption)))) (aAV _))⟩ (by omega) (by omega)).mono ?_;rintro e w1 ⟨rfl,aH⟩;obtain ⟨bK,d5⟩:=qr aH)
  |(go_at_call 101;refine (jkE x.aAB _ _ _ _ _ (ah1.below (by repeat (first|(with_reducible exact Below.refl _ _)|(with_reducible assumption)|((with_reducible refine Below.alloc ?_ ?_ _);rotate_left;focus (simp;try omega))|((with_reducible refine Below.setCell ?_ ?_ _);rotate_left;focus (simp;try omega))|(with_reducible refine jB ?_ (by assumption)))) (aAV _)) (by omega) (by omega)).mono ?_;rintro e w2 ⟨rfl,bA⟩;obtain ⟨bI,nG⟩:=qr bA))
 all_goals go_ret
 all_goals exact ⟨km (HT.out▸(by omega)),by repeat (first|(with_reducible exact Below.refl _ _)|(with_reducible assumption)|((with_reducible refine Below.alloc ?_ ?_ _);rotate_left;focus (simp;try omega))|((with_reducible refine Below.setCell ?_ ?_ _);rotate_left;focus (simp;try omega))|(with_reducible refine jB ?_ (by assumption)))⟩
theorem jmZ (l:List (Rn)) (a:Value) (S:List Nat) (w:World) (own:Bool) (left:Int) (ha:Rep w own (jC l) a S) (h0:0<=left) (V:left<=1048576):
 Calls Tryz.prog 35 #[a,.int .i64 left] w λe w'=>e=.returned (.int .i64 (szf (qE l) left))/\Below w.heap.size w w':=by
 obtain ⟨A,c,rfl,bK,bI,aV⟩:=Rep.open_ (size:=8) (enc:=jc) (λ_=>rfl) (by decide) ha
 clear ha;unfold maxLen at bI;have dO:l.length<=9223372036854775807:=by omega
 have hs:=jO (qE l) left;have ht:qE l=l.length+jP qh l:=rfl;rw [ht] at hs;have HT:=Lib.hid ht;clear ht;by_cases oO:left-(l.length:Int)<0
 ·clear aV
  go_enter Tryz.func35,Tryz.ntmps35
  go_wp2
  go_ret
  exact ⟨km (by rw [HT.out];omega),Below.refl _ _⟩
 ·go_enter Tryz.func35,Tryz.ntmps35
  go_wp2
  go_loopw [1,5] (λq i wr=>∃(k:Nat) (v:Int),k<=l.length/\i=.int .i64 k/\q=.int .i64 v/\0<=v/\v=left-l.length-jP qh (l.take k)/\Below w.heap.size w wr) (λ_ i _=>l.length-(intOf i).toNat)
  case atStart=>exact ⟨0,left-l.length,by omega,rfl,rfl,by omega,by simp [jP],Below.refl _ _⟩
  case round=>
   obtain ⟨k,v,hk,rfl,rfl,lU,hv,aB⟩:=hrel;by_cases aC:k<l.length
   ·obtain ⟨x,hx⟩:=jd aC
    obtain ⟨b1,o1,vk1,T1,rfl,-,aX,-,-,aH,aK⟩:=aV k x hx;clear aV;obtain ⟨av0,av1,aS0,aS1,rfl,ah0,ah1,rfl⟩:=jI aX;have cG:=kj (tot:=qh) hx;have cT:=kS qh l (k+1);have wT:=jO (qh x) v;have d7:v<=1048576:=by omega
    have HV:=Lib.hid hv;have HK:=Lib.hid cG;clear hx hv cG;have p0:=(aB.cell (p:=⟨b1,o1+k*8,none⟩) aH).trans (aK 0 _ rfl:w.cell? ⟨b1,o1+k*8,none⟩=_);have p1:=(aB.cell (p:=⟨b1,o1+k*8+1,none⟩) aH).trans (aK 1 _ rfl:w.cell? ⟨b1,o1+k*8+1,none⟩=_);have p2:=(aB.cell (p:=⟨b1,o1+k*8+2,none⟩) aH).trans (aK 2 _ rfl:w.cell? ⟨b1,o1+k*8+2,none⟩=_);have p3:=(aB.cell (p:=⟨b1,o1+k*8+3,none⟩) aH).trans (aK 3 _ rfl:w.cell? ⟨b1,o1+k*8+3,none⟩=_);have p4:=(aB.cell (p:=⟨b1,o1+k*8+4,none⟩) aH).trans (aK 4 _ rfl:w.cell? ⟨b1,o1+k*8+4,none⟩=_);have p5:=(aB.cell (p:=⟨b1,o1+k*8+5,none⟩) aH).trans (aK 5 _ rfl:w.cell? ⟨b1,o1+k*8+5,none⟩=_);have p6:=(aB.cell (p:=⟨b1,o1+k*8+6,none⟩) aH).trans (aK 6 _ rfl:w.cell? ⟨b1,o1+k*8+6,none⟩=_);have p7:=(aB.cell (p:=⟨b1,o1+k*8+7,none⟩) aH).trans (aK 7 _ rfl:w.cell? ⟨b1,o1+k*8+7,none⟩=_);clear aK
    go_wp2_with (go_at_call 64;refine (jo1 x _ _ _ _ _ ⟨_,rfl,aX.below aB (aAV _)⟩ (by omega) (by omega)).mono ?_;rintro e w2 ⟨rfl,bA⟩)
    ·go_ret
     have hv:=HV.out;have cG:=HK.out;exact ⟨km (by rw [HT.out];(try simp only [kJ] at*);omega),jB aB bA⟩
    ·go_roundw
     case rel=>
      have hv:=HV.out;have cG:=HK.out;refine ⟨k+1,_,by omega,by go_num,rfl,by omega,?_,jB aB bA⟩
      try simp only [kJ] at*
      omega
     case measure=>simp [intOf];omega
   ·obtain rfl:k=l.length:=by omega
    clear aV;rw [aBL] at hv;have HV:=Lib.hid hv;clear hv
    go_wp2
    go_ret
    have hv:=HV.out;exact ⟨km (by rw [HT.out];omega),aB⟩
theorem jmY (x:Yd) (a:Value) (S:List Nat) (w:World) (own:Bool) (left:Int) (ha:AggRep w own (jb x) a S) (h0:0<=left) (V:left<=1048576):
 Calls Tryz.prog 14 #[a,.int .i64 left] w λe w'=>e=.returned (.int .i64 (szf (jG x) left))/\Below w.heap.size w w':=by
 obtain ⟨_,rfl,ha⟩:=ha;obtain ⟨av0,av1,aS0,aS1,rfl,ah0,ah1,rfl⟩:=kE ha;clear ha;have rS:=jO (vl x.aAE) (left);have dA:=jO (qE x.aAG) (szf (vl x.aAE) (left));have hs:=jO (jG x) left;have ht:jG x=vl x.aAE+qE x.aAG:=rfl;rw [ht] at hs;have HT:=Lib.hid ht;clear ht
 go_enter Tryz.func14,Tryz.ntmps14
 go_wp2_with (first
  |(go_at_call 34;refine (jhB x.aAE _ _ _ _ _ (ah0.below (by repeat (first|(with_reducible exact Below.refl _ _)|(with_reducible assumption)|((with_reducible refine Below.alloc ?_ ?_ _);rotate_left;focus (simp;try omega))|((with_reducible refine Below.setCell ?_ ?_ _);rotate_left;focus (simp;try omega))|(with_reducible refine jB ?_ (by assumption)))) (aAV _)) (by omega) (by omega)).mono ?_;rintro e w1 ⟨rfl,aH⟩;obtain ⟨bK,d5⟩:=qr aH)
  |(go_at_call 35;refine (jmZ x.aAG _ _ _ _ _ (ah1.below (by repeat (first|(with_reducible exact Below.refl _ _)|(with_reducible assumption)|((with_reducible refine Below.alloc ?_ ?_ _);rotate_left;focus (simp;try omega))|((with_reducible refine Below.setCell ?_ ?_ _);rotate_left;focus (simp;try omega))|(with_reducible refine jB ?_ (by assumption)))) (aAV _)) (by omega) (by omega)).mono ?_;rintro e w2 ⟨rfl,bA⟩;obtain ⟨bI,nG⟩:=qr bA))
 all_goals go_ret
 all_goals exact ⟨km (HT.out▸(by omega)),by repeat (first|(with_reducible exact Below.refl _ _)|(with_reducible assumption)|((with_reducible refine Below.alloc ?_ ?_ _);rotate_left;focus (simp;try omega))|((with_reducible refine Below.setCell ?_ ?_ _);rotate_left;focus (simp;try omega))|(with_reducible refine jB ?_ (by assumption)))⟩
open Go.RowKit Go.Sort Go.BigFrame
theorem jdI (y:Yd) (id:Int) (a:Value) (S:List Nat) (w:World) (own:Bool) (ha:AggRep w own (jb y) a S):
 Calls Tryz.prog 69 #[a,.int .i64 id] w λe w'=>e=.returned (.int .i64 (qj y id))/\Below w.heap.size w w':=by
 obtain ⟨_,rfl,ha⟩:=ha;obtain ⟨sv,rv,S1,S2,rfl,ah0,ah1,rfl⟩:=kE ha;clear ha ah0;obtain ⟨A,c,rfl,bK,bI,aV⟩:=Rep.open_ (size:=8) (enc:=jc) (λ_=>rfl) (by decide) ah1
 unfold maxLen at bI;have dO:y.aAG.length<=9223372036854775807:=by omega
 by_cases h8:8<y.aAG.length
 ·clear aV
  have hr:qj y id=-1:=by simp [qj,h8]
  rw [hr];clear hr
  go_enter Tryz.func69,Tryz.ntmps69
  go_wp2
  go_loop [5] (λi=>i=.int .i64 0) (λ_=>0)
  case atStart=>rfl
  case round=>
   subst hrel
   go_wp2
   all_goals go_ret
   all_goals exact ⟨rfl,(Below.refl _ _).alloc (by simp) _⟩
 ·have hr:qj y id=jeL y.aAG id:=by simp [qj,h8]
  rw [hr];clear hr
  go_enter Tryz.func69,Tryz.ntmps69
  go_wp2
  go_loop [5] (λi=>∃k:Nat,k<=y.aAG.length/\i=.int .i64 k/\∀j,j<k->∀z,y.aAG[j]?=some z->z.id≠id) (λi=>y.aAG.length-(intOf i).toNat)
  case atStart=>exact ⟨0,by omega,rfl,by simp⟩
  case round=>
   obtain ⟨k,hk,rfl,bQ⟩:=hrel;have HN:=Lib.hid bQ;clear bQ;by_cases aC:k<y.aAG.length
   ·obtain ⟨x,hx⟩:=jd aC
    obtain ⟨b1,o1,vk1,T1,rfl,-,aX,-,-,aH,aK⟩:=aV k x hx;clear aV;obtain ⟨v0,v1,U0,U1,rfl,-,-,-⟩:=jI aX;have HX:=Lib.hid hx;clear hx;have p0:w.cell? ⟨b1,o1+k*8,none⟩=some (.int .i64 x.id):=aK 0 _ rfl;clear aK aX;by_cases he:x.id=id
    ·have Z:(x.id==id)=true:=by simpa using he
     have HE:=Lib.hid he;clear he
     go_wp2
     go_ret
     exact ⟨km (jaO HX.out HE.out HN.out).symm,(Below.refl _ _).alloc (by simp) _⟩
    ·have Z:(x.id==id)=false:=by simpa using he
     have HE:=Lib.hid he;clear he
     go_wp2
     go_round
     case rel=>
      refine ⟨k+1,by omega,by go_num,λj hj z hz=>?_⟩
      by_cases gT:j=k
      ·subst gT
       have:=HX.out;rw [hz] at this;cases this;exact HE.out
      ·exact HN.out j (by omega) z hz
     case measure=>simp [intOf];omega
   ·obtain rfl:k=y.aAG.length:=by omega
    clear aV
    go_wp2
    go_ret
    exact ⟨km (jch HN.out).symm,(Below.refl _ _).alloc (by simp) _⟩
theorem jg1 (x:Rn) (id:Int) (a:Value) (S:List Nat) (g:Nat) (w:World) (own:Bool) (ha:AggRep w own (jc x) a S) (hg:w.cell? ⟨g,0,none⟩=some (.int .i64 id)):
 Calls Tryz.prog 118 #[a,.pointer (some ⟨g,0,none⟩)] w λe w'=>e=.returned (.bool (x.id==id))/\Below w.heap.size w w':=by
 obtain ⟨_,rfl,ha⟩:=ha;obtain ⟨v0,v1,U0,U1,rfl,-,-,-⟩:=jI ha;clear ha;have aC:=World.block_lt_of_cell? w _ hg
 go_enter Tryz.func118,Tryz.ntmps118
 go_wp2
 go_ret
 exact ⟨rfl,(Below.refl _ _).alloc (by simp) _⟩
theorem jh5 (rs:List Rn) (id:Int) (a:Value) (S:List Nat) (g:Nat) (w:World) (own:Bool) (ha:Rep w own (jC rs) a S) (hg:w.cell? ⟨g,0,none⟩=some (.int .i64 id)):
 Calls Tryz.prog 117 #[a,.func (.func 118) #[] #[.pointer (some ⟨g,0,none⟩)]] w λe w'=>e=.returned (.int .i64 (jeL rs id))/\Below w.heap.size w w':=by
 obtain ⟨A,c,rfl,bK,bI,aV⟩:=Rep.open_ (size:=8) (enc:=jc) (λ_=>rfl) (by decide) ha
 unfold maxLen at bI;have dO:rs.length<=9223372036854775807:=by omega
 have mJ:=World.block_lt_of_cell? w _ hg;clear ha
 go_enter Tryz.func117,Tryz.ntmps117
 go_wp2
 go_loopw [5,8] (λ_ i wr=>∃k:Nat,k<=rs.length/\i=.int .i64 k/\(∀j,j<k->∀z,rs[j]?=some z->z.id≠id)/\Below w.heap.size w wr) (λ_ i _=>rs.length-(intOf i).toNat)
 case atStart=>exact ⟨0,by omega,rfl,by simp,Below.refl _ _⟩
 case round=>
  obtain ⟨k,hk,rfl,bQ,aB⟩:=hrel;have HN:=Lib.hid bQ;clear bQ;have uQ:wr.cell? ⟨g,0,none⟩=some (.int .i64 id):=(aB.cell (p:=⟨g,0,none⟩) mJ).trans hg;by_cases aC:k<rs.length
  ·obtain ⟨x,hx⟩:=jd aC
   obtain ⟨b1,o1,vk1,T1,rfl,-,aX,-,-,aH,aK⟩:=aV k x hx;clear aV;obtain ⟨v0,v1,U0,U1,rfl,-,-,-⟩:=jI aX;have HX:=Lib.hid hx;clear hx;have p0:=(aB.cell (p:=⟨b1,o1+k*8,none⟩) aH).trans (aK 0 _ rfl:w.cell? ⟨b1,o1+k*8,none⟩=_);have p1:=(aB.cell (p:=⟨b1,o1+k*8+1,none⟩) aH).trans (aK 1 _ rfl);have p2:=(aB.cell (p:=⟨b1,o1+k*8+2,none⟩) aH).trans (aK 2 _ rfl);have p3:=(aB.cell (p:=⟨b1,o1+k*8+3,none⟩) aH).trans (aK 3 _ rfl);have p4:=(aB.cell (p:=⟨b1,o1+k*8+4,none⟩) aH).trans (aK 4 _ rfl);have p5:=(aB.cell (p:=⟨b1,o1+k*8+5,none⟩) aH).trans (aK 5 _ rfl);have p6:=(aB.cell (p:=⟨b1,o1+k*8+6,none⟩) aH).trans (aK 6 _ rfl);have p7:=(aB.cell (p:=⟨b1,o1+k*8+7,none⟩) aH).trans (aK 7 _ rfl);clear aK;by_cases he:x.id=id
   ·have Z:(x.id==id)=true:=by simpa using he
    have HE:=Lib.hid he;clear he
    go_wp2_with (go_at_call 118;refine (jg1 x id _ _ _ _ own ⟨_,rfl,aX.below aB (aAV _)⟩ uQ).mono ?_;rintro e w2 ⟨rfl,bA⟩)
    go_ret
    exact ⟨km (jaO HX.out HE.out HN.out).symm,jB aB bA⟩
   ·have Z:(x.id==id)=false:=by simpa using he
    have HE:=Lib.hid he;clear he
    go_wp2_with (go_at_call 118;refine (jg1 x id _ _ _ _ own ⟨_,rfl,aX.below aB (aAV _)⟩ uQ).mono ?_;rintro e w2 ⟨rfl,bA⟩)
    go_roundw
    case rel=>
     refine ⟨k+1,by omega,by go_num,λj hj z hz=>?_,jB aB bA⟩
     by_cases gT:j=k
     ·subst gT
      have:=HX.out;rw [hz] at this;cases this;exact HE.out
     ·exact HN.out j (by omega) z hz
    case measure=>simp [intOf];omega
  ·obtain rfl:k=rs.length:=by omega
   clear aV
   go_wp2
   go_ret
   exact ⟨km (jch HN.out).symm,aB⟩
theorem jdL (y:Yd) (id:Int) (a:Value) (S:List Nat) (w:World) (own:Bool) (ha:AggRep w own (jb y) a S):
 Calls Tryz.prog 84 #[a,.int .i64 id] w λe w'=>e=.returned (.int .i64 (qj y id))/\Below w.heap.size w w':=by
 obtain ⟨_,rfl,ha⟩:=ha;obtain ⟨sv,rv,S1,S2,rfl,ah0,ah1,rfl⟩:=kE ha;clear ha ah0;obtain ⟨A,c,rfl,bK,bI,aV⟩:=Rep.open_ (size:=8) (enc:=jc) (λ_=>rfl) (by decide) ah1
 unfold maxLen at bI;have dO:y.aAG.length<=9223372036854775807:=by omega
 clear aV;by_cases h8:8<y.aAG.length
 ·have hr:qj y id=-1:=by simp [qj,h8]
  rw [hr];clear hr
  go_enter Tryz.func84,Tryz.ntmps84
  go_wp2
  go_ret
  exact ⟨rfl,((Below.refl _ _).alloc (by simp) _).alloc (by simp) _⟩
 ·have hr:qj y id=jeL y.aAG id:=by simp [qj,h8]
  rw [hr];clear hr
  go_enter Tryz.func84,Tryz.ntmps84
  go_wp2_with (go_at_call 117;refine (jh5 y.aAG id _ _ _ _ own (ah1.below (((Below.refl _ _).alloc (by simp) _).alloc (by simp) _) (aAV _)) (by simp [go_sem])).mono ?_;rintro e w2 ⟨rfl,bA⟩)
  go_ret
  exact ⟨rfl,jB (((Below.refl _ _).alloc (by simp) _).alloc (by simp) _) bA⟩
