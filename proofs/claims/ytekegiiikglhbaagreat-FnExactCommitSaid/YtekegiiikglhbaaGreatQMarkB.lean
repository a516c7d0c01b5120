/- Parts. -/
import Derived.Test.YtekegiiikglhbaaGreatQTo
set_option linter.all false
set_option maxHeartbeats 8000000
namespace Go.Proofs.YtekegiiikglhbaaGreat
open Go.RowKit Go.Sort Go.BigFrame
theorem ctm {w w1:World} {b o:Nat} {v:Value} (hB:Below w.heap.size w w1) (h:w.cell? ⟨b,o,none⟩=some v):w1.cell? ⟨b,o,none⟩=some v:=
 (hB.cell (p:=⟨b,o,none⟩) (World.block_lt_of_cell? w _ h)).trans h
def mkR {α:Type} (mk:Int->α) (n:Int) (m:Nat) (k:Int):List α:=(List.range m).map λ(i:Nat)=>mk (k+n*(i:Int))
theorem jS {α:Type} (mk:Int->α) (n:Int) (m:Nat) (k:Int):(mkR mk n m k).length=m:=by simp [mkR]
theorem jcp {α:Type} (mk:Int->α) (n:Int) (m:Nat) (k:Int) {i:Nat} (h:i<m):(mkR mk n m k)[i]?=some (mk (k+n*(i:Int))):=by simp [mkR,h]
def mh {α:Type} (m l:List α) (i:Nat):List α:=m.take i++l.drop i
theorem jeh {α:Type} (m l:List α):mh m l 0=l:=by simp [mh]
theorem jei {α:Type} {m l:List α} (h:m.length=l.length):mh m l l.length=m:=by rw [mh,<-h,aBL,h,List.drop_length,aBO]
theorem kP {α:Type} {m l:List α} (h:m.length=l.length) (i:Nat):(mh m l i).length=l.length:=by simp only [mh,aBE,aBA,List.length_drop];omega
theorem jgQ {α:Type} {m l:List α} (h:m.length=l.length) {i:Nat} {x:α} (hx:l[i]?=some x):(mh m l i)[i]?=some x:=by
 have hi:i<l.length:=(aAR.1 hx).1;have e:(m.take i).length=i:=by rw [aBA];omega
 rw [mh,aBT (by omega),e,Nat.sub_self,aBQ]
 simpa using hx
theorem jgP {α:Type} {m l:List α} (h:m.length=l.length) {i:Nat} {y:α} (hy:m[i]?=some y):(mh m l i).set i y=mh m l (i+1):=by
 have hi:i<m.length:=(aAR.1 hy).1;have e:(m.take i).length=i:=by rw [aBA];omega
 rw [mh,mh,List.set_append_right _ _ (by omega),e,Nat.sub_self,aAX,hy,aAZ,aCN (by omega:i<l.length)]
 rfl
theorem kw {α:Type} {l:List α} {k:Nat} {x y:α} (hx:l[k]?=some x):(l.set k y)[k]?=some y:=by
 have:=(aAR.1 hx).1;simp [this]
theorem jW {α:Type} {enc:α->List D} {w:World} {ty:TypeId} {xs:List α} {S:List Nat} {g n c k size:Nat} (hl:∀x,(enc x).length=size) (hs:0<size) (h:Rep w true (.sl size ty (xs.flatMap enc)) (.slice (some ⟨g,0,none⟩) n c) S) (hk:k<xs.length) (j:Nat) (hj:j<size):
 (∃u,w.cell? ⟨g,k*size+j,none⟩=some u)/\w.frozen? ⟨g,k*size+j,none⟩=false:=by
 obtain ⟨vs,S1,bB,cU,rfl⟩:=Rep.own hl hs h
 have hn:n=xs.length:=by
  rcases bB.2 with ⟨e,_⟩|⟨g',cap',cur,e,_⟩
  ·cases e
  ·simp only [Value.slice.injEq] at e;exact e.2.1
 subst hn;have Z:k*size+size<=xs.length*size:=by rw [<-Nat.succ_mul];exact aBY _ hk
 have:=jbg bB (k*size) size Z j hj;exact ⟨Option.isSome_iff_exists.1 (by simpa using this.1),by simpa using this.2⟩
def jge (k:Int):Ed:=⟨k,k+1⟩
theorem jhY (l:List Ed) (k:Int) (v:Value) (S:List Nat) (B:Nat) (w:World) (ha:Rep w true (jL l) v S) (hF:Fresh B S) (h0:0<=k) (V:k+2*(l.length:Int)<=4611686018427387904):
 Calls Tryz.prog 94 #[v,.int .i64 k] w λe w'=>e=.returned (.int .i64 (k+2*(l.length:Int)))/\Rep w' true (jL (mkR jge 2 l.length k)) v S/\Only S w w':=by
 obtain ⟨A,c,rfl,bK,bI,-⟩:=Rep.open_ (size:=2) (enc:=jy) (λ_=>rfl) (by decide) ha
 unfold maxLen at bI;have dO:l.length<=4611686018427387904:=by omega
 go_enter Tryz.func94,Tryz.ntmps94
 go_wp2
 go_loopw [1,5] (λq i wr=>∃j:Nat,j<=l.length/\i=.int .i64 j/\q=.int .i64 (k+2*(j:Int))/\Rep wr true (jL (mh (mkR jge 2 l.length k) l j)) (.slice A l.length c) S/\Only S w wr) (λ_ i _=>l.length-(intOf i).toNat)
 case atStart=>exact ⟨0,by omega,rfl,by simp,by rw [jeh];exact ha,Only.refl _ _⟩
 case round=>
  obtain ⟨i,hi,rfl,rfl,aD,d4⟩:=hrel;by_cases aC:i<l.length
  ·obtain ⟨x,hx⟩:=jd aC
   have dL:=jgQ (jS jge 2 l.length k) hx;have HM:=Lib.hid dL;have HX:=Lib.hid hx;obtain ⟨g,rfl,-,c8,hg,-⟩:=Rep.head (enc:=jy) (size:=2) (xs:=mh (mkR jge 2 l.length k) l i) (λ_=>rfl) (by decide) aD (by rw [kP (jS _ _ _ _)];omega)
   ·skip
    obtain ⟨⟨u0,nV⟩,fD⟩:=jW (enc:=jy) (size:=2) (λ_=>rfl) (by decide) aD (by rw [kP (jS _ _ _ _)];exact aC) 0 (by decide)
    obtain ⟨⟨u1,pZ⟩,gZ⟩:=jW (enc:=jy) (size:=2) (λ_=>rfl) (by decide) aD (by rw [kP (jS _ _ _ _)];exact aC) 1 (by decide)
    rw [aAQ] at nV fD;have HR:=Lib.hid aD;clear dL hx;have fY:0<=k+2*(i:Int):=by omega
    have eU:k+2*(i:Int)<=4611686018427387904:=by omega
    go_wp2
    go_roundw
    case rel=>
     have dL:=HM.out;obtain ⟨aX,dJ,-⟩:=Rep.setField (enc:=jy) (size:=2) (λ_=>rfl) (by decide) aD dL 0 (by decide) (.int .i64 (k+2*(i:Int))) (y:=(⟨k+2*(i:Int),x.dst⟩:Ed)) (λvk Sk h=>by obtain ⟨rfl,rfl⟩:=qN h;exact jod _ _ _) hF
     rw [aAQ] at aX dJ;have cZ:=kw (y:=(⟨k+2*(i:Int),x.dst⟩:Ed)) dL;obtain ⟨bV,eL,-⟩:=Rep.setField (enc:=jy) (size:=2) (λ_=>rfl) (by decide) aX cZ 1 (by decide) (.int .i64 (k+2*(i:Int)+1)) (y:=(⟨k+2*(i:Int),k+2*(i:Int)+1⟩:Ed)) (λvk Sk h=>by obtain ⟨rfl,rfl⟩:=qN h;exact jod _ _ _) hF
     have dC:=kw (y:=(⟨k+2*(i:Int),k+2*(i:Int)+1⟩:Ed)) cZ;simp only [aDE] at bV;refine ⟨i+1,by omega,by go_num,by go_num,?_,d4.trans ((dJ).trans eL (λt h=>.inl h)) (λt h=>.inl (by simp only [aBM] at h;subst h;exact c8))⟩
     rw [<-jgP (jS _ _ _ _) (jcp jge 2 l.length k aC)];exact bV
    case measure=>simp [intOf];omega
  ·obtain rfl:i=l.length:=by omega
   go_wp2
   go_ret
   exact ⟨rfl,by rw [<-jei (jS jge 2 l.length k)];exact aD,d4⟩
theorem jh7 (m:Nat) (k:Int) (v:Value) (S:List Nat) (w:World) (own:Bool) (ha:Rep w own (jL (mkR jge 2 m k)) v S) (h0:0<=k) (V:k+2*(m:Int)<=4611686018427387904):
 Calls Tryz.prog 98 #[v,.int .i64 k] w λe w'=>e=.returned (.int .i64 (k+2*(m:Int)))/\Below w.heap.size w w':=by
 obtain ⟨A,c,rfl,bK,bI,aV⟩:=Rep.open_ (size:=2) (enc:=jy) (λ_=>rfl) (by decide) ha
 rw [jS] at*;unfold maxLen at bI;have dO:m<=4611686018427387904:=by omega
 clear ha
 go_enter Tryz.func98,Tryz.ntmps98
 go_wp2
 go_loopw [1,5] (λq i wr=>∃j:Nat,j<=m/\i=.int .i64 j/\q=.int .i64 (k+2*(j:Int))/\Below w.heap.size w wr) (λ_ i _=>m-(intOf i).toNat)
 case atStart=>exact ⟨0,by omega,rfl,by simp,Below.refl _ _⟩
 case round=>
  obtain ⟨i,hi,rfl,rfl,aB⟩:=hrel;by_cases aC:i<m
  ·obtain ⟨b1,o1,vk1,T1,rfl,-,aX,-,-,aH,aK⟩:=aV i _ (jcp jge 2 m k aC)
   clear aV
   ·skip
    obtain ⟨rfl,rfl⟩:=qN aX;have p0:=ctm (b:=b1) (o:=o1+i*2) aB (aK 0 _ rfl);have p1:=ctm (b:=b1) (o:=o1+i*2+1) aB (aK 1 _ rfl);simp only [jge] at p0 p1;clear aK;have fY:0<=k+2*(i:Int):=by omega
    have eU:k+2*(i:Int)<=4611686018427387904:=by omega
    go_wp2
    go_roundw
    case rel=>exact ⟨i+1,by omega,by go_num,by go_num,aB⟩
    case measure=>simp [intOf];omega
  ·obtain rfl:i=m:=by omega
   clear aV
   go_wp2
   go_ret
   exact ⟨rfl,aB⟩
def jmH (k:Int):En:=⟨k,k+1,k+1+1,k+1+1+1⟩
theorem jgR (l:List En) (k:Int) (v:Value) (S:List Nat) (B:Nat) (w:World) (ha:Rep w true (jo l) v S) (hF:Fresh B S) (h0:0<=k) (V:k+4*(l.length:Int)<=4611686018427387904):
 Calls Tryz.prog 93 #[v,.int .i64 k] w λe w'=>e=.returned (.int .i64 (k+4*(l.length:Int)))/\Rep w' true (jo (mkR jmH 4 l.length k)) v S/\Only S w w':=by
 obtain ⟨A,c,rfl,bK,bI,-⟩:=Rep.open_ (size:=4) (enc:=jk) (λ_=>rfl) (by decide) ha
 unfold maxLen at bI;have dO:l.length<=4611686018427387904:=by omega
 go_enter Tryz.func93,Tryz.ntmps93
 go_wp2
 go_loopw [1,5] (λq i wr=>∃j:Nat,j<=l.length/\i=.int .i64 j/\q=.int .i64 (k+4*(j:Int))/\Rep wr true (jo (mh (mkR jmH 4 l.length k) l j)) (.slice A l.length c) S/\Only S w wr) (λ_ i _=>l.length-(intOf i).toNat)
 case atStart=>exact ⟨0,by omega,rfl,by simp,by rw [jeh];exact ha,Only.refl _ _⟩
 case round=>
  obtain ⟨i,hi,rfl,rfl,aD,d4⟩:=hrel;by_cases aC:i<l.length
  ·obtain ⟨x,hx⟩:=jd aC
   have dL:=jgQ (jS jmH 4 l.length k) hx;have HM:=Lib.hid dL;have HX:=Lib.hid hx;obtain ⟨g,rfl,-,c8,hg,-⟩:=Rep.head (enc:=jk) (size:=4) (xs:=mh (mkR jmH 4 l.length k) l i) (λ_=>rfl) (by decide) aD (by rw [kP (jS _ _ _ _)];omega)
   ·skip
    obtain ⟨⟨u0,nV⟩,fD⟩:=jW (enc:=jk) (size:=4) (λ_=>rfl) (by decide) aD (by rw [kP (jS _ _ _ _)];exact aC) 0 (by decide)
    obtain ⟨⟨u1,pZ⟩,gZ⟩:=jW (enc:=jk) (size:=4) (λ_=>rfl) (by decide) aD (by rw [kP (jS _ _ _ _)];exact aC) 1 (by decide)
    obtain ⟨⟨u2,lV⟩,nK⟩:=jW (enc:=jk) (size:=4) (λ_=>rfl) (by decide) aD (by rw [kP (jS _ _ _ _)];exact aC) 2 (by decide)
    obtain ⟨⟨u3,wS⟩,wH⟩:=jW (enc:=jk) (size:=4) (λ_=>rfl) (by decide) aD (by rw [kP (jS _ _ _ _)];exact aC) 3 (by decide)
    rw [aAQ] at nV fD;have HR:=Lib.hid aD;clear dL hx;have fY:0<=k+4*(i:Int):=by omega
    have eU:k+4*(i:Int)<=4611686018427387904:=by omega
    go_wp2
    go_roundw
    case rel=>
     have dL:=HM.out;obtain ⟨aX,dJ,-⟩:=Rep.setField (enc:=jk) (size:=4) (λ_=>rfl) (by decide) aD dL 0 (by decide) (.int .i64 (k+4*(i:Int))) (y:=(⟨k+4*(i:Int),x.seq,x.run,x.aAI⟩:En)) (λvk Sk h=>by obtain ⟨rfl,rfl⟩:=kr h;exact jf2 _ _ _) hF
     rw [aAQ] at aX dJ;have cZ:=kw (y:=(⟨k+4*(i:Int),x.seq,x.run,x.aAI⟩:En)) dL;obtain ⟨bV,eL,-⟩:=Rep.setField (enc:=jk) (size:=4) (λ_=>rfl) (by decide) aX cZ 1 (by decide) (.int .i64 (k+4*(i:Int)+1)) (y:=(⟨k+4*(i:Int),k+4*(i:Int)+1,x.run,x.aAI⟩:En)) (λvk Sk h=>by obtain ⟨rfl,rfl⟩:=kr h;exact jf2 _ _ _) hF
     have dC:=kw (y:=(⟨k+4*(i:Int),k+4*(i:Int)+1,x.run,x.aAI⟩:En)) cZ;obtain ⟨oB,oJ,-⟩:=Rep.setField (enc:=jk) (size:=4) (λ_=>rfl) (by decide) bV dC 2 (by decide) (.int .i64 (k+4*(i:Int)+1+1)) (y:=(⟨k+4*(i:Int),k+4*(i:Int)+1,k+4*(i:Int)+1+1,x.aAI⟩:En)) (λvk Sk h=>by obtain ⟨rfl,rfl⟩:=kr h;exact jf2 _ _ _) hF
     have eW:=kw (y:=(⟨k+4*(i:Int),k+4*(i:Int)+1,k+4*(i:Int)+1+1,x.aAI⟩:En)) dC;obtain ⟨l8,oH,-⟩:=Rep.setField (enc:=jk) (size:=4) (λ_=>rfl) (by decide) oB eW 3 (by decide) (.int .i64 (k+4*(i:Int)+1+1+1)) (y:=(⟨k+4*(i:Int),k+4*(i:Int)+1,k+4*(i:Int)+1+1,k+4*(i:Int)+1+1+1⟩:En)) (λvk Sk h=>by obtain ⟨rfl,rfl⟩:=kr h;exact jf2 _ _ _) hF
     have mF:=kw (y:=(⟨k+4*(i:Int),k+4*(i:Int)+1,k+4*(i:Int)+1+1,k+4*(i:Int)+1+1+1⟩:En)) eW;simp only [aDE] at l8;refine ⟨i+1,by omega,by go_num,by go_num,?_,d4.trans ((((dJ).trans eL (λt h=>.inl h)).trans oJ (λt h=>.inl h)).trans oH (λt h=>.inl h)) (λt h=>.inl (by simp only [aBM] at h;subst h;exact c8))⟩
     rw [<-jgP (jS _ _ _ _) (jcp jmH 4 l.length k aC)];exact l8
    case measure=>simp [intOf];omega
  ·obtain rfl:i=l.length:=by omega
   go_wp2
   go_ret
   exact ⟨rfl,by rw [<-jei (jS jmH 4 l.length k)];exact aD,d4⟩
theorem jg2 (m:Nat) (k:Int) (v:Value) (S:List Nat) (w:World) (own:Bool) (ha:Rep w own (jo (mkR jmH 4 m k)) v S) (h0:0<=k) (V:k+4*(m:Int)<=4611686018427387904):
 Calls Tryz.prog 97 #[v,.int .i64 k] w λe w'=>e=.returned (.int .i64 (k+4*(m:Int)))/\Below w.heap.size w w':=by
 obtain ⟨A,c,rfl,bK,bI,aV⟩:=Rep.open_ (size:=4) (enc:=jk) (λ_=>rfl) (by decide) ha
 rw [jS] at*;unfold maxLen at bI;have dO:m<=4611686018427387904:=by omega
 clear ha
 go_enter Tryz.func97,Tryz.ntmps97
 go_wp2
 go_loopw [1,5] (λq i wr=>∃j:Nat,j<=m/\i=.int .i64 j/\q=.int .i64 (k+4*(j:Int))/\Below w.heap.size w wr) (λ_ i _=>m-(intOf i).toNat)
 case atStart=>exact ⟨0,by omega,rfl,by simp,Below.refl _ _⟩
 case round=>
  obtain ⟨i,hi,rfl,rfl,aB⟩:=hrel;by_cases aC:i<m
  ·obtain ⟨b1,o1,vk1,T1,rfl,-,aX,-,-,aH,aK⟩:=aV i _ (jcp jmH 4 m k aC)
   clear aV
   ·skip
    obtain ⟨rfl,rfl⟩:=kr aX;have p0:=ctm (b:=b1) (o:=o1+i*4) aB (aK 0 _ rfl);have p1:=ctm (b:=b1) (o:=o1+i*4+1) aB (aK 1 _ rfl);have p2:=ctm (b:=b1) (o:=o1+i*4+2) aB (aK 2 _ rfl);have p3:=ctm (b:=b1) (o:=o1+i*4+3) aB (aK 3 _ rfl);simp only [jmH] at p0 p1 p2 p3;clear aK;have fY:0<=k+4*(i:Int):=by omega
    have eU:k+4*(i:Int)<=4611686018427387904:=by omega
    go_wp2
    go_roundw
    case rel=>exact ⟨i+1,by omega,by go_num,by go_num,aB⟩
    case measure=>simp [intOf];omega
  ·obtain rfl:i=m:=by omega
   clear aV
   go_wp2
   go_ret
   exact ⟨rfl,aB⟩
def jjJ (k:Int):Tk:=⟨k,k+1,k+1+1,k+1+1+1⟩
theorem jhX (l:List Tk) (k:Int) (v:Value) (S:List Nat) (B:Nat) (w:World) (ha:Rep w true (ke l) v S) (hF:Fresh B S) (h0:0<=k) (V:k+4*(l.length:Int)<=4611686018427387904):
 Calls Tryz.prog 95 #[v,.int .i64 k] w λe w'=>e=.returned (.int .i64 (k+4*(l.length:Int)))/\Rep w' true (ke (mkR jjJ 4 l.length k)) v S/\Only S w w':=by
 obtain ⟨A,c,rfl,bK,bI,-⟩:=Rep.open_ (size:=4) (enc:=ji) (λ_=>rfl) (by decide) ha
 unfold maxLen at bI;have dO:l.length<=4611686018427387904:=by omega
 go_enter Tryz.func95,Tryz.ntmps95
 go_wp2
 go_loopw [1,5] (λq i wr=>∃j:Nat,j<=l.length/\i=.int .i64 j/\q=.int .i64 (k+4*(j:Int))/\Rep wr true (ke (mh (mkR jjJ 4 l.length k) l j)) (.slice A l.length c) S/\Only S w wr) (λ_ i _=>l.length-(intOf i).toNat)
 case atStart=>exact ⟨0,by omega,rfl,by simp,by rw [jeh];exact ha,Only.refl _ _⟩
 case round=>
  obtain ⟨i,hi,rfl,rfl,aD,d4⟩:=hrel;by_cases aC:i<l.length
  ·obtain ⟨x,hx⟩:=jd aC
   have dL:=jgQ (jS jjJ 4 l.length k) hx;have HM:=Lib.hid dL;have HX:=Lib.hid hx;obtain ⟨g,rfl,-,c8,hg,-⟩:=Rep.head (enc:=ji) (size:=4) (xs:=mh (mkR jjJ 4 l.length k) l i) (λ_=>rfl) (by decide) aD (by rw [kP (jS _ _ _ _)];omega)
   ·skip
    obtain ⟨⟨u0,nV⟩,fD⟩:=jW (enc:=ji) (size:=4) (λ_=>rfl) (by decide) aD (by rw [kP (jS _ _ _ _)];exact aC) 0 (by decide)
    obtain ⟨⟨u1,pZ⟩,gZ⟩:=jW (enc:=ji) (size:=4) (λ_=>rfl) (by decide) aD (by rw [kP (jS _ _ _ _)];exact aC) 1 (by decide)
    obtain ⟨⟨u2,lV⟩,nK⟩:=jW (enc:=ji) (size:=4) (λ_=>rfl) (by decide) aD (by rw [kP (jS _ _ _ _)];exact aC) 2 (by decide)
    obtain ⟨⟨u3,wS⟩,wH⟩:=jW (enc:=ji) (size:=4) (λ_=>rfl) (by decide) aD (by rw [kP (jS _ _ _ _)];exact aC) 3 (by decide)
    rw [aAQ] at nV fD;have HR:=Lib.hid aD;clear dL hx;have fY:0<=k+4*(i:Int):=by omega
    have eU:k+4*(i:Int)<=4611686018427387904:=by omega
    go_wp2
    go_roundw
    case rel=>
     have dL:=HM.out;obtain ⟨aX,dJ,-⟩:=Rep.setField (enc:=ji) (size:=4) (λ_=>rfl) (by decide) aD dL 0 (by decide) (.int .i64 (k+4*(i:Int))) (y:=(⟨k+4*(i:Int),x.aAL,x.tri,x.til⟩:Tk)) (λvk Sk h=>by obtain ⟨rfl,rfl⟩:=kF h;exact ji4 _ _ _) hF
     rw [aAQ] at aX dJ;have cZ:=kw (y:=(⟨k+4*(i:Int),x.aAL,x.tri,x.til⟩:Tk)) dL;obtain ⟨bV,eL,-⟩:=Rep.setField (enc:=ji) (size:=4) (λ_=>rfl) (by decide) aX cZ 1 (by decide) (.int .i64 (k+4*(i:Int)+1)) (y:=(⟨k+4*(i:Int),k+4*(i:Int)+1,x.tri,x.til⟩:Tk)) (λvk Sk h=>by obtain ⟨rfl,rfl⟩:=kF h;exact ji4 _ _ _) hF
     have dC:=kw (y:=(⟨k+4*(i:Int),k+4*(i:Int)+1,x.tri,x.til⟩:Tk)) cZ;obtain ⟨oB,oJ,-⟩:=Rep.setField (enc:=ji) (size:=4) (λ_=>rfl) (by decide) bV dC 2 (by decide) (.int .i64 (k+4*(i:Int)+1+1)) (y:=(⟨k+4*(i:Int),k+4*(i:Int)+1,k+4*(i:Int)+1+1,x.til⟩:Tk)) (λvk Sk h=>by obtain ⟨rfl,rfl⟩:=kF h;exact ji4 _ _ _) hF
     have eW:=kw (y:=(⟨k+4*(i:Int),k+4*(i:Int)+1,k+4*(i:Int)+1+1,x.til⟩:Tk)) dC;obtain ⟨l8,oH,-⟩:=Rep.setField (enc:=ji) (size:=4) (λ_=>rfl) (by decide) oB eW 3 (by decide) (.int .i64 (k+4*(i:Int)+1+1+1)) (y:=(⟨k+4*(i:Int),k+4*(i:Int)+1,k+4*(i:Int)+1+1,k+4*(i:Int)+1+1+1⟩:Tk)) (λvk Sk h=>by obtain ⟨rfl,rfl⟩:=kF h;exact ji4 _ _ _) hF
     have mF:=kw (y:=(⟨k+4*(i:Int),k+4*(i:Int)+1,k+4*(i:Int)+1+1,k+4*(i:Int)+1+1+1⟩:Tk)) eW;simp only [aDE] at l8;refine ⟨i+1,by omega,by go_num,by go_num,?_,d4.trans ((((dJ).trans eL (λt h=>.inl h)).trans oJ (λt h=>.inl h)).trans oH (λt h=>.inl h)) (λt h=>.inl (by simp only [aBM] at h;subst h;exact c8))⟩
     rw [<-jgP (jS _ _ _ _) (jcp jjJ 4 l.length k aC)];exact l8
    case measure=>simp [intOf];omega
  ·obtain rfl:i=l.length:=by omega
   go_wp2
   go_ret
   exact ⟨rfl,by rw [<-jei (jS jjJ 4 l.length k)];exact aD,d4⟩
theorem jh6 (m:Nat) (k:Int) (v:Value) (S:List Nat) (w:World) (own:Bool) (ha:Rep w own (ke (mkR jjJ 4 m k)) v S) (h0:0<=k) (V:k+4*(m:Int)<=4611686018427387904):
 Calls Tryz.prog 99 #[v,.int .i64 k] w λe w'=>e=.returned (.int .i64 (k+4*(m:Int)))/\Below w.heap.size w w':=by
 obtain ⟨A,c,rfl,bK,bI,aV⟩:=Rep.open_ (size:=4) (enc:=ji) (λ_=>rfl) (by decide) ha
 rw [jS] at*;unfold maxLen at bI;have dO:m<=4611686018427387904:=by omega
 clear ha
 go_enter Tryz.func99,Tryz.ntmps99
 go_wp2
 go_loopw [1,5] (λq i wr=>∃j:Nat,j<=m/\i=.int .i64 j/\q=.int .i64 (k+4*(j:Int))/\Below w.heap.size w wr) (λ_ i _=>m-(intOf i).toNat)
 case atStart=>exact ⟨0,by omega,rfl,by simp,Below.refl _ _⟩
 case round=>
  obtain ⟨i,hi,rfl,rfl,aB⟩:=hrel;by_cases aC:i<m
  ·obtain ⟨b1,o1,vk1,T1,rfl,-,aX,-,-,aH,aK⟩:=aV i _ (jcp jjJ 4 m k aC)
   clear aV
   ·skip
    obtain ⟨rfl,rfl⟩:=kF aX;have p0:=ctm (b:=b1) (o:=o1+i*4) aB (aK 0 _ rfl);have p1:=ctm (b:=b1) (o:=o1+i*4+1) aB (aK 1 _ rfl);have p2:=ctm (b:=b1) (o:=o1+i*4+2) aB (aK 2 _ rfl);have p3:=ctm (b:=b1) (o:=o1+i*4+3) aB (aK 3 _ rfl);simp only [jjJ] at p0 p1 p2 p3;clear aK;have fY:0<=k+4*(i:Int):=by omega
    have eU:k+4*(i:Int)<=4611686018427387904:=by omega
    go_wp2
    go_roundw
    case rel=>exact ⟨i+1,by omega,by go_num,by go_num,aB⟩
    case measure=>simp [intOf];omega
  ·obtain rfl:i=m:=by omega
   clear aV
   go_wp2
   go_ret
   exact ⟨rfl,aB⟩
open Go.RowKit Go.Sort Go.BigFrame
def mkL {α:Type} (mk:α->Int->α) (cnt:α->Nat):List α->Int->List α
 |[],_=>[]
 |x::l,k=>mk x k::mkL mk cnt l (k+(cnt x:Int))
theorem kD {α:Type} (mk:α->Int->α) (cnt:α->Nat):∀(l:List α) (k:Int),(mkL mk cnt l k).length=l.length
 |[],_=>rfl
 |_::l,k=>by rw [mkL,aCG,aCG,kD mk cnt l]
theorem jeg {α:Type} (mk:α->Int->α) (cnt:α->Nat):∀(l:List α) (k:Int) {i:Nat} {x:α},l[i]?=some x->(mkL mk cnt l k)[i]?=some (mk x (k+(jP cnt (l.take i):Nat)))
 |[],_,i,x,h=>by simp at h
 |y::l,k,0,x,h=>by
  simp at h;subst h;simp [mkL,jP]
 |y::l,k,i+1,x,h=>by
  simp only [aCR] at h;rw [mkL,aCR,jeg mk cnt l _ h,List.take_succ_cons];have:jP cnt (y::l.take i)=cnt y+jP cnt (l.take i):=by simp [jP]
  rw [this]
  congr 2
  push_cast
  omega
theorem Rep.inElem {α:Type} {enc:α->List D} {size:Nat} {ty:TypeId} {w:World} {xs:List α} {S:List Nat} {B:Nat} {g n c k:Nat} {x:α}
 (hl:∀x,(enc x).length=size) (hs:0<size) (h:Rep w true (.sl size ty (xs.flatMap enc)) (.slice (some ⟨g,0,none⟩) n c) S) (hF:Go.Proofs.YtekegiiikglhbaaGreat.Fresh B S) (hx:xs[k]?=some x):
 ∃vk Sk,RepL w true (enc x) vk Sk/\(∀s∈Sk,s∈S)/\Go.Proofs.YtekegiiikglhbaaGreat.Fresh B Sk/\(∀j u,vk[j]?=some u->w.cell? ⟨g,k*size+j,none⟩=some u)/\g∉Sk/\g∈S/\
  ∀w' y,Only Sk w w'->RepL w' true (enc y) vk Sk->Rep w' true (.sl size ty ((xs.set k y).flatMap enc)) (.slice (some ⟨g,0,none⟩) n c) S:=by
 obtain ⟨vs,S1,V,Y,rfl⟩:=Rep.own hl hs h;have hk:k<xs.length:=(aAR.1 hx).1;obtain ⟨v1,vk,v2,Sa,Sk,Sb,rfl,d7,pU,rfl,hr,l7,fX⟩:=RepL.get hl xs Y k x hx
 have hn:n=xs.length:=by
  rcases V.2 with ⟨e,_⟩|⟨g',cap',cur,e,_⟩
  ·cases e
  ·simp only [Value.slice.injEq] at e;exact e.2.1
 subst hn;have mJ:g<w.heap.size:=V.lt g rfl|>.2
 have hg:g∉Sk:=λhh=>hF.apart g (by simp [blk]) (by simp [hh])
 have bT:k*size+size<=xs.length*size:=by rw [<-Nat.succ_mul];exact aBY _ hk
 refine ⟨vk,Sk,hr,λs hs=>by simp [hs],hF.right.left.right,λj u hu=>?_,hg,by simp [blk],λw' y ho hy=>?_⟩
 ·have hj:j<size:=by have:=(aAR.1 hu).1;omega
  rw [V.cellAt (k*size+j) (by omega),aAZ,aBT (by omega),d7,aCM,aBZ (by omega)]
  exact hu
 ·have xH:∀s∈Sa,s∉Sk:=hF.right.left.apart
  have xG:∀s∈Sb,s∉Sk:=λs hs eX=>hF.right.apart s (by simp [eX]) hs
  have dD:w'.ownsRow 0 ty size (.slice (some ⟨g,0,none⟩) xs.length c) xs.length (v1++vk++v2):=by
   refine ⟨V.1,?_⟩;rcases V.2 with ⟨e,_⟩|⟨g',cap',cur,e,Z,hc,hr⟩
   ·cases e
   ·refine .inr ⟨g',cap',cur,e,Z,?_,hr⟩
    simp only [Value.slice.injEq,Option.some.injEq,Addr.mk.injEq,and_true] at e;obtain ⟨rfl,_⟩:=e;rw [ho.block g mJ hg];exact hc
  exact Rep.of_own dD (RepL.put xs hk (l7.only ho xH) hy (fX.only ho xG))
def c4 (l:List En):Nat:=4*l.length
def jnP (l:List En) (k:Int):List En:=mkR jmH 4 l.length k
theorem jfN (l:List (List En)) (k:Int) (v:Value) (S:List Nat) (B:Nat) (w:World) (ha:Rep w true (jX l) v S) (hF:Fresh B S) (h0:0<=k) (V:k+(jP c4 l:Nat)<=2305843009213693952) (Y:l.length<=2305843009213693952):
 Calls Tryz.prog 57 #[v,.int .i64 k] w λe w'=>e=.returned (.int .i64 (k+(jP c4 l:Nat)))/\Rep w' true (jX (mkL jnP c4 l k)) v S/\Only S w w':=by
 obtain ⟨A,c,rfl,bK,bI,-⟩:=Rep.open_ (size:=1) (enc:=λes=>[jo es]) (λ_=>rfl) (by decide) ha
 go_enter Tryz.func57,Tryz.ntmps57
 go_wp2
 go_loopw [1,5] (λq i wr=>∃j:Nat,j<=l.length/\i=.int .i64 j/\q=.int .i64 (k+(jP c4 (l.take j):Nat))/\Rep wr true (jX (mh (mkL jnP c4 l k) l j)) (.slice A l.length c) S/\Only S w wr) (λ_ i _=>l.length-(intOf i).toNat)
 case atStart=>exact ⟨0,by omega,rfl,by simp [jP],by rw [jeh];exact ha,Only.refl _ _⟩
 case round=>
  obtain ⟨i,hi,rfl,rfl,aD,d4⟩:=hrel;by_cases aC:i<l.length
  ·obtain ⟨x,hx⟩:=jd aC
   have dL:=jgQ (kD jnP c4 l k) hx;obtain ⟨g,rfl,-,c8,hg,-⟩:=Rep.head (enc:=λes=>[jo es]) (size:=1) (xs:=mh (mkL jnP c4 l k) l i) (λ_=>rfl) (by decide) aD (by rw [kP (kD _ _ _ _)];omega)
   ·skip
    obtain ⟨vk,Sk,rW,u4,u5,aZ,xU,-,lN⟩:=Rep.inElem (enc:=λes=>[jo es]) (size:=1) (λ_=>rfl) (by decide) aD hF dL
    obtain ⟨u,_,U0,U1,rfl,rfl,hu,rfl,rfl⟩:=rW;have p0:wr.cell? ⟨g,i,none⟩=some u:=by simpa using aZ 0 u rfl
    obtain ⟨A1,n1,m1,rfl⟩:=Rep.form hu;have eE:=kj (tot:=c4) hx;have cT:=kS c4 l (i+1);have tD:c4 x=4*x.length:=rfl;have HT:=Lib.hid (show k+((jP c4 (l.take i):Nat):Int)+4*(x.length:Int)=k+((jP c4 (l.take (i+1)):Nat):Int) by omega)
    have fY:0<=k+((jP c4 (l.take i):Nat):Int):=by omega
    have eU:k+((jP c4 (l.take i):Nat):Int)+4*(x.length:Int)<=2305843009213693952:=by omega
    have HM:=Lib.hid (jeg jnP c4 l k hx);have HB:=Lib.hid lN;have HF:=Lib.hid u5;clear aZ dL hx eE cT tD lN;generalize ((jP c4 (l.take i):Nat):Int)=t at*;simp only [aBO] at*
    go_wp2_with (go_at_call 93;refine (jgR x (k+t) _ U0 B wr hu HF.out fY (by omega)).mono ?_;rintro e w' ⟨rfl,cM,cF⟩)
    go_roundw
    case rel=>
     refine ⟨i+1,by omega,by go_num,by rw [HT.out],?_,d4.trans cF (λt ht=>.inl (u4 t ht))⟩
     rw [<-jgP (kD _ _ _ _) HM.out];exact HB.out w' _ cF (by have h:=RepL.cons_ cM (RepL.nil_ (w:=w') (own:=true));rw [aBO] at h;exact h)
    case measure=>simp [intOf];omega
  ·obtain rfl:i=l.length:=by omega
   go_wp2
   go_ret
   rw [aBL];exact ⟨rfl,by rw [<-jei (kD jnP c4 l k)];exact aD,d4⟩
theorem jfW (l:List (List En)) (k:Int) (v:Value) (S:List Nat) (w:World) (own:Bool) (ha:Rep w own (jX (mkL jnP c4 l k)) v S) (h0:0<=k) (V:k+(jP c4 l:Nat)<=2305843009213693952) (Y:l.length<=2305843009213693952):
 Calls Tryz.prog 60 #[v,.int .i64 k] w λe w'=>e=.returned (.int .i64 (k+(jP c4 l:Nat)))/\Below w.heap.size w w':=by
 obtain ⟨A,c,rfl,bK,bI,aV⟩:=Rep.open_ (size:=1) (enc:=λes=>[jo es]) (λ_=>rfl) (by decide) ha
 rw [kD] at*;clear ha
 go_enter Tryz.func60,Tryz.ntmps60
 go_wp2
 go_loopw [1,5] (λq i wr=>∃j:Nat,j<=l.length/\i=.int .i64 j/\q=.int .i64 (k+(jP c4 (l.take j):Nat))/\Below w.heap.size w wr) (λ_ i _=>l.length-(intOf i).toNat)
 case atStart=>exact ⟨0,by omega,rfl,by simp [jP],Below.refl _ _⟩
 case round=>
  obtain ⟨i,hi,rfl,rfl,aB⟩:=hrel;by_cases aC:i<l.length
  ·obtain ⟨x,hx⟩:=jd aC
   obtain ⟨b1,o1,vk1,T1,rfl,-,aX,-,-,aH,aK⟩:=aV i _ (jeg jnP c4 l k hx);clear aV
   ·skip
    obtain ⟨u,_,U0,U1,rfl,rfl,hu,rfl,rfl⟩:=aX;have p0:=ctm (b:=b1) (o:=o1+i) aB (by simpa using aK 0 _ rfl)
    obtain ⟨A1,n1,rfl,uP,sR,-⟩:=Rep.open_ (size:=4) (enc:=jk) (λ_=>rfl) (by decide) hu
    have eE:=kj (tot:=c4) hx;have cT:=kS c4 l (i+1);have tD:c4 x=4*x.length:=rfl;have HT:=Lib.hid (show k+((jP c4 (l.take i):Nat):Int)+4*(x.length:Int)=k+((jP c4 (l.take (i+1)):Nat):Int) by omega)
    have fY:0<=k+((jP c4 (l.take i):Nat):Int):=by omega
    have eU:k+((jP c4 (l.take i):Nat):Int)+4*(x.length:Int)<=2305843009213693952:=by omega
    clear aK hx eE cT tD;generalize ((jP c4 (l.take i):Nat):Int)=t at*;have oO:decide (k+t+4*(x.length:Int)<0)=false:=by simp;omega
    go_wp2_with (go_at_call 97;refine (jg2 x.length (k+t) _ U0 wr own (up hu aB) fY (by omega)).mono ?_;rintro e w' ⟨rfl,aS⟩)
    go_roundw
    case rel=>exact ⟨i+1,by omega,by go_num,by rw [HT.out],jB aB aS⟩
    case measure=>simp [intOf];omega
  ·obtain rfl:i=l.length:=by omega
   clear aV
   go_wp2
   go_ret
   rw [aBL];exact ⟨rfl,aB⟩
open Go.RowKit Go.Sort Go.BigFrame
theorem jpJ {S:List Nat} {w w':World} (ho:Only S w w') {b:Nat} (h:b<w.heap.size) (hS:b∉S):(∀o,w'.cell? ⟨b,o,none⟩=w.cell? ⟨b,o,none⟩)/\(∀o,w'.frozen? ⟨b,o,none⟩=w.frozen? ⟨b,o,none⟩):=by
 have e:w'.heap[b]?=w.heap[b]?:=ho.block b h hS;exact ⟨λo=>World.cell?_of_block (w:=w) (a:=⟨b,o,none⟩) e,λo=>World.frozen?_of_block (w:=w) (a:=⟨b,o,none⟩) e⟩
def jmG (x:Rn) (q:Int):Rn:=⟨q,⟨q+1,q+1+1,q+1+1+1,q+1+1+1+1,mkR jge 2 x.aAF.aAC.length (q+1+1+1+1+1)⟩,q+1+1+1+1+1+2*(x.aAF.aAC.length:Int),mkR jjJ 4 x.aAB.length (q+1+1+1+1+1+2*(x.aAF.aAC.length:Int)+1)⟩
def cRn (x:Rn):Nat:=6+2*x.aAF.aAC.length+4*x.aAB.length
set_option maxRecDepth 8000 in
theorem jjM (l:List Rn) (k:Int) (v:Value) (S:List Nat) (B:Nat) (w:World) (ha:Rep w true (jC l) v S) (hF:Fresh B S) (h0:0<=k) (V:k+(jP cRn l:Nat)<=2305843009213693952) (Y:l.length<=2305843009213693952):
 Calls Tryz.prog 58 #[v,.int .i64 k] w λe w'=>e=.returned (.int .i64 (k+(jP cRn l:Nat)))/\Rep w' true (jC (mkL jmG cRn l k)) v S/\Only S w w':=by
 obtain ⟨A,c,rfl,bK,bI,-⟩:=Rep.open_ (size:=8) (enc:=jc) (λ_=>rfl) (by decide) ha
 go_enter Tryz.func58,Tryz.ntmps58
 go_wp2
 go_loopw [1,5] (λq i wr=>∃j:Nat,j<=l.length/\i=.int .i64 j/\q=.int .i64 (k+(jP cRn (l.take j):Nat))/\Rep wr true (jC (mh (mkL jmG cRn l k) l j)) (.slice A l.length c) S/\Only S w wr) (λ_ i _=>l.length-(intOf i).toNat)
 case atStart=>exact ⟨0,by omega,rfl,by simp [jP],by rw [jeh];exact ha,Only.refl _ _⟩
 case round=>
  obtain ⟨i,hi,rfl,rfl,aD,d4⟩:=hrel;by_cases aC:i<l.length
  ·obtain ⟨x,hx⟩:=jd aC
   have dL:=jgQ (kD jmG cRn l k) hx;obtain ⟨g,rfl,-,c8,hg,-⟩:=Rep.head (enc:=jc) (size:=8) (xs:=mh (mkL jmG cRn l k) l i) (λ_=>rfl) (by decide) aD (by rw [kP (kD _ _ _ _)];omega)
   ·skip
    have eE:=kj (tot:=cRn) hx;have cT:=kS cRn l (i+1);have nH:cRn x=6+2*x.aAF.aAC.length+4*x.aAB.length:=rfl;obtain ⟨q,hq⟩:∃q,q=k+((jP cRn (l.take i):Nat):Int):=⟨_,rfl⟩;have HT:=Lib.hid (show q+1+1+1+1+1+2*(x.aAF.aAC.length:Int)+1+4*(x.aAB.length:Int)=k+((jP cRn (l.take (i+1)):Nat):Int) by omega)
    have fY:0<=q:=by omega
    have eU:q+1+1+1+1+1+2*(x.aAF.aAC.length:Int)+1+4*(x.aAB.length:Int)<=2305843009213693952:=by omega
    have HM:=Lib.hid (jeg jmG cRn l k hx);rw [<-hq] at HM⊢;clear hq;obtain ⟨vk,Sk,rW,u4,u5,aZ,xU,-,-⟩:=Rep.inElem (enc:=jc) (size:=8) (λ_=>rfl) (by decide) aD hF dL
    obtain ⟨sv5,sv7,U0,U1,rfl,rB,l4,rfl⟩:=jI rW;obtain ⟨A5,n5,m5,rfl⟩:=Rep.form rB;obtain ⟨A7,n7,m7,rfl⟩:=Rep.form l4;have p0:wr.cell? ⟨g,i*8,none⟩=_:=aZ 0 _ rfl;have p1:wr.cell? ⟨g,i*8+1,none⟩=_:=aZ 1 _ rfl;have p2:wr.cell? ⟨g,i*8+2,none⟩=_:=aZ 2 _ rfl;have p3:wr.cell? ⟨g,i*8+3,none⟩=_:=aZ 3 _ rfl;have p4:wr.cell? ⟨g,i*8+4,none⟩=_:=aZ 4 _ rfl;have p5:wr.cell? ⟨g,i*8+5,none⟩=_:=aZ 5 _ rfl;have p6:wr.cell? ⟨g,i*8+6,none⟩=_:=aZ 6 _ rfl;have p7:wr.cell? ⟨g,i*8+7,none⟩=_:=aZ 7 _ rfl;have z0:wr.frozen? ⟨g,i*8,none⟩=false:=(jW (enc:=jc) (size:=8) (λ_=>rfl) (by decide) aD (by rw [kP (kD _ _ _ _)];exact aC) 0 (by decide)).2
    have z1:wr.frozen? ⟨g,i*8+1,none⟩=false:=(jW (enc:=jc) (size:=8) (λ_=>rfl) (by decide) aD (by rw [kP (kD _ _ _ _)];exact aC) 1 (by decide)).2
    have z2:wr.frozen? ⟨g,i*8+2,none⟩=false:=(jW (enc:=jc) (size:=8) (λ_=>rfl) (by decide) aD (by rw [kP (kD _ _ _ _)];exact aC) 2 (by decide)).2
    have z3:wr.frozen? ⟨g,i*8+3,none⟩=false:=(jW (enc:=jc) (size:=8) (λ_=>rfl) (by decide) aD (by rw [kP (kD _ _ _ _)];exact aC) 3 (by decide)).2
    have z4:wr.frozen? ⟨g,i*8+4,none⟩=false:=(jW (enc:=jc) (size:=8) (λ_=>rfl) (by decide) aD (by rw [kP (kD _ _ _ _)];exact aC) 4 (by decide)).2
    have z6:wr.frozen? ⟨g,i*8+6,none⟩=false:=(jW (enc:=jc) (size:=8) (λ_=>rfl) (by decide) aD (by rw [kP (kD _ _ _ _)];exact aC) 6 (by decide)).2
    clear aZ hx eE cT nH
    go_wp2_with (first
     |(go_at_call 94;obtain ⟨rX,uF,-⟩:=Rep.setField (enc:=jc) (size:=8) (λ_=>rfl) (by decide) aD dL 0 (by decide) (.int .i64 (q)) (y:=(⟨q,⟨x.aAF.aAH,x.aAF.aAK,x.aAF.aAJ,x.aAF.aAB,x.aAF.aAC⟩,x.aAD,x.aAB⟩:Rn)) (λvk Sk h=>by obtain ⟨_,_,_,_,rfl,k1,k2,rfl⟩:=jI h;exact jeM k1 k2) hF;rw [aAQ] at rX uF;have sG:=kw (y:=(⟨q,⟨x.aAF.aAH,x.aAF.aAK,x.aAF.aAJ,x.aAF.aAB,x.aAF.aAC⟩,x.aAD,x.aAB⟩:Rn)) dL;obtain ⟨aX,dJ,-⟩:=Rep.setField (enc:=jc) (size:=8) (λ_=>rfl) (by decide) rX sG 1 (by decide) (.int .i64 (q+1)) (y:=(⟨q,⟨q+1,x.aAF.aAK,x.aAF.aAJ,x.aAF.aAB,x.aAF.aAC⟩,x.aAD,x.aAB⟩:Rn)) (λvk Sk h=>by obtain ⟨_,_,_,_,rfl,k1,k2,rfl⟩:=jI h;exact jeM k1 k2) hF;have cZ:=kw (y:=(⟨q,⟨q+1,x.aAF.aAK,x.aAF.aAJ,x.aAF.aAB,x.aAF.aAC⟩,x.aAD,x.aAB⟩:Rn)) sG;obtain ⟨bV,eL,-⟩:=Rep.setField (enc:=jc) (size:=8) (λ_=>rfl) (by decide) aX cZ 2 (by decide) (.int .i64 (q+1+1)) (y:=(⟨q,⟨q+1,q+1+1,x.aAF.aAJ,x.aAF.aAB,x.aAF.aAC⟩,x.aAD,x.aAB⟩:Rn)) (λvk Sk h=>by obtain ⟨_,_,_,_,rfl,k1,k2,rfl⟩:=jI h;exact jeM k1 k2) hF;have dC:=kw (y:=(⟨q,⟨q+1,q+1+1,x.aAF.aAJ,x.aAF.aAB,x.aAF.aAC⟩,x.aAD,x.aAB⟩:Rn)) cZ;obtain ⟨oB,oJ,-⟩:=Rep.setField (enc:=jc) (size:=8) (λ_=>rfl) (by decide) bV dC 3 (by decide) (.int .i64 (q+1+1+1)) (y:=(⟨q,⟨q+1,q+1+1,q+1+1+1,x.aAF.aAB,x.aAF.aAC⟩,x.aAD,x.aAB⟩:Rn)) (λvk Sk h=>by obtain ⟨_,_,_,_,rfl,k1,k2,rfl⟩:=jI h;exact jeM k1 k2) hF;have eW:=kw (y:=(⟨q,⟨q+1,q+1+1,q+1+1+1,x.aAF.aAB,x.aAF.aAC⟩,x.aAD,x.aAB⟩:Rn)) dC;obtain ⟨l8,oH,-⟩:=Rep.setField (enc:=jc) (size:=8) (λ_=>rfl) (by decide) oB eW 4 (by decide) (.int .i64 (q+1+1+1+1)) (y:=(⟨q,⟨q+1,q+1+1,q+1+1+1,q+1+1+1+1,x.aAF.aAC⟩,x.aAD,x.aAB⟩:Rn)) (λvk Sk h=>by obtain ⟨_,_,_,_,rfl,k1,k2,rfl⟩:=jI h;exact jeM k1 k2) hF;have mF:=kw (y:=(⟨q,⟨q+1,q+1+1,q+1+1+1,q+1+1+1+1,x.aAF.aAC⟩,x.aAD,x.aAB⟩:Rn)) eW;obtain ⟨vkA,SkA,rV,tS,pK,gL,sU,-,mO⟩:=Rep.inElem (enc:=jc) (size:=8) (λ_=>rfl) (by decide) l8 hF mF;obtain ⟨evA5,evA7,UA0,UA1,rfl,eA5,eA7,rfl⟩:=jI rV;have nU:=gL 5 _ rfl;simp [go_sem,p5] at nU;subst nU;have nT:=gL 7 _ rfl;simp [go_sem,p7] at nT;subst nT;refine (jhY x.aAF.aAC (q+1+1+1+1+1) _ UA0 B _ eA5 pK.left (by omega) (by omega)).mono ?_;rintro e wA ⟨rfl,w9,oG⟩;obtain ⟨s8,wG⟩:=jpJ oG (b:=g) (by simpa using hg) (λh=>sU (by simp [h]));have uR:g<wA.heap.size:=aCS (by simpa using hg) oG.size)
     |(go_at_call 95;have mP:=mO wA (⟨q,⟨q+1,q+1+1,q+1+1+1,q+1+1+1+1,mkR jge 2 x.aAF.aAC.length (q+1+1+1+1+1)⟩,x.aAD,x.aAB⟩:Rn) (oG.mono (λs hs=>.inl (by simp [hs]))) (jeM (r:=(⟨q,⟨q+1,q+1+1,q+1+1+1,q+1+1+1+1,mkR jge 2 x.aAF.aAC.length (q+1+1+1+1+1)⟩,x.aAD,x.aAB⟩:Rn)) w9 (eA7.only oG (λs hs ht=>pK.apart s ht hs)));have uK:=kw (y:=(⟨q,⟨q+1,q+1+1,q+1+1+1,q+1+1+1+1,mkR jge 2 x.aAF.aAC.length (q+1+1+1+1+1)⟩,x.aAD,x.aAB⟩:Rn)) mF;obtain ⟨xA,xF,-⟩:=Rep.setField (enc:=jc) (size:=8) (λ_=>rfl) (by decide) mP uK 6 (by decide) (.int .i64 (q+1+1+1+1+1+2*(x.aAF.aAC.length:Int))) (y:=(⟨q,⟨q+1,q+1+1,q+1+1+1,q+1+1+1+1,mkR jge 2 x.aAF.aAC.length (q+1+1+1+1+1)⟩,q+1+1+1+1+1+2*(x.aAF.aAC.length:Int),x.aAB⟩:Rn)) (λvk Sk h=>by obtain ⟨_,_,_,_,rfl,k1,k2,rfl⟩:=jI h;exact jeM k1 k2) hF;have uL:=kw (y:=(⟨q,⟨q+1,q+1+1,q+1+1+1,q+1+1+1+1,mkR jge 2 x.aAF.aAC.length (q+1+1+1+1+1)⟩,q+1+1+1+1+1+2*(x.aAF.aAC.length:Int),x.aAB⟩:Rn)) uK;obtain ⟨vkB,SkB,rU,tR,pJ,gK,sT,-,mN⟩:=Rep.inElem (enc:=jc) (size:=8) (λ_=>rfl) (by decide) xA hF uL;obtain ⟨evB5,evB7,UB0,UB1,rfl,eB5,eB7,rfl⟩:=jI rU;have nS:=gK 5 _ rfl;simp [go_sem,p5,s8] at nS;subst nS;have nR:=gK 7 _ rfl;simp [go_sem,p7,s8] at nR;subst nR;refine (jhX x.aAB (q+1+1+1+1+1+2*(x.aAF.aAC.length:Int)+1) _ UB1 B _ eB7 pJ.right (by omega) (by omega)).mono ?_;rintro e wB ⟨rfl,w8,oE⟩;obtain ⟨x6,wF⟩:=jpJ oE (b:=g) (by simpa using uR) (λh=>sT (by simp [h]));have z5:g<wB.heap.size:=aCS (by simpa using uR) oE.size))
    go_roundw
    case rel=>
     have nI:=mN wB (⟨q,⟨q+1,q+1+1,q+1+1+1,q+1+1+1+1,mkR jge 2 x.aAF.aAC.length (q+1+1+1+1+1)⟩,q+1+1+1+1+1+2*(x.aAF.aAC.length:Int),mkR jjJ 4 x.aAB.length (q+1+1+1+1+1+2*(x.aAF.aAC.length:Int)+1)⟩:Rn) (oE.mono (λs hs=>.inl (by simp [hs]))) (jeM (r:=(⟨q,⟨q+1,q+1+1,q+1+1+1,q+1+1+1+1,mkR jge 2 x.aAF.aAC.length (q+1+1+1+1+1)⟩,q+1+1+1+1+1+2*(x.aAF.aAC.length:Int),mkR jjJ 4 x.aAB.length (q+1+1+1+1+1+2*(x.aAF.aAC.length:Int)+1)⟩:Rn)) (eB5.only oE (λs hs ht=>pJ.apart s hs ht)) w8)
     have yY:=kw (y:=(⟨q,⟨q+1,q+1+1,q+1+1+1,q+1+1+1+1,mkR jge 2 x.aAF.aAC.length (q+1+1+1+1+1)⟩,q+1+1+1+1+1+2*(x.aAF.aAC.length:Int),mkR jjJ 4 x.aAB.length (q+1+1+1+1+1+2*(x.aAF.aAC.length:Int)+1)⟩:Rn)) uL;simp only [aDE] at nI;refine ⟨i+1,by omega,by go_num,by first|(rw [<-HT.out])|(rw [<-HT.out];go_num),?_,((((((((d4.trans uF (λt h=>.inl (by simp only [aBM] at h;subst h;exact c8))).trans dJ (λt h=>.inl (by simp only [aBM] at h;subst h;exact c8))).trans eL (λt h=>.inl (by simp only [aBM] at h;subst h;exact c8))).trans oJ (λt h=>.inl (by simp only [aBM] at h;subst h;exact c8))).trans oH (λt h=>.inl (by simp only [aBM] at h;subst h;exact c8))).trans oG (λt h=>.inl (tS t (by simp [h])))).trans xF (λt h=>.inl (by simp only [aBM] at h;subst h;exact c8))).trans oE (λt h=>.inl (tR t (by simp [h]))))⟩
     rw [<-jgP (kD _ _ _ _) HM.out];exact nI
    case measure=>simp [intOf];omega
  ·obtain rfl:i=l.length:=by omega
   go_wp2
   go_ret
   rw [aBL];exact ⟨rfl,by rw [<-jei (kD jmG cRn l k)];exact aD,d4⟩
set_option maxRecDepth 8000 in
theorem jjZ (l:List Rn) (k:Int) (v:Value) (S:List Nat) (w:World) (own:Bool) (ha:Rep w own (jC (mkL jmG cRn l k)) v S) (h0:0<=k) (V:k+(jP cRn l:Nat)<=2305843009213693952) (Y:l.length<=2305843009213693952):
 Calls Tryz.prog 61 #[v,.int .i64 k] w λe w'=>e=.returned (.int .i64 (k+(jP cRn l:Nat)))/\Below w.heap.size w w':=by
 obtain ⟨A,c,rfl,bK,bI,aV⟩:=Rep.open_ (size:=8) (enc:=jc) (λ_=>rfl) (by decide) ha
 rw [kD] at*;clear ha
 go_enter Tryz.func61,Tryz.ntmps61
 go_wp2
 go_loopw [1,5] (λq i wr=>∃j:Nat,j<=l.length/\i=.int .i64 j/\q=.int .i64 (k+(jP cRn (l.take j):Nat))/\Below w.heap.size w wr) (λ_ i _=>l.length-(intOf i).toNat)
 case atStart=>exact ⟨0,by omega,rfl,by simp [jP],Below.refl _ _⟩
 case round=>
  obtain ⟨i,hi,rfl,rfl,aB⟩:=hrel;by_cases aC:i<l.length
  ·obtain ⟨x,hx⟩:=jd aC
   obtain ⟨b1,o1,vk1,T1,rfl,-,aX,-,-,aH,aK⟩:=aV i _ (jeg jmG cRn l k hx);clear aV
   ·skip
    have eE:=kj (tot:=cRn) hx;have cT:=kS cRn l (i+1);have nH:cRn x=6+2*x.aAF.aAC.length+4*x.aAB.length:=rfl;obtain ⟨q,hq⟩:∃q,q=k+((jP cRn (l.take i):Nat):Int):=⟨_,rfl⟩;have HT:=Lib.hid (show q+1+1+1+1+1+2*(x.aAF.aAC.length:Int)+1+4*(x.aAB.length:Int)=k+((jP cRn (l.take (i+1)):Nat):Int) by omega)
    have fY:0<=q:=by omega
    have eU:q+1+1+1+1+1+2*(x.aAF.aAC.length:Int)+1+4*(x.aAB.length:Int)<=2305843009213693952:=by omega
    rw [<-hq] at aX⊢;clear hq hx eE cT nH;obtain ⟨sv5,sv7,U0,U1,rfl,rB,l4,rfl⟩:=jI aX;obtain ⟨A5,n5,rfl,y9,y6,-⟩:=Rep.open_ (size:=2) (enc:=jy) (λ_=>rfl) (by decide) rB
    obtain ⟨A7,n7,rfl,y8,y5,-⟩:=Rep.open_ (size:=4) (enc:=ji) (λ_=>rfl) (by decide) l4
    have p0:=ctm (b:=b1) (o:=o1+i*8) aB (aK 0 _ rfl);have p1:=ctm (b:=b1) (o:=o1+i*8+1) aB (aK 1 _ rfl);have p2:=ctm (b:=b1) (o:=o1+i*8+2) aB (aK 2 _ rfl);have p3:=ctm (b:=b1) (o:=o1+i*8+3) aB (aK 3 _ rfl);have p4:=ctm (b:=b1) (o:=o1+i*8+4) aB (aK 4 _ rfl);have p5:=ctm (b:=b1) (o:=o1+i*8+5) aB (aK 5 _ rfl);have p6:=ctm (b:=b1) (o:=o1+i*8+6) aB (aK 6 _ rfl);have p7:=ctm (b:=b1) (o:=o1+i*8+7) aB (aK 7 _ rfl);simp only [jmG,jS] at*;have uJ:decide (q+1+1+1+1+1+2*(x.aAF.aAC.length:Int)<0)=false:=by simp;omega
    have uI:decide (q+1+1+1+1+1+2*(x.aAF.aAC.length:Int)+1+4*(x.aAB.length:Int)<0)=false:=by simp;omega
    have yZ:b1<wr.heap.size:=by have:=aB.size;omega
    clear aK
    go_wp2_with (first
     |(go_at_call 98;refine (jh7 x.aAF.aAC.length (q+1+1+1+1+1) _ _ _ own (up rB (by first|exact aB|assumption)) (by omega) (by omega)).mono ?_;rintro e wA ⟨rfl,mP⟩;obtain ⟨s8,wG⟩:=qr mP;have y1:b1<wA.heap.size:=by have:=aB.size;have:=mP.size;omega)
     |(go_at_call 99;refine (jh6 x.aAB.length (q+1+1+1+1+1+2*(x.aAF.aAC.length:Int)+1) _ _ _ own (up l4 (by first|exact (jB aB mP)|assumption)) (by omega) (by omega)).mono ?_;rintro e wB ⟨rfl,nI⟩;obtain ⟨x6,wF⟩:=qr nI;have y0:b1<wB.heap.size:=by have:=aB.size;have:=mP.size;have:=nI.size;omega))
    go_roundw
    case rel=>exact ⟨i+1,by omega,by go_num,by first|(rw [<-HT.out])|(rw [<-HT.out];go_num),(jB (jB aB mP) nI)⟩
    case measure=>simp [intOf];omega
  ·obtain rfl:i=l.length:=by omega
   clear aV
   go_wp2
   go_ret
   rw [aBL];exact ⟨rfl,aB⟩
def je2 (y:Yd) (k:Int):Yd:=⟨y.now,y.seq,mkL jnP c4 y.aAE k,mkL jmG cRn y.aAG (k+(jP c4 y.aAE:Int))⟩
def cYd (y:Yd):Nat:=jP c4 y.aAE+jP cRn y.aAG
theorem jjL (y:Yd) (k:Int) (v:Value) (S:List Nat) (B:Nat) (w:World) (ha:AggRep w true (jb y) v S) (hF:Fresh B S) (h0:0<=k) (V:k+(cYd y:Nat)<=2305843009213693952) (Y:y.aAE.length<=2305843009213693952) (h3:y.aAG.length<=2305843009213693952):
 Calls Tryz.prog 30 #[v,.int .i64 k] w λe w'=>e=.returned (.int .i64 (k+(cYd y:Nat)))/\AggRep w' true (jb (je2 y k)) v S/\Only S w w':=by
 obtain ⟨_,rfl,ha⟩:=ha;obtain ⟨sv,rv,S1,S2,rfl,ah0,ah1,rfl⟩:=kE ha;clear ha;have pD:(cYd y:Int)=(jP c4 y.aAE:Int)+(jP cRn y.aAG:Int):=by simp [cYd]
 obtain ⟨A0,n0,m0,rfl⟩:=Rep.form ah0;obtain ⟨A1,n1,m1,rfl⟩:=Rep.form ah1;have yE:w.heap.size∉S1:=λh=>absurd (Rep.lt _ ah0 _ h) (Nat.lt_irrefl _)
 have eU:k+(jP c4 y.aAE:Int)+(jP cRn y.aAG:Int)<=2305843009213693952:=by omega
 have HC:=Lib.hid pD;clear pD V;generalize nZ:(jP c4 y.aAE:Int)=t1 at*;generalize nY:(jP cRn y.aAG:Int)=t2 at*;have rZ:0<=t1:=by omega
 have xB:0<=t2:=by omega
 have HT1:=Lib.hid nZ;have HT2:=Lib.hid nY;clear nZ nY
 go_enter Tryz.func30,Tryz.ntmps30
 go_wp2_with (first
  |(go_at_call 57;go_loud (refine (jfN y.aAE k _ S1 B _ (upA ah0 _) hF.left h0 (by rw [HT1.out];omega) Y).mono ?_;rintro e w1 ⟨rfl,aX,dJ⟩;(have sB:=jpJ dJ (b:=w.heap.size) (by simp) yE);obtain ⟨gI,gZ⟩:=sB;(have ah1':=(upA ah1 _).only dJ (λs hs ht=>hF.apart s ht hs));(have dA:=dJ.size);simp at dA;rw [HT1.out]))
  |(go_at_call 58;refine (jjM y.aAG (k+t1) _ S2 B _ ah1' hF.right (by omega) (by rw [HT2.out];omega) h3).mono ?_;rintro e w2 ⟨rfl,bV,eL⟩;rw [HT2.out]))
 go_ret
 refine ⟨km (by rw [HC.out];omega),⟨_,rfl,jc6 (y:=je2 y k) (aX.only eL (λs hs ht=>hF.apart s hs ht)) (by unfold je2;rw [HT1.out];exact bV)⟩,?_⟩
 exact ((Only.of_below (upB (Below.refl w.heap.size w) _)).trans (dJ.mono (T:=S1++S2) (λs hs=>.inl (by simp [hs]))) (λt ht=>.inl ht)).trans (eL.mono (T:=S1++S2) (λs hs=>.inl (by simp [hs]))) (λt ht=>.inl ht)
theorem jjY (y:Yd) (k:Int) (v:Value) (S:List Nat) (w:World) (own:Bool) (ha:AggRep w own (jb (je2 y k)) v S) (h0:0<=k) (V:k+(cYd y:Nat)<=2305843009213693952) (Y:y.aAE.length<=2305843009213693952) (h3:y.aAG.length<=2305843009213693952):
 Calls Tryz.prog 32 #[v,.int .i64 k] w λe w'=>e=.returned (.int .i64 (k+(cYd y:Nat)))/\Below w.heap.size w w':=by
 obtain ⟨_,rfl,ha⟩:=ha;obtain ⟨sv,rv,S1,S2,rfl,ah0,ah1,rfl⟩:=kE ha;clear ha;simp only [je2] at ah0 ah1;have pD:(cYd y:Int)=(jP c4 y.aAE:Int)+(jP cRn y.aAG:Int):=by simp [cYd]
 have eU:k+(jP c4 y.aAE:Int)+(jP cRn y.aAG:Int)<=2305843009213693952:=by omega
 have HC:=Lib.hid pD;clear pD V;generalize nZ:(jP c4 y.aAE:Int)=t1 at*;generalize nY:(jP cRn y.aAG:Int)=t2 at*;have rZ:0<=t1:=by omega
 have xB:0<=t2:=by omega
 have HT1:=Lib.hid nZ;have HT2:=Lib.hid nY;clear nZ nY;have dB:decide (k+t1<0)=false:=by simp;omega
 have gA:decide (k+t1+t2<0)=false:=by simp;omega
 go_enter Tryz.func32,Tryz.ntmps32
 go_wp2_with (first
  |(go_at_call 60;refine (jfW y.aAE k _ _ _ own (upA ah0 _) h0 (by rw [HT1.out];omega) Y).mono ?_;rintro e w1 ⟨rfl,aH⟩;obtain ⟨bK,d5⟩:=qr aH;rw [HT1.out])
  |(go_at_call 61;refine (jjZ y.aAG (k+t1) _ _ _ own (up (upA ah1 _) aH) (by omega) (by rw [HT2.out];omega) h3).mono ?_;rintro e w2 ⟨rfl,bA⟩;obtain ⟨bI,nG⟩:=qr bA;rw [HT2.out]))
 go_ret
 exact ⟨km (by rw [HC.out];omega),jB (jB (upB (Below.refl w.heap.size w) _) aH) bA⟩
