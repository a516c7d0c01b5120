/- Parts. -/
import Derived.Test.YtcehjhiglmifjaaGreatQYardB
import Derived.Shelf.Spec.SlicesInsertGrow
import Derived.Lib.Overlaps
set_option linter.all false
set_option maxHeartbeats 8000000
set_option maxRecDepth 100000
namespace Go.Proofs.YtcehjhiglmifjaaGreat
open Go.RowKit Go.Sort
section
variable {P:Program} {B:Nat} {w w0:World} {F:Nat->List Nat} {o:Nat->Ob}
theorem jwT {size:Nat} {ty:TypeId} {cs:List D} {v:Value} {S:List Nat} {m:Nat} (hs:0<size) (h:Rep w true (.sl size ty cs) v S) (hm:m*size<=cs.length):∃S',Rep w true (.sl size ty (cs.take (m*size))) (jjb v size 0 m) S'/\(∀b∈S',b∈S)/\(S.Nodup->S'.Nodup)/\(m*size=cs.length->jjb v size 0 m=v):=by
 obtain ⟨vs,T,S2,⟨n,⟨h1,h2⟩,rfl⟩,h4,rfl⟩:=h;have bN:=RepL.length _ h4;have e:cs=cs.take (m*size)++cs.drop (m*size):=(aNW _ _).symm;rw [e] at h4;obtain ⟨v1,v2,Sa,Sb,rfl,rfl,h5,h6⟩:=RepL.append_inv _ h4;have gO:=RepL.length _ h5;rw [aMP,aNZ hm] at gO
 have key:blk (jjb v size 0 m)=blk v/\w.ownsRow 0 ty size (jjb v size 0 m) m v1/\(m*size=cs.length->jjb v size 0 m=v):=by
  rcases h2 with ⟨rfl,rfl⟩|⟨g,cap,cur,rfl,a1,a2,a3,a4,a5,a6⟩
  ·have hm0:m=0:=by
    rcases Nat.eq_zero_or_pos m with h|h
    ·exact h
    ·have:=Nat.mul_pos h hs
     rw [Nat.zero_mul] at h1;omega
   subst hm0;have:v1=[]:=aNF (by omega)
   subst this;exact ⟨rfl,⟨by simp,.inl ⟨rfl,rfl⟩⟩,λ_=>rfl⟩
  ·have yV:m*size<=n*size:=by rw [<-h1,bN];exact hm
   have aIC:m<=n:=Nat.le_of_mul_le_mul_right yV hs
   have bB:jjb (.slice (some ⟨g,0,none⟩) n cap) size 0 m=.slice (some ⟨g,0,none⟩) m cap:=by
    simp only [jjb];split<;>simp [Addr.add_lit]
   rw [bB];refine ⟨rfl,⟨gO,.inr ⟨g,cap,cur,rfl,a1,a2,by omega,a4,a5,?_⟩⟩,λhe=>?_⟩
   ·have:=congrArg (List.take (m*size)) a6
    rw [List.take_take,aNZ yV,<-gO,List.take_left] at this;exact gO▸this
   ·have:m=n:=Nat.eq_of_mul_eq_mul_right hs (by rw [he,<-h1,bN])
    rw [this]
 refine ⟨blk (jjb v size 0 m)++Sa,⟨v1,_,Sa,⟨m,key.2.1,rfl⟩,h5,rfl⟩,?_,?_,key.2.2⟩
 ·rw [key.1];intro b hb
  rcases aMN.1 hb with hb|hb<;>simp [hb]
 ·rw [key.1];intro hn
  have:(blk v++Sa++Sb).Nodup:=by simpa using hn
  exact (aMS.1 this).1
def jAu (o:Nat->Ob) (g c g2:Nat) (d:D) (aH:jm) (d2:D) (aV:jm):Nat->Ob:=λj=>if j=g2 then .loose d2 aV else if j=g then (o g).putOwn c d aH else o j
theorem jxO (h:RelF B w0 0 (.only o) Act.bare w F) {g c k g2 m size ty tyo:Nat} {cs ds0:List D} {η:jm} (ho:(o g).own c=some (.sl 1 tyo ds0,η)) (hk:ds0[k]?=some (.sl size ty cs)) (mR:o g2=.none) (aR:g2≠g) (hs:0<size) (hm:m*size<=cs.length):
 ∃aV aH F',RelF B w0 0 (.only (jAu o g c g2 (.sl 1 tyo (ds0.set k (.val (η [k])))) aH (.sl size ty (cs.take (m*size))) aV)) Act.bare w F'/\aV []=jjb (η [k]) size 0 m/\aH []=η []/\(m*size=cs.length->jjb (η [k]) size 0 m=η [k]):=by
 obtain ⟨u,SA,Sd,SC,e1,a1,a2,a3,a4⟩:=jlQ (h.ob g) ho;obtain ⟨vs,T,S',bX,bZ,rfl⟩:=a2;obtain ⟨v,SA',Sk,SC',b1,rfl,b3,b4⟩:=jhd bZ hk
 have hv:η [k]=v:=by
  rw [a3];rcases qJ bX with ⟨_,rfl⟩|⟨gg,nn,cc,rfl,_,_,bU,_⟩
  ·simp at b1
  ·simp only [hdr,hk,aOK,bU k v b1,aMM]
 rw [hv];obtain ⟨S2,c1,c2,c3,c4⟩:=jwT hs b3 hm;have gB:=h.fr g;rw [e1] at gB;have aX:=gB.1;have bG:Rep w true (.sl 1 tyo (ds0.set k (.val v))) u (T++(SA'++[]++SC')):=⟨vs,T,_,bX,b4 _ _ ⟨rfl,rfl⟩,rfl⟩;have bL:=a4 (.sl 1 tyo (ds0.set k (.val v))) (λp=>hdr w p (.sl 1 tyo (ds0.set k (.val v))) u) _ rfl bG (λ_=>rfl)
 have hSk:Sk.Nodup:=by
  have:Sk.Sublist (SA++(T++(SA'++Sk++SC'))++SC):=by
   refine List.Sublist.trans ?_ (List.sublist_append_left _ _);refine List.Sublist.trans ?_ (List.sublist_append_right _ _);refine List.Sublist.trans ?_ (List.sublist_append_right _ _);refine List.Sublist.trans ?_ (List.sublist_append_left _ _);exact List.sublist_append_right _ _
  exact aX.sublist this
 have bB:(SA++(T++(SA'++[]++SC'))++SC).Sublist (SA++(T++(SA'++Sk++SC'))++SC):=by
  refine List.Sublist.append (List.Sublist.append (List.Sublist.refl _) (List.Sublist.append (List.Sublist.refl _) (List.Sublist.append (List.Sublist.append (List.Sublist.refl _) (List.nil_sublist _)) (List.Sublist.refl _)))) (List.Sublist.refl _)
 have gY:∀b∈SA++(T++(SA'++[]++SC'))++SC,b∉Sk:=by
  intro b hb hbk
  have p1:(SA++(T++(SA'++Sk++SC'))++SC).Perm (Sk++(SA++(T++(SA'++[]++SC'))++SC)):=by
   have:(SA++(T++(SA'++Sk++SC'))++SC)=(SA++(T++SA'))++(Sk++(SC'++SC)):=by simp
   rw [this];have:(SA++(T++(SA'++[]++SC'))++SC)=(SA++(T++SA'))++(SC'++SC):=by simp
   rw [this];exact (List.perm_append_comm_assoc _ _ _)
  have p2:=p1.nodup_iff.1 aX;exact (aMS.1 p2).2.2 b hbk b hb rfl
 have dC:∀b∈Sk,b∈F g:=λb hb=>by rw [e1];simp [hb]
 have r1:=h.setO (g:=g) bL ⟨aX.sublist bB,λb hb=>gB.2 b (bB.subset hb)⟩ (λg' cV b hb bA=>h.dj g' g cV b bA (by rw [e1];exact bB.subset hb))
 have aBL:ORel B w (.loose (.sl size ty (cs.take (m*size))) (λp=>hdr w p (.sl size ty (cs.take (m*size))) (jjb v size 0 m))) S2:=⟨rfl,_,c1,λ_=>rfl⟩
 have r2:=r1.setO (g:=g2) aBL ⟨c3 hSk,λb hb=>(h.fr g).2 b (dC b (c2 b hb))⟩ (λg' cV b hb=>by
  split
  ·exact λhh=>gY b hh (c2 b hb)
  ·rename_i xQ
   exact λhh=>h.dj g' g xQ b hh (dC b (c2 b hb)))
 exact ⟨_,_,_,r2,rfl,(a3 []).symm▸rfl,c4⟩
theorem jvB {f:FuncId} {args:List AV} {R:AV->(Nat->Ob)->Prop} (h:Inl P f args o λav o'=>∃g c k g2 m size ty tyo cs ds0 η,(av=.c (.hs g c [k] (η [k]) size 0 m)\/av=.c (.h g c [k] (η [k]))/\m*size=cs.length)/\(o' g).own c=some (.sl 1 tyo ds0,η)/\ds0[k]?=some (.sl size ty cs)/\o' g2=.none/\g2≠g/\0<size/\m*size<=cs.length/\
 ∀aV aH,aH []=η []->R (.c (.h g2 0 [] (aV []))) (jAu o' g c g2 (.sl 1 tyo (ds0.set k (.val (η [k])))) aH (.sl size ty (cs.take (m*size))) aV)):Inl P f args o R:=
 ⟨h.1,λB w F xs h1 h2=>(h.2 B w F xs h1 h2).mono λe w' ⟨v,av,o',F',k1,k2,k3,g,c,k,g2,m,size,ty,tyo,cs,ds0,η,e1,e2,e3,e4,e5,e6,e7,e8⟩=>by
  obtain ⟨aV,aH,F2,r1,r2,r3,r4⟩:=jxO k2 e2 e3 e4 e5 e6 e7;refine ⟨v,_,_,F2,k1,r1,?_,e8 aV aH r3⟩;rcases e1 with rfl|⟨rfl,e1⟩
  ·obtain ⟨k4,k5⟩:=k3
   have k4:=k4.resolve_right λh=>absurd h.1 (Nat.lt_irrefl 0)
   exact ⟨by rw [k4,r2],by rw [r2,<-k4];exact k5⟩
  ·obtain ⟨k4,k5⟩:=k3
   exact ⟨by rw [k4,r2,r4 e1],by rw [r2,r4 e1];exact k5⟩⟩
variable {s:St} {K:St->Prop} {β:Nat} {gd:Option (Nat×Bool)} {d:Option Nat}
theorem is_hp (g c q:Nat) (p:List Nat) (x:Value) (dd:D):Is s (.h g c (q::p) x) dd=jjh ((s.o g).own c) λd0 η=>D.get (q::p) d0=some dd/\η (q::p)=x/\dd.isSl=true:=by
 apply propext
 simp only [Is];cases (s.o g).own c with
 |none=>simp [jjh]
 |some z=>
  obtain ⟨d0,η⟩:=z;simp only [jjh,Option.some.injEq,Prod.mk.injEq];constructor
  ·rintro ⟨_,_,⟨rfl,rfl⟩,h1,h2,h3⟩;exact ⟨h2,h1,h3⟩
  ·rintro ⟨h1,h2,h3⟩;exact ⟨_,_,⟨rfl,rfl⟩,h2,h1,h3⟩
theorem jB3 (g c b:Nat) (ds:List D):Ptr s (.bp g c b) ds=obK (s.o g) b λ_ cs=>Ptr.go s g b ((cs.drop c).take ds.length) c ds:=by
 rw [<-jCj]
 apply propext
 simp only [Ptr];constructor
 ·rintro ⟨ty,cs,h1,_,rfl,h3⟩;exact ⟨ty,cs,h1,h3⟩
 ·rintro ⟨ty,cs,h1,h3⟩;exact ⟨ty,cs,h1,_,rfl,h3⟩
theorem go_nil_ (g b c:Nat):Ptr.go s g b [] c []=True:=by simp [Ptr.go]
theorem go_a_ (g b c:Nat) (x:A0) (l:List Cell) (e:D) (ds:List D):Ptr.go s g b (.a x::l) c (e::ds)=(IsP x e/\Ptr.go s g b l (c+1) ds):=(rfl)
theorem isP_v (x:Value):IsP (.v x) (.val x)=True:=eq_true (.inl rfl)
theorem jCu (e e':D):IsP (.ro e) e'=(e'=e):=(rfl)
theorem js9 (g c i:Nat) (p:List Nat) (η:jm) (e:D) (l:List D):jhk g c p η i (e::l)=e.toOwn g c (p++[i]) η::jhk g c p η (i+1) l:=(rfl)
def mkfK (s:St) (K:St->Prop) (d:Option Nat) (f:Nat):AV->Prop
 |.c a=>K (s.put d (.fn f [a]))
 |_=>False
theorem jCo (f:Nat) (a:A0):mkfK s K d f (.c a)=K (s.put d (.fn f [a])):=(rfl)
theorem jzA (f:Nat) (x:X):vv P β ⟨d,gd,.mkf f [x]⟩ s K=mkfK s K d f (s.ev x):=by
 cases hx:s.ev x with
 |c a=>
  refine jyX (os:=[]) (av:=.fn f [a]) rfl λrt st av' os'=>?_
  simp [Gen,jcn,hx]
 |_=>
  apply propext
  refine ⟨λh=>?_,λh=>h.elim⟩
  have h':∃rt,∀st,∃av os,Gen P s (β+d.getD 0) rt st (.mkf f [x]) av os/\K ((s.addO os).put d av):=h;obtain ⟨rt,h1⟩:=h';obtain ⟨av,os,⟨l,h2,_⟩,_⟩:=h1 ⟨0,λ_ _=>undef⟩
  simp [jcn,hx] at h2
def clrA (s:St) (K:St->Prop) (size:Nat) (zs:List D):AV->Prop
 |.c (.v (.slice none 0 0))=>K s
 |.c (.hs g c p hx sz lo n)=>sz=size/\0<n/\jjh ((s.o g).own c) λd0 η=>η p=hx/\jrF (D.get p d0) λdd=>dd.isSl=true/\dd.size=sz/\lo+n<=dd.len/\
  stH (jZ (List.replicate n zs).flatten&&jZ ((dd.cells.drop (lo*sz)).take (n*sz))) p (lo*sz) (n*sz) η λaH=>K (s.setO g ((s.o g).putOwn c (D.put p (lo*sz) (List.replicate n zs).flatten d0) aH))
 |_=>False
theorem jzI (size:Nat) (zs:List D) (x:X):vv P β ⟨none,gd,.clr size zs x⟩ s K=clrA s K size zs (s.ev x):=by
 apply propext
 show (none=none/\_)↔_;rw [eq_self,true_and];unfold clrA;split
 ·simp_all
 ·rename_i g c p hx sz lo n he
  simp only [he];cases ho:(s.o g).own c with
  |none=>simp [jjh]
  |some z=>
   obtain ⟨d0,η⟩:=z;simp only [jjh,Option.some.injEq,Prod.mk.injEq];constructor
   ·rintro ⟨a1,a2,_,_,dd,⟨rfl,rfl⟩,a3,a4,a5,a6,a7,a8⟩
    refine ⟨a1,a2,a3,?_⟩;rw [a4];exact ⟨a5,a6,a7,a8⟩
   ·rintro ⟨a1,a2,a3,a4⟩
    cases hg:D.get p d0 with
    |none=>rw [hg] at a4;exact a4.elim
    |some dd=>rw [hg] at a4;obtain ⟨a5,a6,a7,a8⟩:=a4;exact ⟨a1,a2,d0,η,dd,⟨rfl,rfl⟩,a3,hg,a5,a6,a7,a8⟩
 ·simp_all
theorem jAR (size:Nat) (zs:List D) (g c:Nat) (p:List Nat) (hx:Value) (sz lo n:Nat):clrA s K size zs (.c (.hs g c p hx sz lo n))=(sz=size/\0<n/\jjh ((s.o g).own c) λd0 η=>η p=hx/\jrF (D.get p d0) λdd=>dd.isSl=true/\dd.size=sz/\lo+n<=dd.len/\
 stH (jZ (List.replicate n zs).flatten&&jZ ((dd.cells.drop (lo*sz)).take (n*sz))) p (lo*sz) (n*sz) η λaH=>K (s.setO g ((s.o g).putOwn c (D.put p (lo*sz) (List.replicate n zs).flatten d0) aH))):=rfl
theorem jrN (x:En):(jh x).length=4:=rfl
theorem kn {sh:List (List En)} {k:Nat} {l:List En} (h:sh[k]?=some l):D.get [k] (ku sh)=some (ji l):=by
 have e:sh.flatMap (λes=>[ji es])=sh.map ji:=by clear h;induction sh<;>simp_all
 simp [ku,D.get,e,h,jb8]
end
attribute [go_sem] jzA jCo js9 is_hp jB3 go_nil_ go_a_ isP_v jCu jzI jAR
section
variable {P:Program} {s:St}
def jxl (s:St) (ds:List D) (d:D) (l:List A0):AV->Prop
 |.c a=>l.length=ds.length/\qM s (l++[a]) λcs _=>IsD cs (ds++[d])
 |_=>False
def jzV (s:St) (k:Nat) (ds:List D) (d:D) (b:AV):AV->Prop
 |.c (.bp g c bb)=>ldB (s.o g) g c bb k λl=>jxl s ds d l b
 |_=>False
theorem qm (n k m:Nat) (ds:List D) (d:D) (h:jzV s k ds d (s.t m) (s.t n)):jyu [.cell n true k,.t m] (.tup [(true,ds),(false,[d])]) s:=by
 unfold jzV at h;split at h
 ·rename_i g c bb he
  simp only [ldB] at h;split at h
  ·rename_i b ty cs ho
   obtain ⟨e1,e2,h⟩:=h;unfold jxl at h;split at h
   ·rename_i a ha
    obtain ⟨h1,h2⟩:=h;simp only [jyu,jis,ha,he];refine ⟨_,⟨ty,cs,by rw [ho,e1],e2,rfl⟩,.inl trivial,?_⟩
    refine ⟨⟨by simp,by simp [h1]⟩,?_⟩
    simpa [RT.flat] using h2
   ·exact h.elim
  ·exact h.elim
 ·exact h.elim
theorem jBU (ds:List D) (d:D) (l:List A0) (a:A0):jxl s ds d l (.c a)=(l.length=ds.length/\qM s (l++[a]) λcs _=>IsD cs (ds++[d])):=(rfl)
theorem jBT (k g c bb:Nat) (ds:List D) (d:D) (b:AV):jzV s k ds d b (.c (.bp g c bb))=ldB (s.o g) g c bb k λl=>jxl s ds d l b:=(rfl)
end
attribute [go_sem] jBU jBT
theorem jpN {l:List Rn} {k j:Nat} {r:Rn} (h:l[k]?=some r) (hj:j<8):(l.flatMap jc)[k*8+j]?=(jc r)[j]?:=by
 rw [jbB (enc:=jc) h,aOA (by rw [ji9 (enc:=jc) (size:=8) (λ_=>rfl) h];omega),ji9 (enc:=jc) (size:=8) (λ_=>rfl) h,aNR,aPA (by exact hj)]
theorem jf0 {l:List Rn} {k:Nat} {r:Rn} (h:l[k]?=some r):D.get [k*8+5] (jI l)=some (jv r.aLW.aLY):=by
 have:=jpN (j:=5) h (by decide)
 simp [jI,D.get,this,jc,ja,jb8]
theorem jW {l:List Rn} {k:Nat} {r:Rn} (h:l[k]?=some r):D.get [k*8+7] (jI l)=some (jC r.aLT):=by
 have:=jpN (j:=7) h (by decide)
 simp [jI,D.get,this,jc,ja,jb8]
theorem kj {l:List Rn} {k:Nat} {r:Rn} (h:l[k]?=some r):D.get [k*8+1+1+1+1+1] (jI l)=some (jv r.aLW.aLY):=jf0 h
theorem kz {l:List Rn} {k:Nat} {r:Rn} (h:l[k]?=some r):D.get [k*8+1+1+1+1+1+1+1] (jI l)=some (jC r.aLT):=jW h
theorem jpU {l:List Rn} {k:Nat} (v:Rn) (hk:k<l.length):D.put [] (k*8) [.val (.int .i64 v.id),.val (.int .i64 v.aLW.aMC),.val (.int .i64 v.aLW.aMG),.val (.int .i64 v.aLW.aMF),.val (.int .i64 v.aLW.aLT),jv v.aLW.aLY,.val (.int .i64 v.aLV),jC v.aLT] (jI l)=jI (l.set k v):=jsI v hk
theorem kU {y:Yd} {id:Int} (h:¬runAt y id<0):∃(k:Nat) (r:Rn),runAt y id=k/\y.aLX[k]?=some r/\r.id=id/\y.aLX.length<=8:=by
 unfold runAt at h⊢;split at h
 ·omega
 ·rename_i h8
  rw [if_neg h8];rcases jjK y.aLX id with ⟨k,x,h1,h2,_,h4⟩|⟨_,h2⟩
  ·exact ⟨k,x,h4,h1,h2,by omega⟩
  ·rw [h2] at h;omega
theorem jkJ {l:List Rn} {k:Nat} {x:Rn} (hx:l[k]?=some x):((l.flatMap jc).drop (k*8)).take 8=jc x:=qA (enc:=jc) (size:=8) (λ_=>rfl) hx (j:=0) (n:=8) (by decide)
theorem je9 {l:List Rn} {k:Nat} {x:Rn} (hx:l[k]?=some x):k*8+8<=(l.flatMap jc).length:=qG (enc:=jc) (size:=8) (λ_=>rfl) hx (j:=0) (n:=8) (by decide)
def jk9 (p:Pl) (t:Nat):Tk:=⟨if 0<(zQ p t).length then 1 else 2,((zQ p t).length:Int),0,0⟩
def zi (p:Pl) (k:Nat):List Tk:=(List.range k).map (jk9 p)
def jM (id:Int) (p:Pl):Rn:=⟨id,p,1,zi p p.aLT.toNat⟩
theorem jvg (p:Pl):zi p 0=[]:=rfl
theorem jvf (p:Pl) (k:Nat):zi p (k+1)=zi p k++[jk9 p k]:=by simp [zi,List.range_succ]
theorem jaO (p:Pl) (k:Nat):(zi p k).length=k:=by simp [zi]
theorem jfz (l:List Tk) (a b c d:Int):D.sl 4 tTk (l.flatMap jk++[.val (.int .i64 a),.val (.int .i64 b),.val (.int .i64 c),.val (.int .i64 d)])=jC (l++[⟨a,b,c,d⟩]):=by simp [jC,jk]
def jgD:C:=iS [iA 3 (.box 49 5 (.t 1)),iA 4 wAL,aO 5 false] (.seq (iS [aM 9 0,iA 10 (.call 68 [.t 9,oI 1,oI 9999]),aU 11 10,aM 12 11,iB 13 12 false (iT 5 3),iB 14 12 false (iK 112 [13]),iB 15 12 false (iQ .neq 3 14 0),iA 16 (iY 12 (oT) (.t 15))] (iD 16 (iS [iA 17 (wAU []),wAC 4 17,aO 5 false] .ret) .skip)) (iS [aM 18 0,aT 19 5 3,iA 20 (iK 168 [19]),iA 21 (wAU [(0,1,.t 18),(1,5,.t 20),(6,1,oI 1)]),iA 6 wAL,wAC 6 21] (.seq (iS [aN 7 0] (.blk 0 (.loop (.seq (iS [aM 22 7,aF 23 3 3,aL 24 23,aP 25 .lss 3 22 24] (iD 25 .skip (.exit 0))) (.seq (.blk 1 (iS [aT 28 5 3,aM 29 7,iA 30 (iK 169 [28,29]),aG 31 30,iA 32 (wAS [(0,1,oI 2),(1,1,.t 31)]),iA 8 wAN,wAB 8 32] (.seq (iS [aF 33 1 8,aL 34 33,aQ 35 .gtr 3 34 0] (iD 35 (.reg [aF 36 0 8,iC (.st 1 [none] (.t 36) (oI 1))]) .skip)) (.reg [aF 37 7 6,aL 38 37,aT 39 4 8,iA 40 (.bsl 46 4 1 [none,none,none,none] [(0,4,.t 39)]),iA 41 (.app 46 4 32 (.t 38) (.t 40)),aF 42 7 6,wAJ 42 41])))) (.reg [aM 26 7,aQ 27 .add 3 26 1,aM 7 27])))))) (iS [aT 43 8 6,wAC 4 43,aO 5 true] .ret))))
theorem jiI:fnC Tryz.prog Tryz.f114=some (jgD,[.cell 4 true 8,.t 5],44):=by kernel_rfl
def jgS:C:=iS [iA 3 (.box 49 5 (.t 1)),iA 4 wAL,aO 5 false] (.seq (iS [aM 9 0,iA 10 (.call 62 [.t 9,oI 1,oI 9999]),aU 11 10,aM 12 11,iB 13 12 false (iT 5 3),iB 14 12 false (iK 109 [13]),iB 15 12 false (iQ .neq 3 14 0),iA 16 (iY 12 (oT) (.t 15))] (iD 16 (iS [iA 17 (wAU []),wAC 4 17,aO 5 false] .ret) .skip)) (iS [aM 18 0,aT 19 5 3,iA 20 (iK 163 [19]),iA 21 (wAU [(0,1,.t 18),(1,5,.t 20),(6,1,oI 1)]),iA 6 wAL,wAC 6 21] (.seq (iS [aN 7 0] (.blk 0 (.loop (.seq (iS [aM 22 7,aF 23 3 3,aL 24 23,aP 25 .lss 3 22 24] (iD 25 .skip (.exit 0))) (.seq (.blk 1 (iS [aT 28 5 3,aM 29 7,iA 30 (iK 164 [28,29]),aG 31 30,iA 32 (wAS [(0,1,oI 1),(1,1,.t 31)]),iA 8 wAN,wAB 8 32] (.seq (iS [aF 33 1 8,aL 34 33,aQ 35 .eql 3 34 0] (iD 35 (.reg [aF 36 0 8,iC (.st 1 [none] (.t 36) (oI 2))]) .skip)) (.reg [aF 37 7 6,aL 38 37,aT 39 4 8,iA 40 (.bsl 46 4 1 [none,none,none,none] [(0,4,.t 39)]),iA 41 (.app 46 4 32 (.t 38) (.t 40)),aF 42 7 6,wAJ 42 41])))) (.reg [aM 26 7,aQ 27 .add 3 26 1,aM 7 27])))))) (iS [aT 43 8 6,wAC 4 43,aO 5 true] .ret))))
theorem jiX:fnC Tryz.prog Tryz.f110=some (jgS,[.cell 4 true 8,.t 5],44):=by kernel_rfl
theorem jmM (id:Int) (p:Pl) (hid:1<=id/\id<=9999) (hp:jr p=0):kg Tryz.prog 114 [.c (.val (.int .i64 id)),.agg (ja p)] (.tup [(true,jc (jM id p)),(false,[.val (.bool true)])]):=by
 refine pf_ jiI ?_;unfold jgD;obtain ⟨n,hn,d8,cC,dS,bV,aX,-⟩:=jcH hp;have hi:decide (1<=id/\id<=9999)=true:=decide_eq_true hid;have wX:(jr p !=0)=false:=by simp [hp]
 simp only [go_sem,ja];intro b3 b4;refine jx (jJ id 1 9999) λη=>?_
 simp only [go_sem,ja];simp only [go_sem,ja,hi];refine jx (vW p) λη=>?_
 simp only [go_sem,ja];simp only [go_sem,ja,wX];refine jx (jee p (by omega)) λbC=>?_
 simp only [go_sem,ja];intro b6;refine vo (λi:Nat×jm=>St.of [(3,Bx 300 b3),(4,Bx 400 b4),(6,Bx 600 b6),(7,Ni i.1)] [(300,Bi b3 _ (ja p)),(400,ZRn b4 tRn),(600,ja1 b6 tRn ⟨id,p,1,zi p i.1⟩ (bC 4) i.2)]) (λi=>i.1<=n) (λi=>n-i.1) (0,jcF) (jy [300,400,600] (by simp only [go_sem,ja,jc,jvg]<;>trivial)) ?_
 rintro ⟨k,η⟩ hk;dsimp only at hk;by_cases aB:k<n
 ·have aA:(k:Int)<p.aLT:=by omega
  have hw:=kX k;have cQ:=jvf p k;have gX:=jaO p k;generalize zi p k=M at*;have m1:M.length+1<=maxLen:=by unfold maxLen;omega
  have m2:(M.length+1)*32<=140737488355328:=by omega
  simp only [go_sem,ja,aA];refine jx (jci p k n hn cC dS) λη=>?_
  simp only [go_sem,ja];generalize hL:(zQ p k).length=L at*;intro b8;by_cases h0:0<L
  ·have eO:(0:Int)<(L:Int):=by omega
   have hT:jk9 p k=⟨1,(L:Int),0,0⟩:=by simp [jk9,hL,h0]
   rw [hT] at cQ;simp only [go_sem,ja,jk,jc,eO,m1,m2,jfz,hw];intro sR lT;exact ql (k+1,lT) (jy [300,400,600] (by simp only [go_sem,ja,jc,cQ]<;>trivial))
  ·have eO:¬(0:Int)<(L:Int):=by omega
   have hT:jk9 p k=⟨2,(L:Int),0,0⟩:=by simp [jk9,hL,h0]
   rw [hT] at cQ;simp only [go_sem,ja,jk,jc,eO,m1,m2,jfz,hw];intro sR lT;exact ql (k+1,lT) (jy [300,400,600] (by simp only [go_sem,ja,jc,cQ]<;>trivial))
 have aA:¬(k:Int)<p.aLT:=by omega
 obtain rfl:k=n:=by omega
 have hr:jM id p=⟨id,p,1,zi p k⟩:=by rw [jM,hn,aMQ]
 rw [hr];generalize zi p k=M at*;simp only [go_sem,ja,jc,aA];refine qm _ _ _ _ _ ?_;simp only [go_sem,ja,jc]
theorem jmX (id:Int) (p:Pl) (hid:1<=id/\id<=9999) (hp:jr p=0):kg Tryz.prog 110 [.c (.val (.int .i64 id)),.agg (ja p)] (.tup [(true,jc (jM id p)),(false,[.val (.bool true)])]):=by
 refine pf_ jiX ?_;unfold jgS;obtain ⟨n,hn,d8,cC,dS,bV,aX,-⟩:=jcH hp;have hi:decide (1<=id/\id<=9999)=true:=decide_eq_true hid;have wX:(jr p !=0)=false:=by simp [hp]
 simp only [go_sem,ja];intro b3 b4;refine jx (jE id 1 9999) λη=>?_
 simp only [go_sem,ja];simp only [go_sem,ja,hi];refine jx (qp p (by omega)) λη=>?_
 simp only [go_sem,ja];simp only [go_sem,ja,wX];refine jx (jcW p (by omega)) λbC=>?_
 simp only [go_sem,ja];intro b6;refine vo (λi:Nat×jm=>St.of [(3,Bx 300 b3),(4,Bx 400 b4),(6,Bx 600 b6),(7,Ni i.1)] [(300,Bi b3 _ (ja p)),(400,ZRn b4 tRn),(600,ja1 b6 tRn ⟨id,p,1,zi p i.1⟩ (bC 4) i.2)]) (λi=>i.1<=n) (λi=>n-i.1) (0,jcF) (jy [300,400,600] (by simp only [go_sem,ja,jc,jvg]<;>trivial)) ?_
 rintro ⟨k,η⟩ hk;dsimp only at hk;by_cases aB:k<n
 ·have aA:(k:Int)<p.aLT:=by omega
  have hw:=kX k;have cQ:=jvf p k;have gX:=jaO p k;generalize zi p k=M at*;have m1:M.length+1<=maxLen:=by unfold maxLen;omega
  have m2:(M.length+1)*32<=140737488355328:=by omega
  simp only [go_sem,ja,aA];refine jx (jcY p k hp) λη=>?_
  simp only [go_sem,ja];generalize hL:(zQ p k).length=L at*;intro b8;cases h0:((L:Int)==0)
  ·have eO:0<L:=by have:¬(L:Int)=0:=by simpa using h0
                   omega
   have hT:jk9 p k=⟨1,(L:Int),0,0⟩:=by simp [jk9,hL,eO]
   rw [hT] at cQ;simp only [go_sem,ja,jk,jc,h0,m1,m2,jfz,hw];intro sR lT;exact ql (k+1,lT) (jy [300,400,600] (by simp only [go_sem,ja,jc,cQ]<;>trivial))
  ·have eO:¬0<L:=by have:(L:Int)=0:=by simpa using h0
                    omega
   have hT:jk9 p k=⟨2,(L:Int),0,0⟩:=by simp [jk9,hL,eO]
   rw [hT] at cQ;simp only [go_sem,ja,jk,jc,h0,m1,m2,jfz,hw];intro sR lT;exact ql (k+1,lT) (jy [300,400,600] (by simp only [go_sem,ja,jc,cQ]<;>trivial))
 have aA:¬(k:Int)<p.aLT:=by omega
 obtain rfl:k=n:=by omega
 have hr:jM id p=⟨id,p,1,zi p k⟩:=by rw [jM,hn,aMQ]
 rw [hr];generalize zi p k=M at*;simp only [go_sem,ja,jc,aA];refine qm _ _ _ _ _ ?_;simp only [go_sem,ja,jc]
open Go.RowKit Go.Sort Go.Lib
theorem jdD {P:Program} (w:World) (dT sT ty elem:TypeId) (k b o dLen dCap:Nat) (a:Addr) (sLen sCap:Nat) (cs:List Value)
 (hu:P.underlying dT=some (.slice elem)) (hs:(P.info? elem).map (·.size)=some k) (hn:cs.length=Nat.min sLen dLen*k)
 (lF:∀j v,cs[j]?=some v->w.cell? (a.add j)=some v) (hc:∀j,j<cs.length->(w.cell? ⟨b,o+j,none⟩).isSome=true) (hf:∀j,j<cs.length->w.frozen? ⟨b,o+j,none⟩=false) (h1:∀v∈cs,v.oneCell'=true):
 (Builtin.copy_ #[dT,sT] ty #[.slice (some ⟨b,o,none⟩) dLen dCap,.slice (some a) sLen sCap]).run P w=.ok (goInt (Nat.min sLen dLen)) (w.setCells b o cs):=by
 have hl:=run_loadCells_list (P:=P) w a cs lF;have aJ:=run_storeCells_cells (P:=P) b o cs 0 w (by simpa using hc) (by simpa using hf) h1
 cases hq:P.info? elem with
 |none=>simp [hq] at hs
 |some i=>
  have hi:i.size=k:=by simpa [hq] using hs
  simp [Builtin.copy_,run_underlying hu,Builtin.lenOf,Builtin.firstCells,sizeOf,typeInfo,hq,hi,<-hn,hl,aJ]
abbrev jAz:FuncId:=176
abbrev tEs:TypeId:=35
set_option maxRecDepth 100000 in
theorem jvx (b n c i vb vc:Nat) (cs vs:List Value) (w:World) (hi:i<n) (bY:n+1<=c) (xZ:c<=9223372036854775807) (pK:vb≠b)
 (dG:cs.length=n*4) (bN:vs.length=4)
 (fF:∀j v,cs[j]?=some v->w.cell? ⟨b,j,none⟩=some v) (gT:∀j,j<(n+1)*4->(w.cell? ⟨b,j,none⟩).isSome=true) (rF:∀j,j<(n+1)*4->w.frozen? ⟨b,j,none⟩=false)
 (mH:∀j v,vs[j]?=some v->w.cell? ⟨vb,j,none⟩=some v) (yL:∀v∈cs,v.oneCell'=true) (h1v:∀v∈vs,v.oneCell'=true)
 (tA tB:TypeId) (kA kB:Nat) (hsa:w.shape? vb=some (tA,kA)) (hsb:w.shape? b=some (tB,kB)) (hkB:kB≠0) (uY:w.frozen? ⟨vb,0,none⟩=false) (xS:w.frozen? ⟨vb,kA,none⟩=false):
 Calls Tryz.prog jAz #[.slice (some ⟨b,0,none⟩) n c,.int .i64 i,.slice (some ⟨vb,0,none⟩) 1 vc] w λe w'=>
  e=.returned (.slice (some ⟨b,0,none⟩) (n+1) c)/\w'=(w.drew.setCells b ((i+1)*4) (cs.drop (i*4))).setCells b (i*4) vs:=by
 have wF:¬((1:Int)=0):=by omega
 have yP:¬((i:Int)=(n:Int)):=by omega
 have hov:∀lb cb,(callFunc 196 #[.slice (some ⟨vb,0,none⟩) 1 vc,.slice (some ⟨b,(i+1)*4,none⟩) lb cb]).run Tryz.prog w=.ok (.value (.bool false)) w:=λlb cb=>by
  rw [run_callFunc_extern Tryz.func196 (by kernel_rfl) (by kernel_rfl) (by kernel_rfl) (e:=Extern.SlicesOverlaps.overlaps #[tEs,tEs] #[4]) (by kernel_rfl),
   Lib.run_overlaps_apart w tEs 4 tEn slEn.1 4 Tryz.sizeOf44 ⟨vb,0,none⟩ ⟨b,(i+1)*4,none⟩ 1 vc lb cb pK tA tB kA kB hsa hsb hkB uY xS]
  rfl
 have hu:Tryz.prog.underlying tEs=some (.slice tEn):=slEn.1;have mixed:Tryz.prog.follows .mixedOrders=true:=by kernel_rfl
 have t105:=Tryz.underlying35;have a105:=Tryz.isAgg35;have z105:=Tryz.sizeOf35;have u3:=Tryz.underlying3;have a3:=Tryz.isAgg3;have z3:=Tryz.sizeOf3;have u4:=Tryz.underlying4;have z107:=Tryz.sizeOf44;have fN:(cs.drop (i*4)).length=(n-i)*4:=by rw [aND,dG];omega
 have eL:IntKind.i64.wrap ((i:Int)+1)=(i:Int)+1:=by rw [IntKind.wrap_i64];omega
 have lV:IntKind.i64.wrap ((n:Int)+1)=(n:Int)+1:=by rw [IntKind.wrap_i64];omega
 have aW:(0:Int)<=(i:Int)+1:=by omega
 have sM:(0:Int)<=(n:Int)+1:=by omega
 have dC:i<=n:=by omega
 have htn:((i:Int)+1).toNat=i+1:=by omega
 have aHF:((n:Int)+1).toNat=n+1:=by omega
 have bM:¬(c=i+1):=by omega
 have y4:(i:Int)<=(n:Int)+1:=by omega
 have hb4:¬(c=i):=by omega
 have g9:¬((n:Int)+1>(c:Int)):=by omega
 have xY:∀ty dc sc,(Builtin.copy_ #[tEs,tEs] ty #[.slice (some ⟨b,(i+1)*4,none⟩) (n-i) dc,.slice (some ⟨b,i*4,none⟩) (n+1-i) sc]).run Tryz.prog w.drew=.ok (goInt (Nat.min (n+1-i) (n-i))) (w.drew.setCells b ((i+1)*4) (cs.drop (i*4))):=λty dc sc=>
  jdD w.drew _ _ ty tEn 4 b ((i+1)*4) (n-i) dc ⟨b,i*4,none⟩ (n+1-i) sc (cs.drop (i*4)) hu jDn (by rw [fN];congr 1;simp only [Nat.min_def];split<;>omega)
   (λj v hj=>by rw [Addr.add_lit];exact fF (i*4+j) v (by rwa [aOF] at hj))
   (λj hj=>gT _ (by omega)) (λj hj=>rF _ (by omega)) (λv hv=>yL v (aPK hv))
 obtain ⟨W1,lO⟩:∃W1,W1=w.drew.setCells b ((i+1)*4) (cs.drop (i*4)):=⟨_,rfl⟩
 have aBC:∀k,k<(n+1)*4->(W1.cell? ⟨b,k,none⟩).isSome=true:=λk hk=>by
  rw [lO];exact isSome_setCells b (cs.drop (i*4)) ((i+1)*4) w.drew (λj hj=>gT _ (by omega)) k (gT k hk)
 have aCR:∀(W:World),(∀x,W.cell? x=W1.cell? x)->(∀x,W.frozen? x=W1.frozen? x)->∀ty dc,(Builtin.copy_ #[tEs,tEs] ty #[.slice (some ⟨b,i*4,none⟩) (n+1-i) dc,.slice (some ⟨vb,0,none⟩) 1 vc]).run Tryz.prog W=.ok (goInt (Nat.min 1 (n+1-i))) (W.setCells b (i*4) vs):=λW sN yB ty dc=>
  jdD W _ _ ty tEn 4 b (i*4) (n+1-i) dc ⟨vb,0,none⟩ 1 vc vs hu jDn (by rw [bN];simp only [Nat.min_def];split<;>omega)
   (λj v hj=>by
    rw [Addr.add_lit,aOK,sN,lO,World.cell?_setCells_out b _ _ _ _ (λh _=>absurd h pK)]
    exact mH j v hj)
   (λj hj=>by rw [sN];exact aBC _ (by omega)) (λj hj=>by rw [yB,lO,World.frozen?_setCells];exact rF _ (by omega)) h1v
 rw [<-lO] at xY
 go_enter Tryz.func176,Tryz.ntmps176
 go_wp2_with (simp only [hov])
 go_region_law_o (refine step_copy_runI rfl _ _ tEs tEs rfl _ _ (by simp [Act.eval,Act.put]) (by simp [Act.eval,Act.put]) (xY _ _ _) ?_)
 go_wp2_with (at_builtin;refine wpList_copy_runI _ rfl _ _ tEs tEs rfl _ _ rfl rfl (aCR _ (λ_=>rfl) (λ_=>rfl) _ _) ?_)
 go_ret
 first|exact ⟨rfl,rfl⟩|exact ⟨rfl,by rw [lO]⟩
set_option maxRecDepth 100000 in
theorem jxK (b n c i vb vc:Nat) (cs vs:List Value) (w:World) (hi:i<n) (mL:n<=c) (bY:c<n+1) (l8:(n+1)*32<=140737488355328)
 (dG:cs.length=n*4) (bN:vs.length=4)
 (fF:∀j v,cs[j]?=some v->w.cell? ⟨b,j,none⟩=some v) (mH:∀j v,vs[j]?=some v->w.cell? ⟨vb,j,none⟩=some v) (yL:∀v∈cs,v.oneCell'=true) (h1v:∀v∈vs,v.oneCell'=true):
 Calls Tryz.prog jAz #[.slice (some ⟨b,0,none⟩) n c,.int .i64 i,.slice (some ⟨vb,0,none⟩) 1 vc] w λe w'=>∃(G:Nat) (ROW:Array Value),n+1<=G/\G<=maxLen/\ROW.size=G*4/\(∀j,j<i*4->ROW[j]?=cs[j]?)/\
  e=.returned (.slice (some ⟨w.heap.size,0,none⟩) (n+1) G)/\
  w'=(((w.alloc (.cells ROW tEn)).drew.setCells w.heap.size (i*4) vs).drew).setCells w.heap.size ((i+1)*4) (cs.drop (i*4)):=by
 have hu:Tryz.prog.underlying tEs=some (.slice tEn):=slEn.1;have mixed:Tryz.prog.follows .mixedOrders=true:=by kernel_rfl
 have t105:=Tryz.underlying35;have a105:=Tryz.isAgg35;have z105:=Tryz.sizeOf35;have u3:=Tryz.underlying3;have a3:=Tryz.isAgg3;have z3:=Tryz.sizeOf3;have u4:=Tryz.underlying4;have z107:=Tryz.sizeOf44;obtain ⟨i0,zv,sI,fU,n4,mW,wD⟩:=slEn.info;have wF:¬((1:Int)=0):=by omega
 have yP:¬((i:Int)=(n:Int)):=by omega
 have hz3:(c:Int)<(n:Int)+1:=by omega
 have hbw:b<w.heap.size:=block_lt_of_cell (fF 0 _ (aMK (by omega)))
 have hvw:vb<w.heap.size:=block_lt_of_cell (mH 0 _ (aMK (by omega)))
 have yY:(n:Int)+1-(i:Int)=((n+1-i:Nat):Int):=by omega
 have xL:i+(n+1-i)=n+1:=by omega
 have oK:(Builtin.firstCells i0.size i (.slice (some ⟨b,0,none⟩) i c)).run Tryz.prog w.drew=.ok (cs.take (i*4)).toArray w.drew:=by
  rw [mW]
  exact run_firstCells_some (w:=w.drew) 4 i ⟨b,0,none⟩ i c (cs.take (i*4)) (by rw [aMP];omega) (λj v hj=>by
   rw [Addr.add_lit,aOK];rw [aOG] at hj;split at hj
   ·exact fF j v hj
   ·cases hj)
 have gV:∀ty,(Builtin.append_ #[tEs,3] ty #[.slice (some ⟨b,0,none⟩) i c,.int .i64 ((n:Int)+1-(i:Int))]).run Tryz.prog w=
  .ok (.slice (some ⟨w.heap.size,0,none⟩) (n+1) (grownCap w (n+1) c tEn)) (w.drew.alloc (.cells ((cs.take (i*4)).toArray++Builtin.zeroCells zv.cells (n+1-i)++Builtin.zeroCells zv.cells (grownCap w (n+1) c tEn-(n+1))) tEn)):=λty=>by
  have h:=Lib.run_append_grow_zeros w tEs 3 ty tEn i0 _ .i64 .i64 hu u3 sI fU (some ⟨b,0,none⟩) i c (cs.take (i*4)) oK (n+1-i) (by omega) (by omega) (by omega) (by omega) (by rw [wD];omega) (by rw [wD,xL];exact growslice_fits bY l8)
  rw [xL] at h;rw [yY];exact h
 obtain ⟨G,hG⟩:∃G,G=grownCap w (n+1) c tEn:=⟨_,rfl⟩;obtain ⟨ROW,rL⟩:∃ROW:Array Value,ROW=(cs.take (i*4)).toArray++Builtin.zeroCells zv.cells (n+1-i)++Builtin.zeroCells zv.cells (G-(n+1)):=⟨_,rfl⟩;rw [<-hG] at gV;rw [<-rL] at gV;have nZ:zv.cells.size=4:=by rw [n4];rfl
 have hGn:n+1<=G:=by rw [hG];exact grownCap_ge w _ _ _
 have hGm:G<=maxLen:=by rw [hG];exact grownCap_le_maxLen w (n+1) c tEn (by unfold maxLen;omega)
 have hRs:ROW.size=G*4:=by
  rw [rL];simp [Builtin.zeroCells,nZ];omega
 have hRt:∀j,j<i*4->ROW[j]?=cs[j]?:=λj hj=>by
  rw [rL,Array.append_assoc,Array.getElem?_append_left (by simp;omega)]
  simp [aOG,hj]
 have hRl:(n+1)*4<=ROW.size:=by rw [hRs];omega
 obtain ⟨W1,lO⟩:∃W1,W1=w.drew.alloc (.cells ROW tEn):=⟨_,rfl⟩;rw [<-lO] at gV
 have hN:∀j,j<(n+1)*4->(W1.cell? ⟨w.heap.size,j,none⟩).isSome=true:=λj hj=>by
  rw [lO,World.cell?_alloc_at (w:=w.drew) ROW _ w.heap.size j rfl,Array.getElem?_eq_getElem (by omega)];rfl
 have hNf:∀j,W1.frozen? ⟨w.heap.size,j,none⟩=false:=λj=>by rw [lO];exact World.frozen?_alloc_at (w:=w.drew) ROW _ w.heap.size j rfl
 have hOb:∀j v,w.cell? ⟨b,j,none⟩=some v->W1.cell? ⟨b,j,none⟩=some v:=λj v h=>by rw [lO,World.cell?_alloc_past (w:=w.drew) _ b j hbw];exact h
 have hOv:∀j v,w.cell? ⟨vb,j,none⟩=some v->W1.cell? ⟨vb,j,none⟩=some v:=λj v h=>by rw [lO,World.cell?_alloc_past (w:=w.drew) _ vb j hvw];exact h
 have aCQ:∀(W:World),(∀x,W.cell? x=W1.cell? x)->(∀x,W.frozen? x=W1.frozen? x)->∀ty dc,(Builtin.copy_ #[tEs,tEs] ty #[.slice (some ⟨w.heap.size,i*4,none⟩) (n+1-i) dc,.slice (some ⟨vb,0,none⟩) 1 vc]).run Tryz.prog W=.ok (goInt (Nat.min 1 (n+1-i))) (W.setCells w.heap.size (i*4) vs):=λW sN yB ty dc=>
  jdD W _ _ ty tEn 4 w.heap.size (i*4) (n+1-i) dc ⟨vb,0,none⟩ 1 vc vs hu jDn (by rw [bN];simp only [Nat.min_def];split<;>omega)
   (λj v hj=>by rw [Addr.add_lit,aOK,sN];exact hOv _ v (mH j v hj))
   (λj hj=>by rw [sN];exact hN _ (by omega)) (λj hj=>by rw [yB];exact hNf _) h1v
 have aJV:G<=9223372036854775807:=by
  unfold maxLen at hGm;omega
 have hGi:¬(G=i):=by omega
 have aJU:¬(G=i+1):=by omega
 have hci:¬(c=i):=by omega
 have hbN:b≠w.heap.size:=by omega
 have fN:(cs.drop (i*4)).length=(n-i)*4:=by rw [aND,dG];omega
 have xX:∀(W:World),(∀x,W.cell? x=(W1.setCells w.heap.size (i*4) vs).cell? x)->(∀x,W.frozen? x=(W1.setCells w.heap.size (i*4) vs).frozen? x)->∀ty dc sc,(Builtin.copy_ #[tEs,tEs] ty #[.slice (some ⟨w.heap.size,(i+1)*4,none⟩) (n-i) dc,.slice (some ⟨b,i*4,none⟩) (n-i) sc]).run Tryz.prog W=.ok (goInt (Nat.min (n-i) (n-i))) (W.setCells w.heap.size ((i+1)*4) (cs.drop (i*4))):=λW sN yB ty dc sc=>
  jdD W _ _ ty tEn 4 w.heap.size ((i+1)*4) (n-i) dc ⟨b,i*4,none⟩ (n-i) sc (cs.drop (i*4)) hu jDn (by rw [fN];congr 1;simp only [Nat.min_def];split<;>omega)
   (λj v hj=>by
    rw [Addr.add_lit,sN,World.cell?_setCells_out _ _ _ _ _ (λh _=>absurd h hbN)]
    exact hOb _ v (fF (i*4+j) v (by rwa [aOF] at hj)))
   (λj hj=>by rw [sN];exact isSome_setCells w.heap.size vs (i*4) W1 (λt ht=>hN _ (by omega)) _ (hN _ (by omega)))
   (λj hj=>by rw [yB,World.frozen?_setCells];exact hNf _) (λv hv=>yL v (aPK hv))
 subst lO;have hE1:∀x,((w.alloc (.cells ROW tEn)).drew).cell? x=(w.drew.alloc (.cells ROW tEn)).cell? x:=λx=>rfl
 have hE2:∀x,((w.alloc (.cells ROW tEn)).drew).frozen? x=(w.drew.alloc (.cells ROW tEn)).frozen? x:=λx=>rfl
 have i7:∀x,(((w.alloc (.cells ROW tEn)).drew.setCells w.heap.size (i*4) vs).drew).cell? x=((w.drew.alloc (.cells ROW tEn)).setCells w.heap.size (i*4) vs).cell? x:=λx=>rfl
 have y8:∀x,(((w.alloc (.cells ROW tEn)).drew.setCells w.heap.size (i*4) vs).drew).frozen? x=((w.drew.alloc (.cells ROW tEn)).setCells w.heap.size (i*4) vs).frozen? x:=λx=>rfl
 have eL:IntKind.i64.wrap ((i:Int)+1)=(i:Int)+1:=by rw [IntKind.wrap_i64];omega
 have lV:IntKind.i64.wrap ((n:Int)+1)=(n:Int)+1:=by rw [IntKind.wrap_i64];omega
 have gF:IntKind.i64.wrap ((n:Int)+1-(i:Int))=(n:Int)+1-(i:Int):=by rw [IntKind.wrap_i64];omega
 have aW:(0:Int)<=(i:Int)+1:=by omega
 have dC:i<=n:=by omega
 have htn:((i:Int)+1).toNat=i+1:=by omega
 have y4:(i:Int)<=(n:Int):=by omega
 clear yY xL oK rL hG hRl
 go_enter Tryz.func176,Tryz.ntmps176
 go_wp2_with (first
  |(at_builtin;refine Lib.wpList_append_run _ rfl _ _ _ _ rfl _ _ rfl rfl _ _ (gV _) ?_)
  |(at_builtin;refine wpList_copy_runI _ rfl _ _ tEs tEs rfl _ _ rfl rfl (aCQ _ hE1 hE2 _ _) ?_)
  |(at_builtin;refine wpList_copy_runI _ rfl _ _ tEs tEs rfl _ _ rfl rfl (xX _ (λ_=>rfl) (λ_=>rfl) _ _ _) ?_))
 go_region_law_o (refine step_copy_runI rfl _ _ tEs tEs rfl (.slice (some ⟨w.heap.size,(i+1)*4,none⟩) (n-i) (G-(i+1))) (.slice (some ⟨b,i*4,none⟩) (n-i) (c-i)) (by simp [Act.eval,Act.put]) (by simp [Act.eval,Act.put]) (xX _ i7 y8 3 (G-(i+1)) (c-i)) ?_)
 go_wp2
 go_ret
 exact ⟨G,ROW,hGn,hGm,hRs,hRt,rfl,rfl⟩
set_option maxRecDepth 100000 in
theorem jAq (A:Option Addr) (n c vb vc:Nat) (w:World) (v':Value) (w':World) (mL:n<=c) (xZ:c<=9223372036854775807) (hA:A=none->c=0) (mV:∀a,A=some a->∃b,a=⟨b,0,none⟩)
 (aS:(Builtin.append_ #[tEs,tEs] tEs #[.slice A n c,.slice (some ⟨vb,0,none⟩) 1 vc]).run Tryz.prog w=.ok v' w'):
 Calls Tryz.prog jAz #[.slice A n c,.int .i64 n,.slice (some ⟨vb,0,none⟩) 1 vc] w λe w1=>e=.returned v'/\w1=w':=by
 have mixed:Tryz.prog.follows .mixedOrders=true:=by kernel_rfl
 have t105:=Tryz.underlying35;have a105:=Tryz.isAgg35;have z105:=Tryz.sizeOf35;have u3:=Tryz.underlying3;have a3:=Tryz.isAgg3;have z3:=Tryz.sizeOf3;have u4:=Tryz.underlying4;have z107:=Tryz.sizeOf44;have wF:¬((1:Int)=0):=by omega
 go_enter Tryz.func176,Tryz.ntmps176
 cases A with
 |none=>
  have h0:=hA rfl;subst h0;obtain rfl:n=0:=by omega
  go_wp2_with (at_builtin;refine Lib.wpList_append_run _ rfl _ _ _ _ rfl _ _ rfl rfl _ _ aS ?_)
  go_ret
  exact ⟨rfl,rfl⟩
 |some a=>
  obtain ⟨b,rfl⟩:=mV a rfl
  go_wp2_with (at_builtin;refine Lib.wpList_append_run _ rfl _ _ _ _ rfl _ _ rfl rfl _ _ aS ?_)
  all_goals (go_ret;exact ⟨rfl,rfl⟩)
def jlY (l:List En) (i:Nat) (e:En):List En:=l.take i++e::l.drop i
def jK (l:List En):List Value:=l.flatMap λe=>[.int .i64 e.aMC,.int .i64 e.seq,.int .i64 e.run,.int .i64 e.aMA]
theorem zG (l:List En):(jK l).length=l.length*4:=by
 induction l with
 |nil=>rfl
 |cons a l ih=>simp only [jK,aNL,aMR] at ih⊢;simp [ih];omega
theorem jml {w:World} {own:Bool}:∀{l:List En} {vs:List Value} {S:List Nat},RepL w own (l.flatMap jh) vs S->vs=jK l/\S=[]
 |[],_,_,h=>by obtain ⟨rfl,rfl⟩:=h;exact ⟨rfl,rfl⟩
 |e::l,vs,S,h=>by
  rw [aNL] at h;obtain ⟨v1,v2,S1,S2,rfl,rfl,h1,h2⟩:=RepL.append_inv _ h;obtain ⟨rfl,rfl⟩:=jf9 h1;obtain ⟨rfl,rfl⟩:=jml h2;exact ⟨rfl,rfl⟩
theorem jpD (w:World) (own:Bool):∀(l:List En),RepL w own (l.flatMap jh) (jK l) []
 |[]=>⟨rfl,rfl⟩
 |e::l=>by
  have:=RepL.append_ _ (jx4 w own e) (jpD w own l);simpa [jK] using this
theorem jbv (l:List En):∀v∈jK l,v.oneCell'=true:=by
 intro v hv;obtain ⟨e,_,h⟩:=aPS.1 hv;simp at h;rcases h with rfl|rfl|rfl|rfl<;>rfl
theorem jpE (l:List En) (i:Nat) (hi:i<=l.length):(jK l).take (i*4)=jK (l.take i)/\(jK l).drop (i*4)=jK (l.drop i):=by
 have e1:jK l=jK (l.take i)++jK (l.drop i):=by rw [jK,jK,jK,<-aOE,aNW]
 have h1:(jK (l.take i)).length=i*4:=by rw [zG,aMP,aNZ hi]
 rw [e1];exact ⟨List.take_left' h1,List.drop_left' h1⟩
theorem jsg (l:List En) (i:Nat) (e:En):jK (jlY l i e)=jK (l.take i)++(jK [e]++jK (l.drop i)):=by
 simp [jlY,jK]
theorem jmz {w:World} {b:Nat} {cur:Array Value} {ty:TypeId} (h:w.heap[b]?=some (.cells cur ty (0,0))):w.shape? b=some (ty,cur.size)/\∀j,w.frozen? ⟨b,j,none⟩=false:=by
 refine ⟨by simp [World.shape?,h],λj=>by simp [World.frozen?,h]⟩
theorem jnz {w:World} {b:Nat} {cur:Array Value} {ty:TypeId} (h:w.heap[b]?=some (.cells cur ty (0,0))) (j:Nat):w.cell? ⟨b,j,none⟩=cur[j]?:=by simp [World.cell?,h]
theorem jmr {α:Type} {us cs:List α} {k:Nat} (h:us.take k=cs) {j:Nat} {v:α} (hj:cs[j]?=some v):us[j]?=some v:=by
 rw [<-h,aOG] at hj;split at hj
 ·exact hj
 ·cases hj
theorem jyH {w:World} {b n cap:Nat} {us:List Value} {l:List En} (hb:w.heap[b]?=some (.cells us.toArray tEn (0,0))) (hn:n=l.length) (hc:n<=cap) (hm:cap<=maxLen) (hs:us.length=cap*4) (ht:us.take (n*4)=jK l):Rep w true (ji l) (.slice (some ⟨b,0,none⟩) n cap) [b]:=by
 subst hn;exact ⟨jK l,[b],[],⟨l.length,⟨zG l,.inr ⟨b,cap,us.toArray,rfl,aNE _,hb,hc,hm,by simpa using hs,by simpa using ht⟩⟩,rfl⟩,jpD _ _ _,by simp⟩
theorem jAp (l:List En) (i:Nat) (e:En) (hi:i<=l.length) (hl:l.length<=4000000) {B:Nat} {w:World} {x x2:Value} {S1 S2:List Nat} (r1:Rep w true (ji l) x S1) (r2:Rep w true (ji [e]) x2 S2) (hF:Fresh B (S1++S2)) (hB:B<=w.heap.size):
 Calls Tryz.prog jAz #[x,.int .i64 i,x2] w λen w'=>∃v S,en=.returned v/\Rep w' true (ji (jlY l i e)) v S/\Fresh B S/\Only S1 w w'/\∀s∈S,s∈S1\/w.heap.size<=s:=by
 have r1':=r1;obtain ⟨vs1,T1,o1,h1,rfl⟩:=Rep.own (enc:=jh) jrN (by decide) r1
 obtain ⟨rfl,rfl⟩:=jml h1;obtain ⟨vs2,T2,o2,h2,rfl⟩:=Rep.own (enc:=jh) jrN (by decide) r2
 obtain ⟨rfl,rfl⟩:=jml h2;rcases o2.2 with ⟨_,hz⟩|⟨vb,vc,cv,rfl,_,hbv,gO,s7,hv3,hv4⟩
 ·simp at hz
 simp only [aNG,aOM,aOK] at hv4⊢gO
 have mH:∀j v,(jK [e])[j]?=some v->w.cell? ⟨vb,j,none⟩=some v:=λj v hj=>by
  rw [jnz hbv,<-Array.getElem?_toList];exact jmr hv4 hj
 rcases Nat.lt_or_ge i l.length with aB|sJ
 ·rcases o1.2 with ⟨_,hz⟩|⟨b,c,cu,rfl,_,rI,cW,dI,y3,eX⟩
  ·omega
  have fF:∀j v,(jK l)[j]?=some v->w.cell? ⟨b,j,none⟩=some v:=λj v hj=>by
   rw [jnz rI,<-Array.getElem?_toList];exact jmr eX hj
  have hbB:B<=b:=hF.2 b (by simp [blk])
  have aR:vb≠b:=λh=>by subst h;have:=hF.1;simp [blk] at this
  obtain ⟨t1,t2⟩:=jpE l i hi;have fS:=jsg l i e;have aD:(jlY l i e).length=l.length+1:=by simp [jlY];omega
  have hl4:=zG l;have hd4:(jK (l.drop i)).length=(l.length-i)*4:=by rw [zG,aND]
  have ht4:(jK (l.take i)).length=i*4:=by rw [zG,aMP,aNZ hi]
  have he4:(jK [e]).length=4:=rfl;by_cases bY:l.length+1<=c
  ·obtain ⟨sv1,sv2⟩:=jmz hbv
   obtain ⟨sb1,sb2⟩:=jmz rI;have tW:cu.toList.length=c*4:=by simpa using y3
   refine (jvx b l.length c i vb vc (jK l) (jK [e]) w aB bY (by unfold maxLen at dI;omega) aR (zG l) rfl fF (λj hj=>by rw [jnz rI,Array.getElem?_eq_getElem (by omega)];rfl) (λj _=>sb2 j) mH (jbv l) (jbv [e]) _ _ _ _ sv1 sb1 (by omega) (sv2 0) (sv2 _)).mono ?_
   rintro en w' ⟨rfl,rfl⟩;have hcu:w.drew.heap[b]?=some (.cells cu.toList.toArray tEn (0,0)):=by rw [Array.toArray_toList];exact rI
   obtain ⟨q1,q2⟩:=qx ((jK l).drop (i*4)) w.drew b ((i+1)*4) cu.toList tEn hcu;obtain ⟨q3,q4⟩:=qx (jK [e]) _ b (i*4) _ tEn q1;have s1:=kS ((jK l).drop (i*4)) w.drew b ((i+1)*4);have s2:=kS (jK [e]) (w.drew.setCells b ((i+1)*4) ((jK l).drop (i*4))) b (i*4);refine ⟨_,[b],rfl,jyH q3 aD.symm bY dI ?_ ?_,Fresh.one _ _ hbB,⟨by rw [s2.1,s1.1];rfl,by rw [s2.2.1,s1.2.1];rfl,by rw [s2.2.2.1,s1.2.2.1];rfl,by rw [s2.2.2.2,s1.2.2.2];exact aMV _,λk hk yX=>?_⟩,λs hs=>.inl (by simpa [blk] using hs)⟩
   ·rw [t2,qd _ _ _ (by rw [qd _ _ _ (by omega)];simp only [aMR,aMP,aND];omega),qd _ _ _ (by omega)]
    simp only [aMR,aMP,aND];omega
   ·rw [t2,qd (jK (l.drop i)) cu.toList _ (by omega)]
    have p1:cu.toList.take ((i+1)*4)=cu.toList.take (i*4)++(cu.toList.drop (i*4)).take 4:=by
     rw [show (i+1)*4=i*4+4 by omega,List.take_add]
    have p2:cu.toList.take (i*4)=jK (l.take i):=by
     rw [<-t1,<-eX,List.take_take,aNZ (by omega)]
    have p3:((cu.toList.drop (i*4)).take 4).length=4:=by rw [aMP,aND];omega
    rw [p1,p2];generalize (cu.toList.drop (i*4)).take 4=X at p3;generalize cu.toList.drop ((i+1)*4+(jK (l.drop i)).length)=Y
    have hX0:kI X 0 (jK [e])=jK [e]:=by
     rw [qd _ _ _ (by omega),aNM,aON,List.drop_eq_nil_of_le (by omega),aNI]
    have hA:jK (l.take i)++X++jK (l.drop i)++Y=jK (l.take i)++(X++(jK (l.drop i)++Y)):=by simp only [aNA]
    rw [hA,jnX (j:=0) (by omega) (by omega),hX0,fS]
    have dQ:jK (l.take i)++(jK [e]++(jK (l.drop i)++Y))=(jK (l.take i)++(jK [e]++jK (l.drop i)))++Y:=by simp only [aNA]
    rw [dQ];exact List.take_left' (by simp only [aMR];omega)
   ·rw [q4 k (by simpa [blk] using yX),q2 k (by simpa [blk] using yX)];rfl
  ·refine (jxK b l.length c i vb vc (jK l) (jK [e]) w aB cW (by omega) (by omega) (zG l) rfl fF mH (jbv l) (jbv [e])).mono ?_
   rintro en w' ⟨G,ROW,g1,g2,g3,g4,rfl,rfl⟩;have bZ:ROW.toList.length=G*4:=by simpa using g3
   have cA:((w.alloc (.cells ROW tEn)).drew).heap[w.heap.size]?=some (.cells ROW.toList.toArray tEn (0,0)):=by
    rw [Array.toArray_toList];exact heap_alloc_new w (.cells ROW tEn)
   obtain ⟨q1,q2⟩:=qx (jK [e]) ((w.alloc (.cells ROW tEn)).drew) w.heap.size (i*4) ROW.toList tEn cA;obtain ⟨q3,q4⟩:=qx ((jK l).drop (i*4)) (((w.alloc (.cells ROW tEn)).drew.setCells w.heap.size (i*4) (jK [e])).drew) w.heap.size ((i+1)*4) _ tEn q1;have s1:=kS (jK [e]) ((w.alloc (.cells ROW tEn)).drew) w.heap.size (i*4);have s2:=kS ((jK l).drop (i*4)) (((w.alloc (.cells ROW tEn)).drew.setCells w.heap.size (i*4) (jK [e])).drew) w.heap.size ((i+1)*4);have nK:Below w.heap.size w (w.alloc (.cells ROW tEn)):=(Below.refl _ _).alloc (by simp) _
   refine ⟨_,[w.heap.size],rfl,jyH q3 aD.symm g1 g2 ?_ ?_,Fresh.one _ _ hB,⟨by rw [s2.1];exact s1.1.trans nK.os,by rw [s2.2.1];exact s1.2.1.trans nK.tape,by rw [s2.2.2.1];exact s1.2.2.1.trans nK.output,?_,λk hk yX=>?_⟩,λs hs=>.inr (by simp at hs;omega)⟩
   ·rw [t2,qd _ _ _ (by rw [qd _ _ _ (by omega)];simp only [aMR,aMP,aND];omega),qd _ _ _ (by omega)]
    simp only [aMR,aMP,aND];omega
   ·rw [t2,qd (jK [e]) ROW.toList _ (by omega)]
    have p2:ROW.toList.take (i*4)=jK (l.take i):=by
     rw [<-t1]
     apply aOR
     intro j;rw [aOG,aOG];split
     ·rename_i hj;rw [Array.getElem?_toList];exact g4 j hj
     ·rfl
    rw [p2];generalize hY:ROW.toList.drop (i*4+(jK [e]).length)=Y;have hYl:Y.length=G*4-(i*4+4):=by rw [<-hY,aND,bZ,he4]
    have hA:(jK (l.take i)++jK [e]++Y).take ((i+1)*4)=jK (l.take i)++jK [e]:=List.take_left' (by rw [aMR,ht4,he4];omega)
    rw [qd _ _ _ (by simp only [aMR];omega),hA,fS,<-aNA (jK (l.take i)) (jK [e])]
    exact List.take_left' (by simp only [aMR];omega)
   ·have h5:=nK.size
    have h6:(w.alloc (.cells ROW tEn)).drew.heap.size=(w.alloc (.cells ROW tEn)).heap.size:=rfl;rw [s2.2.2.2];show _<=((w.alloc (.cells ROW tEn)).drew.setCells w.heap.size (i*4) (jK [e])).heap.size;rw [s1.2.2.2,h6];exact h5
   ·rw [q4 k (by omega)]
    show ((w.alloc (.cells ROW tEn)).drew.setCells w.heap.size (i*4) (jK [e])).heap[k]?=_;rw [q2 k (by omega)]
    exact nK.block k hk
 ·obtain rfl:i=l.length:=by omega
  obtain ⟨i0,zv,sI,fU,n4,mW,wD⟩:=slEn.info;have hzo:vJ Tryz.prog tEn=some [.int .i64 0,.int .i64 0,.int .i64 0,.int .i64 0]:=by kernel_rfl
  have bG:Rep w true (.sl i0.size tEn (l.flatMap jh)) x (blk x++[]):=by rw [mW];exact r1'
  obtain ⟨v',w',S',k1,k2,k3,k4,k5⟩:=jmh (P:=Tryz.prog) (B:=B) (ty:=tEs) (t:=tEs) (ys:=[e].flatMap jh) (c:=vc) (m:=1) slEn.1 sI hzo (by omega) bG (jpD w true [e]) (by rw [mW];rfl) (A:=some ⟨vb,0,none⟩) (λh=>by cases h) (λad had j u hj=>by
   cases had;rw [Addr.add_lit,aOK];exact mH j u hj) (jbv [e]) (by simpa using hF.left) hB (by rw [mW,jG jrN,jG jrN];simp [maxLen];omega) (by rw [mW,wD,jG jrN,jG jrN];simp;omega)
  have cG:jlY l l.length e=l++[e]:=by simp [jlY]
  rw [mW,<-aOE] at k2
  have key:∀(A:Option Addr) (n c:Nat),x=.slice A n c->n=l.length->n<=c->c<=maxLen->(A=none->c=0)->(∀a,A=some a->∃b,a=⟨b,0,none⟩)->Calls Tryz.prog jAz #[x,.int .i64 l.length,.slice (some ⟨vb,0,none⟩) 1 vc] w λe w1=>e=.returned v'/\w1=w':=λA n c hx hn mL nU hA mV=>by
   subst hx;subst hn;exact jAq A l.length c vb vc w v' w' mL (by unfold maxLen at nU;omega) hA mV k1
  have hC:Calls Tryz.prog jAz #[x,.int .i64 l.length,.slice (some ⟨vb,0,none⟩) 1 vc] w λe w1=>e=.returned v'/\w1=w':=by
   rcases o1.2 with ⟨rfl,h0⟩|⟨b,c,cu,rfl,_,rI,cW,dI,y3,eX⟩
   ·exact key none 0 0 rfl h0.symm (aMV _) (aNE _) (λ_=>rfl) (λa h=>by cases h)
   ·exact key _ _ c rfl rfl cW dI (λh=>by cases h) (λa h=>by cases h;exact ⟨_,rfl⟩)
  refine hC.mono ?_;rintro en w1 ⟨rfl,rfl⟩;refine ⟨v',S',rfl,by rw [cG];exact k2,k3,k4,λs hs=>?_⟩
  rcases k5 s hs with h|h|h
  ·exact .inl h
  ·simp at h
  ·exact .inr h
theorem jja (l:List En) (i:Nat) (e:En) (hi:i<=l.length) (hl:l.length<=4000000) {o:Nat->Ob} {g g2:Nat} {η aV:jm} (ho:o g=.loose (ji l) η) (sA:o g2=.loose (ji [e]) aV) (aR:g2≠g):
 Turns Tryz.prog jAz [.c (.h g 0 [] (η [])),.c (.v (.int .i64 i)),.c (.h g2 0 [] (aV []))] o (λrt o'=>rt=.c (ji (jlY l i e))/\o'=λk=>if k=g2 then .none else if k=g then .none else o k):=
 ⟨⟨_,Tryz.func176,by kernel_rfl,by kernel_rfl⟩,λB w F xs hR gS=>by
   obtain ⟨x,xs1,rfl,⟨rfl,_⟩,_,xs2,rfl,rfl,x2,xs3,rfl,⟨rfl,_⟩,rfl⟩:=gS;have h1:=hR.ob g;have h2:=hR.ob g2;simp only at h1 h2;rw [ho] at h1;rw [sA] at h2;obtain ⟨_,u1,r1,e1⟩:=h1;obtain ⟨_,u2,r2,e2⟩:=h2;have q1:η []=u1:=e1 [];have q2:aV []=u2:=e2 [];rw [q1,q2];have hB:B<=w.heap.size:=aNX hR.hB hR.below.size;have i7:=hR.fr g;have y8:=hR.fr g2;have aB:∀k,∀b∈F k,b<w.heap.size:=λk b hb=>(hR.ob k).lt b hb
   have hF:Fresh B (F g++F g2):=⟨aMS.2 ⟨i7.1,y8.1,λa ha b hb nL=>hR.dj g g2 (Ne.symm aR) a ha (nL▸hb)⟩,λb hb=>by
    rcases aMN.1 hb with hb|hb
    ·exact i7.2 b hb
    ·exact y8.2 b hb⟩
   refine (jAp l i e hi hl r1 r2 hF hB).mono ?_;rintro en w' ⟨v,S,rfl,bG,gB,dF,hS⟩;have t1:=(hR.setO (g:=g) (ob:=.none) (S:=[]) rfl (Fresh.nil _) (by simp)).setO (g:=g2) (ob:=.none) (S:=[]) rfl (Fresh.nil _) (by simp)
   have t2:=t1.world' (dF.below (λs hs=>i7.2 s hs) hB) λk b hb=>by
    split at hb
    ·simp at hb
    ·split at hb
     ·simp at hb
     ·rename_i hk
      exact dF.block b (aB k b hb) λh=>hR.dj k g hk b hb h
   refine ⟨v,.c (ji (jlY l i e)),_,S,_,rfl,t2,bG,gB,λk b hb=>?_,rfl,rfl⟩
   split
   ·simp
   ·split
    ·simp
    ·rename_i hk
     intro bA;rcases hS b hb with h|h
     ·exact hR.dj k g hk b bA h
     ·have:=aB k b bA;omega⟩
section
variable {P:Program} {f:FuncId}
theorem jB0 {v1 v2 v3 v4:View} {u:Value} (hn:jpx P f) (h:∀w a b c d,ViewRel w v1 a->ViewRel w v2 b->ViewRel w v3 c->ViewRel w v4 d->Calls P f #[a,b,c,d] w λe w'=>e=.returned u/\Below w.heap.size w w'):kg P f [v1,v2,v3,v4] (.c (.val u)):=by
 refine ⟨hn,λw xs hv=>?_⟩
 obtain ⟨a,_,rfl,h1,b,_,rfl,h2,c,_,rfl,h3,d,_,rfl,h4,h5⟩:=hv;rw [show _=_ from h5]
 exact (h w a b c d h1 h2 h3 h4).mono λe w' ⟨he,hb⟩=>⟨u,[],he,⟨rfl,rfl⟩,Fresh.nil _,hb⟩
end
theorem jog (y:Yd) (id aMA tri:Int):kg Tryz.prog 200 [.agg (jb y),.c (.val (.int .i64 id)),.c (.val (.int .i64 aMA)),.c (.val (.int .i64 tri))] (.c (.val (.bool (qw y id aMA tri)))):=
 jB0 ⟨_,Tryz.func200,by kernel_rfl,by kernel_rfl⟩ λw a b c d ⟨S,ha⟩ hb hc hd=>by rw [jba hb,jba hc,jba hd];exact jxa y id aMA tri a S w false ha
theorem jae (y:Yd) (id aMA tri:Int):kg Tryz.prog 53 [.agg (jb y),.c (.val (.int .i64 id)),.c (.val (.int .i64 aMA)),.c (.val (.int .i64 tri))] (.c (.val (.bool (qw y id aMA tri)))):=
 jB0 ⟨_,Tryz.func53,by kernel_rfl,by kernel_rfl⟩ λw a b c d ⟨S,ha⟩ hb hc hd=>by rw [jba hb,jba hc,jba hd];exact jxN y id aMA tri a S w false ha
open Classical in
noncomputable def zm (y:Yd) (id aMA tri:Int):Int:=if jw y=false then 8 else if runAt y id<0 then 10 else if qw y id aMA tri=false then 11 else 0
def jgy:C:=iS [iA 4 (.box 27 4 (.t 0)),aN 8 0] (.seq (.blk 0 (iS [aT 10 4 4,iA 11 (iK 66 [10]),aU 12 11,aM 9 12] (iD 9 (iS [aN 8 8] .ret) (iS [aT 14 4 4,aM 15 1,iA 16 (iK 26 [14,15]),aQ 17 .lss 3 16 0,aM 13 17] (iD 13 (iS [aN 8 10] .ret) (iS [aT 19 4 4,aM 20 1,aM 21 2,aM 22 3,iA 23 (iK 200 [19,20,21,22]),aU 24 23,aM 18 24] (iD 18 (iS [aN 8 11] .ret) .skip))))))) (iS [aN 8 0] .ret))
theorem jiD:fnC Tryz.prog Tryz.f189=some (jgy,[.t 8],25):=by kernel_rfl
def jkB:C:=iS [iA 4 (.box 27 4 (.t 0)),aN 8 0] (.seq (.blk 0 (iS [aT 10 4 4,iA 11 (iK 18 [10]),aU 12 11,aM 9 12] (iD 9 (iS [aN 8 8] .ret) (iS [aT 14 4 4,aM 15 1,iA 16 (iK 25 [14,15]),aQ 17 .lss 3 16 0,aM 13 17] (iD 13 (iS [aN 8 10] .ret) (iS [aT 19 4 4,aM 20 1,aM 21 2,aM 22 3,iA 23 (iK 53 [19,20,21,22]),aU 24 23,aM 18 24] (iD 18 (iS [aN 8 11] .ret) .skip))))))) (iS [aN 8 0] .ret))
theorem jlg:fnC Tryz.prog Tryz.f122=some (jkB,[.t 8],25):=by kernel_rfl
theorem jfM (y:Yd) (id aMA tri:Int) (ht:jt y<=2000000):kg Tryz.prog 189 [.agg (jb y),.c (.val (.int .i64 id)),.c (.val (.int .i64 aMA)),.c (.val (.int .i64 tri))] (.c (.val (.int .i64 (zm y id aMA tri)))):=by
 refine pf_ jiD ?_;unfold jgy;simp only [go_sem,jb];intro b4;refine jx (qq y ht) λη=>?_
 simp only [go_sem,jb];cases aC:jw y
 ·have hc:zm y id aMA tri=8:=by simp [zm,aC]
  simp only [go_sem,jb,aC,hc]
 simp only [go_sem,jb,aC];refine jx (qr y id) λη=>?_
 simp only [go_sem,jb];by_cases aK:runAt y id<0
 ·have hc:zm y id aMA tri=10:=by simp [zm,aC,aK]
  simp only [go_sem,jb,aK,hc]
 simp only [go_sem,jb,aK];refine jx (jog y id aMA tri) λη=>?_
 simp only [go_sem,jb];cases hh:qw y id aMA tri
 ·have hc:zm y id aMA tri=11:=by simp [zm,aC,aK,hh]
  simp only [go_sem,jb,hh,hc]
 ·have hc:zm y id aMA tri=0:=by simp [zm,aC,aK,hh]
  simp only [go_sem,jb,hh,hc]
theorem jjT (y:Yd) (id aMA tri:Int) (ht:jt y<=2000000):kg Tryz.prog 122 [.agg (jb y),.c (.val (.int .i64 id)),.c (.val (.int .i64 aMA)),.c (.val (.int .i64 tri))] (.c (.val (.int .i64 (zm y id aMA tri)))):=by
 refine pf_ jlg ?_;unfold jkB;simp only [go_sem,jb];intro b4;refine jx (kJ y ht) λη=>?_
 simp only [go_sem,jb];cases aC:jw y
 ·have hc:zm y id aMA tri=8:=by simp [zm,aC]
  simp only [go_sem,jb,aC,hc]
 simp only [go_sem,jb,aC];refine jx (qg y id) λη=>?_
 simp only [go_sem,jb];by_cases aK:runAt y id<0
 ·have hc:zm y id aMA tri=10:=by simp [zm,aC,aK]
  simp only [go_sem,jb,aK,hc]
 simp only [go_sem,jb,aK];refine jx (jae y id aMA tri) λη=>?_
 simp only [go_sem,jb];cases hh:qw y id aMA tri
 ·have hc:zm y id aMA tri=11:=by simp [zm,aC,aK,hh]
  simp only [go_sem,jb,hh,hc]
 ·have hc:zm y id aMA tri=0:=by simp [zm,aC,aK,hh]
  simp only [go_sem,jb,hh,hc]
theorem jlm {y:Yd} {id aMA tri:Int} (h:zm y id aMA tri=0):YardOkP y/\¬runAt y id<0:=by
 unfold zm at h;split at h
 ·cases h
 split at h
 ·cases h
 rename_i h1 h2;exact ⟨yard_iff.1 (by simpa using h1),h2⟩
