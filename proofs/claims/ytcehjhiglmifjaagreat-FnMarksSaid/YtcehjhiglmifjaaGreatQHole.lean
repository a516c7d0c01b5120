/- Parts. -/
import Derived.Test.YtcehjhiglmifjaaGreatQYardB
import Derived.Shelf.Spec.SlicesInsertGrow
import Derived.Lib.Overlaps
set_option linter.all false
set_option maxHeartbeats 8000000
set_option maxRecDepth 100000
namespace Go.Proofs.YtcehjhiglmifjaaGreat
open Go.RowKit Go.Sort
section
variable {P:Program} {B:Nat} {w w0:World} {F:Nat->List Nat} {o:Nat->Ob}
theorem jzQ {size:Nat} {ty:TypeId} {cs:List D} {v:Value} {S:List Nat} {m:Nat} (hs:0<size) (h:Rep w true (.sl size ty cs) v S) (hm:m*size<=cs.length):∃S',Rep w true (.sl size ty (cs.take (m*size))) (jki v size 0 m) S'/\(∀b∈S',b∈S)/\(S.Nodup->S'.Nodup)/\(m*size=cs.length->jki v size 0 m=v):=by
 obtain ⟨vs,T,S2,⟨n,⟨h1,h2⟩,rfl⟩,h4,rfl⟩:=h;have bQ:=RepL.length _ h4;have e:cs=cs.take (m*size)++cs.drop (m*size):=(aPF _ _).symm;rw [e] at h4;obtain ⟨v1,v2,Sa,Sb,rfl,rfl,h5,h6⟩:=RepL.append_inv _ h4;have gM:=RepL.length _ h5;rw [aNV,aPD hm] at gM
 have key:blk (jki v size 0 m)=blk v/\w.ownsRow 0 ty size (jki v size 0 m) m v1/\(m*size=cs.length->jki v size 0 m=v):=by
  rcases h2 with ⟨rfl,rfl⟩|⟨g,cap,cur,rfl,a1,a2,a3,a4,a5,a6⟩
  ·have oO:m=0:=by
    rcases Nat.eq_zero_or_pos m with h|h
    ·exact h
    ·have:=Nat.mul_pos h hs
     rw [Nat.zero_mul] at h1;omega
   subst oO;have:v1=[]:=aON (by omega)
   subst this;exact ⟨rfl,⟨by simp,.inl ⟨rfl,rfl⟩⟩,λ_=>rfl⟩
  ·have z5:m*size<=n*size:=by rw [<-h1,bQ];exact hm
   have aIW:m<=n:=Nat.le_of_mul_le_mul_right z5 hs
   have bA:jki (.slice (some ⟨g,0,none⟩) n cap) size 0 m=.slice (some ⟨g,0,none⟩) m cap:=by
    simp only [jki];split<;>simp [Addr.add_lit]
   rw [bA];refine ⟨rfl,⟨gM,.inr ⟨g,cap,cur,rfl,a1,a2,by omega,a4,a5,?_⟩⟩,λhe=>?_⟩
   ·have:=congrArg (List.take (m*size)) a6
    rw [List.take_take,aPD z5,<-gM,List.take_left] at this;exact gM▸this
   ·have:m=n:=Nat.eq_of_mul_eq_mul_right hs (by rw [he,<-h1,bQ])
    rw [this]
 refine ⟨blk (jki v size 0 m)++Sa,⟨v1,_,Sa,⟨m,key.2.1,rfl⟩,h5,rfl⟩,?_,?_,key.2.2⟩
 ·rw [key.1];intro b hb
  rcases aNT.1 hb with hb|hb<;>simp [hb]
 ·rw [key.1];intro hn
  have:(blk v++Sa++Sb).Nodup:=by simpa using hn
  exact (aNY.1 this).1
def jD5 (o:Nat->Ob) (g c g2:Nat) (d:D) (aC:jf) (d2:D) (aS:jf):Nat->Ob:=λj=>if j=g2 then .loose d2 aS else if j=g then (o g).putOwn c d aC else o j
theorem jAV (h:RelF B w0 0 (.only o) Act.bare w F) {g c k g2 m size ty tyo:Nat} {cs ds0:List D} {η:jf} (ho:(o g).own c=some (.sl 1 tyo ds0,η)) (hk:ds0[k]?=some (.sl size ty cs)) (lD:o g2=.none) (aJ:g2≠g) (hs:0<size) (hm:m*size<=cs.length):
 ∃aS aC F',RelF B w0 0 (.only (jD5 o g c g2 (.sl 1 tyo (ds0.set k (.val (η [k])))) aC (.sl size ty (cs.take (m*size))) aS)) Act.bare w F'/\aS []=jki (η [k]) size 0 m/\aC []=η []/\(m*size=cs.length->jki (η [k]) size 0 m=η [k]):=by
 obtain ⟨u,SA,Sd,SC,e1,a1,a2,a3,a4⟩:=jid (h.ob g) ho;obtain ⟨vs,T,S',bG,bR,rfl⟩:=a2;obtain ⟨v,SA',Sk,SC',b1,rfl,b3,b4⟩:=jei bR hk
 have hv:η [k]=v:=by
  rw [a3];rcases kX bG with ⟨_,rfl⟩|⟨gg,nn,cc,rfl,_,_,bK,_⟩
  ·simp at b1
  ·simp only [hdr,hk,aPH,bK k v b1,aNZ]
 rw [hv];obtain ⟨S2,c1,c2,c3,c4⟩:=jzQ hs b3 hm;have gE:=h.fr g;rw [e1] at gE;have aW:=gE.1;have bE:Rep w true (.sl 1 tyo (ds0.set k (.val v))) u (T++(SA'++[]++SC')):=⟨vs,T,_,bG,b4 _ _ ⟨rfl,rfl⟩,rfl⟩;have bS:=a4 (.sl 1 tyo (ds0.set k (.val v))) (λp=>hdr w p (.sl 1 tyo (ds0.set k (.val v))) u) _ rfl bE (λ_=>rfl)
 have hSk:Sk.Nodup:=by
  have:Sk.Sublist (SA++(T++(SA'++Sk++SC'))++SC):=by
   refine List.Sublist.trans ?_ (List.sublist_append_left _ _);refine List.Sublist.trans ?_ (List.sublist_append_right _ _);refine List.Sublist.trans ?_ (List.sublist_append_right _ _);refine List.Sublist.trans ?_ (List.sublist_append_left _ _);exact List.sublist_append_right _ _
  exact aW.sublist this
 have bA:(SA++(T++(SA'++[]++SC'))++SC).Sublist (SA++(T++(SA'++Sk++SC'))++SC):=by
  refine List.Sublist.append (List.Sublist.append (List.Sublist.refl _) (List.Sublist.append (List.Sublist.refl _) (List.Sublist.append (List.Sublist.append (List.Sublist.refl _) (List.nil_sublist _)) (List.Sublist.refl _)))) (List.Sublist.refl _)
 have iZ:∀b∈SA++(T++(SA'++[]++SC'))++SC,b∉Sk:=by
  intro b hb hbk
  have p1:(SA++(T++(SA'++Sk++SC'))++SC).Perm (Sk++(SA++(T++(SA'++[]++SC'))++SC)):=by
   have:(SA++(T++(SA'++Sk++SC'))++SC)=(SA++(T++SA'))++(Sk++(SC'++SC)):=by simp
   rw [this];have:(SA++(T++(SA'++[]++SC'))++SC)=(SA++(T++SA'))++(SC'++SC):=by simp
   rw [this];exact (List.perm_append_comm_assoc _ _ _)
  have p2:=p1.nodup_iff.1 aW;exact (aNY.1 p2).2.2 b hbk b hb rfl
 have bW:∀b∈Sk,b∈F g:=λb hb=>by rw [e1];simp [hb]
 have r1:=h.setO (g:=g) bS ⟨aW.sublist bA,λb hb=>gE.2 b (bA.subset hb)⟩ (λg' cU b hb aZ=>h.dj g' g cU b aZ (by rw [e1];exact bA.subset hb))
 have aCG:ORel B w (.loose (.sl size ty (cs.take (m*size))) (λp=>hdr w p (.sl size ty (cs.take (m*size))) (jki v size 0 m))) S2:=⟨rfl,_,c1,λ_=>rfl⟩
 have r2:=r1.setO (g:=g2) aCG ⟨c3 hSk,λb hb=>(h.fr g).2 b (bW b (c2 b hb))⟩ (λg' cU b hb=>by
  split
  ·exact λhh=>iZ b hh (c2 b hb)
  ·rename_i uH
   exact λhh=>h.dj g' g uH b hh (bW b (c2 b hb)))
 exact ⟨_,_,_,r2,rfl,(a3 []).symm▸rfl,c4⟩
theorem jya {f:FuncId} {args:List AV} {R:AV->(Nat->Ob)->Prop} (h:Inl P f args o λav o'=>∃g c k g2 m size ty tyo cs ds0 η,(av=.c (.hs g c [k] (η [k]) size 0 m)\/av=.c (.h g c [k] (η [k]))/\m*size=cs.length)/\(o' g).own c=some (.sl 1 tyo ds0,η)/\ds0[k]?=some (.sl size ty cs)/\o' g2=.none/\g2≠g/\0<size/\m*size<=cs.length/\
 ∀aS aC,aC []=η []->R (.c (.h g2 0 [] (aS []))) (jD5 o' g c g2 (.sl 1 tyo (ds0.set k (.val (η [k])))) aC (.sl size ty (cs.take (m*size))) aS)):Inl P f args o R:=
 ⟨h.1,λB w F xs h1 h2=>(h.2 B w F xs h1 h2).mono λe w' ⟨v,av,o',F',k1,k2,k3,g,c,k,g2,m,size,ty,tyo,cs,ds0,η,e1,e2,e3,e4,e5,e6,e7,e8⟩=>by
  obtain ⟨aS,aC,F2,r1,r2,r3,r4⟩:=jAV k2 e2 e3 e4 e5 e6 e7;refine ⟨v,_,_,F2,k1,r1,?_,e8 aS aC r3⟩;rcases e1 with rfl|⟨rfl,e1⟩
  ·obtain ⟨k4,k5⟩:=k3
   have k4:=k4.resolve_right λh=>absurd h.1 (Nat.lt_irrefl 0)
   exact ⟨by rw [k4,r2],by rw [r2,<-k4];exact k5⟩
  ·obtain ⟨k4,k5⟩:=k3
   exact ⟨by rw [k4,r2,r4 e1],by rw [r2,r4 e1];exact k5⟩⟩
variable {s:St} {K:St->Prop} {β:Nat} {gd:Option (Nat×Bool)} {d:Option Nat}
theorem is_hp (g c q:Nat) (p:List Nat) (x:Value) (dd:D):Is s (.h g c (q::p) x) dd=jjb ((s.o g).own c) λd0 η=>D.get (q::p) d0=some dd/\η (q::p)=x/\dd.isSl=true:=by
 apply propext
 simp only [Is];cases (s.o g).own c with
 |none=>simp [jjb]
 |some z=>
  obtain ⟨d0,η⟩:=z;simp only [jjb,Option.some.injEq,Prod.mk.injEq];constructor
  ·rintro ⟨_,_,⟨rfl,rfl⟩,h1,h2,h3⟩;exact ⟨h2,h1,h3⟩
  ·rintro ⟨h1,h2,h3⟩;exact ⟨_,_,⟨rfl,rfl⟩,h2,h1,h3⟩
theorem jFZ (g c b:Nat) (ds:List D):Ptr s (.bp g c b) ds=obK (s.o g) b λ_ cs=>Ptr.go s g b ((cs.drop c).take ds.length) c ds:=by
 rw [<-jGh]
 apply propext
 simp only [Ptr];constructor
 ·rintro ⟨ty,cs,h1,_,rfl,h3⟩;exact ⟨ty,cs,h1,h3⟩
 ·rintro ⟨ty,cs,h1,h3⟩;exact ⟨ty,cs,h1,_,rfl,h3⟩
theorem go_nil_ (g b c:Nat):Ptr.go s g b [] c []=True:=by simp [Ptr.go]
theorem go_a_ (g b c:Nat) (x:A0) (l:List Cell) (e:D) (ds:List D):Ptr.go s g b (.a x::l) c (e::ds)=(IsP x e/\Ptr.go s g b l (c+1) ds):=(rfl)
theorem isP_v (x:Value):IsP (.v x) (.val x)=True:=eq_true (.inl rfl)
theorem jGt (e e':D):IsP (.ro e) e'=(e'=e):=(rfl)
theorem jvi (g c i:Nat) (p:List Nat) (η:jf) (e:D) (l:List D):jig g c p η i (e::l)=e.toOwn g c (p++[i]) η::jig g c p η (i+1) l:=(rfl)
def mkfK (s:St) (K:St->Prop) (d:Option Nat) (f:Nat):AV->Prop
 |.c a=>K (s.put d (.fn f [a]))
 |_=>False
theorem jGm (f:Nat) (a:A0):mkfK s K d f (.c a)=K (s.put d (.fn f [a])):=(rfl)
theorem jC5 (f:Nat) (x:X):vp P β ⟨d,gd,.mkf f [x]⟩ s K=mkfK s K d f (s.ev x):=by
 cases hx:s.ev x with
 |c a=>
  refine jCd (os:=[]) (av:=.fn f [a]) rfl λrt st av' os'=>?_
  simp [Gen,jcF,hx]
 |_=>
  apply propext
  refine ⟨λh=>?_,λh=>h.elim⟩
  have h':∃rt,∀st,∃av os,Gen P s (β+d.getD 0) rt st (.mkf f [x]) av os/\K ((s.addO os).put d av):=h;obtain ⟨rt,h1⟩:=h';obtain ⟨av,os,⟨l,h2,_⟩,_⟩:=h1 ⟨0,λ_ _=>undef⟩
  simp [jcF,hx] at h2
def clrA (s:St) (K:St->Prop) (size:Nat) (zs:List D):AV->Prop
 |.c (.v (.slice none 0 0))=>K s
 |.c (.hs g c p hx sz lo n)=>sz=size/\0<n/\jjb ((s.o g).own c) λd0 η=>η p=hx/\jo5 (D.get p d0) λdd=>dd.isSl=true/\dd.size=sz/\lo+n<=dd.len/\
  stH (ka (List.replicate n zs).flatten&&ka ((dd.cells.drop (lo*sz)).take (n*sz))) p (lo*sz) (n*sz) η λaC=>K (s.setO g ((s.o g).putOwn c (D.put p (lo*sz) (List.replicate n zs).flatten d0) aC))
 |_=>False
theorem jDd (size:Nat) (zs:List D) (x:X):vp P β ⟨none,gd,.clr size zs x⟩ s K=clrA s K size zs (s.ev x):=by
 apply propext
 show (none=none/\_)↔_;rw [eq_self,true_and];unfold clrA;split
 ·simp_all
 ·rename_i g c p hx sz lo n he
  simp only [he];cases ho:(s.o g).own c with
  |none=>simp [jjb]
  |some z=>
   obtain ⟨d0,η⟩:=z;simp only [jjb,Option.some.injEq,Prod.mk.injEq];constructor
   ·rintro ⟨a1,a2,_,_,dd,⟨rfl,rfl⟩,a3,a4,a5,a6,a7,a8⟩
    refine ⟨a1,a2,a3,?_⟩;rw [a4];exact ⟨a5,a6,a7,a8⟩
   ·rintro ⟨a1,a2,a3,a4⟩
    cases hg:D.get p d0 with
    |none=>rw [hg] at a4;exact a4.elim
    |some dd=>rw [hg] at a4;obtain ⟨a5,a6,a7,a8⟩:=a4;exact ⟨a1,a2,d0,η,dd,⟨rfl,rfl⟩,a3,hg,a5,a6,a7,a8⟩
 ·simp_all
theorem jEy (size:Nat) (zs:List D) (g c:Nat) (p:List Nat) (hx:Value) (sz lo n:Nat):clrA s K size zs (.c (.hs g c p hx sz lo n))=(sz=size/\0<n/\jjb ((s.o g).own c) λd0 η=>η p=hx/\jo5 (D.get p d0) λdd=>dd.isSl=true/\dd.size=sz/\lo+n<=dd.len/\
 stH (ka (List.replicate n zs).flatten&&ka ((dd.cells.drop (lo*sz)).take (n*sz))) p (lo*sz) (n*sz) η λaC=>K (s.setO g ((s.o g).putOwn c (D.put p (lo*sz) (List.replicate n zs).flatten d0) aC))):=rfl
theorem jtT (x:En):(jk x).length=4:=rfl
theorem qy {sh:List (List En)} {k:Nat} {l:List En} (h:sh[k]?=some l):D.get [k] (ki sh)=some (jg l):=by
 have e:sh.flatMap (λes=>[jg es])=sh.map jg:=by clear h;induction sh<;>simp_all
 simp [ki,D.get,e,h]
end
attribute [go_sem] jC5 jGm jvi is_hp jFZ go_nil_ go_a_ isP_v jGt jDd jEy
section
variable {P:Program} {s:St}
def jAl (s:St) (ds:List D) (d:D) (l:List A0):AV->Prop
 |.c a=>l.length=ds.length/\qz s (l++[a]) λcs _=>IsD cs (ds++[d])
 |_=>False
def jDs (s:St) (k:Nat) (ds:List D) (d:D) (b:AV):AV->Prop
 |.c (.bp g c bb)=>ldB (s.o g) g c bb k λl=>jAl s ds d l b
 |_=>False
theorem kV (n k m:Nat) (ds:List D) (d:D) (h:jDs s k ds d (s.t m) (s.t n)):jv2 [.cell n true k,.t m] (.tup [(true,ds),(false,[d])]) s:=by
 unfold jDs at h;split at h
 ·rename_i g c bb he
  simp only [ldB] at h;split at h
  ·rename_i b ty cs ho
   obtain ⟨e1,e2,h⟩:=h;unfold jAl at h;split at h
   ·rename_i a ha
    obtain ⟨h1,h2⟩:=h;simp only [jv2,jju,ha,he];refine ⟨_,⟨ty,cs,by rw [ho,e1],e2,rfl⟩,.inl trivial,?_⟩
    refine ⟨⟨by simp,by simp [h1]⟩,?_⟩
    simpa [RT.flat] using h2
   ·exact h.elim
  ·exact h.elim
 ·exact h.elim
theorem jFN (ds:List D) (d:D) (l:List A0) (a:A0):jAl s ds d l (.c a)=(l.length=ds.length/\qz s (l++[a]) λcs _=>IsD cs (ds++[d])):=(rfl)
theorem jFM (k g c bb:Nat) (ds:List D) (d:D) (b:AV):jDs s k ds d b (.c (.bp g c bb))=ldB (s.o g) g c bb k λl=>jAl s ds d l b:=(rfl)
end
attribute [go_sem] jFN jFM
theorem jry {l:List Rn} {k j:Nat} {r:Rn} (h:l[k]?=some r) (hj:j<8):(l.flatMap je)[k*8+j]?=(je r)[j]?:=by
 rw [jbB (enc:=je) h,aPL (by rw [jkg (enc:=je) (size:=8) (λ_=>rfl) h];omega),jkg (enc:=je) (size:=8) (λ_=>rfl) h,aPI,aQE (by exact hj)]
theorem joB {l:List Rn} {k:Nat} {r:Rn} (h:l[k]?=some r):D.get [k*8+5] (jE l)=some (js r.aNB.aNF):=by
 have:=jry (j:=5) h (by decide)
 simp [jE,D.get,this,je,jd]
theorem ko {l:List Rn} {k:Nat} {r:Rn} (h:l[k]?=some r):D.get [k*8+7] (jE l)=some (jx r.aNA):=by
 have:=jry (j:=7) h (by decide)
 simp [jE,D.get,this,je,jd]
theorem zw {l:List Rn} {k:Nat} {r:Rn} (h:l[k]?=some r):D.get [k*8+1+1+1+1+1] (jE l)=some (js r.aNB.aNF):=joB h
theorem zu {l:List Rn} {k:Nat} {r:Rn} (h:l[k]?=some r):D.get [k*8+1+1+1+1+1+1+1] (jE l)=some (jx r.aNA):=ko h
theorem jrG {l:List Rn} {k:Nat} (v:Rn) (hk:k<l.length):D.put [] (k*8) [.val (.int .i64 v.id),.val (.int .i64 v.aNB.aNI),.val (.int .i64 v.aNB.aNN),.val (.int .i64 v.aNB.aNM),.val (.int .i64 v.aNB.aNA),js v.aNB.aNF,.val (.int .i64 v.aND),jx v.aNA] (jE l)=jE (l.set k v):=juR v hk
theorem kP {y:Yd} {id:Int} (h:¬runAt y id<0):∃(k:Nat) (r:Rn),runAt y id=k/\y.aNE[k]?=some r/\r.id=id/\y.aNE.length<=8:=by
 unfold runAt at h⊢;split at h
 ·omega
 ·rename_i h8
  rw [if_neg h8];rcases jkR y.aNE id with ⟨k,x,h1,h2,_,h4⟩|⟨_,h2⟩
  ·exact ⟨k,x,h4,h1,h2,by omega⟩
  ·rw [h2] at h;omega
theorem jmz {l:List Rn} {k:Nat} {x:Rn} (hx:l[k]?=some x):((l.flatMap je).drop (k*8)).take 8=je x:=qH (enc:=je) (size:=8) (λ_=>rfl) hx (j:=0) (n:=8) (by decide)
theorem jih {l:List Rn} {k:Nat} {x:Rn} (hx:l[k]?=some x):k*8+8<=(l.flatMap je).length:=qZ (enc:=je) (size:=8) (λ_=>rfl) hx (j:=0) (n:=8) (by decide)
def jmn (p:Pl) (t:Nat):Tk:=⟨if 0<(zG p t).length then 1 else 2,((zG p t).length:Int),0,0⟩
def zh (p:Pl) (k:Nat):List Tk:=(List.range k).map (jmn p)
def jN (id:Int) (p:Pl):Rn:=⟨id,p,1,zh p p.aNA.toNat⟩
theorem jxN (p:Pl):zh p 0=[]:=rfl
theorem jxM (p:Pl) (k:Nat):zh p (k+1)=zh p k++[jmn p k]:=by simp [zh,List.range_succ]
theorem jaS (p:Pl) (k:Nat):(zh p k).length=k:=by simp [zh]
theorem jgc (l:List Tk) (a b c d:Int):D.sl 4 tTk (l.flatMap jH++[.val (.int .i64 a),.val (.int .i64 b),.val (.int .i64 c),.val (.int .i64 d)])=jx (l++[⟨a,b,c,d⟩]):=by simp [jx,jH]
def jhl:C:=iS [iA 3 (.box 49 5 (.t 1)),iA 4 wAN,aO 5 false] (.seq (iS [aM 9 0,iA 10 (.call 68 [.t 9,oI 1,oI 9999]),aU 11 10,aM 12 11,iB 13 12 false (iT 5 3),iB 14 12 false (iK 112 [13]),iB 15 12 false (iQ .neq 3 14 0),iA 16 (iY 12 (oT) (.t 15))] (iD 16 (iS [iA 17 (wAY []),wAC 4 17,aO 5 false] .ret) .skip)) (iS [aM 18 0,aT 19 5 3,iA 20 (iK 168 [19]),iA 21 (wAY [(0,1,.t 18),(1,5,.t 20),(6,1,oI 1)]),iA 6 wAN,wAC 6 21] (.seq (iS [aN 7 0] (.blk 0 (.loop (.seq (iS [aM 22 7,aF 23 3 3,aL 24 23,aP 25 .lss 3 22 24] (iD 25 .skip (.exit 0))) (.seq (.blk 1 (iS [aT 28 5 3,aM 29 7,iA 30 (iK 169 [28,29]),aG 31 30,iA 32 (wAV [(0,1,oI 2),(1,1,.t 31)]),iA 8 wAO,wAB 8 32] (.seq (iS [aF 33 1 8,aL 34 33,aQ 35 .gtr 3 34 0] (iD 35 (.reg [aF 36 0 8,iC (.st 1 [none] (.t 36) (oI 1))]) .skip)) (.reg [aF 37 7 6,aL 38 37,aT 39 4 8,iA 40 (wA8 [(0,4,.t 39)]),iA 41 (.app 46 4 32 (.t 38) (.t 40)),aF 42 7 6,wAJ 42 41])))) (.reg [aM 26 7,aQ 27 .add 3 26 1,aM 7 27])))))) (iS [aT 43 8 6,wAC 4 43,aO 5 true] .ret))))
theorem jjL:fnC Tryz.prog Tryz.f114=some (jhl,[.cell 4 true 8,.t 5],44):=by kernel_rfl
def jhA:C:=iS [iA 3 (.box 49 5 (.t 1)),iA 4 wAN,aO 5 false] (.seq (iS [aM 9 0,iA 10 (.call 62 [.t 9,oI 1,oI 9999]),aU 11 10,aM 12 11,iB 13 12 false (iT 5 3),iB 14 12 false (iK 109 [13]),iB 15 12 false (iQ .neq 3 14 0),iA 16 (iY 12 (oT) (.t 15))] (iD 16 (iS [iA 17 (wAY []),wAC 4 17,aO 5 false] .ret) .skip)) (iS [aM 18 0,aT 19 5 3,iA 20 (iK 163 [19]),iA 21 (wAY [(0,1,.t 18),(1,5,.t 20),(6,1,oI 1)]),iA 6 wAN,wAC 6 21] (.seq (iS [aN 7 0] (.blk 0 (.loop (.seq (iS [aM 22 7,aF 23 3 3,aL 24 23,aP 25 .lss 3 22 24] (iD 25 .skip (.exit 0))) (.seq (.blk 1 (iS [aT 28 5 3,aM 29 7,iA 30 (iK 164 [28,29]),aG 31 30,iA 32 (wAV [(0,1,oI 1),(1,1,.t 31)]),iA 8 wAO,wAB 8 32] (.seq (iS [aF 33 1 8,aL 34 33,aQ 35 .eql 3 34 0] (iD 35 (.reg [aF 36 0 8,iC (.st 1 [none] (.t 36) (oI 2))]) .skip)) (.reg [aF 37 7 6,aL 38 37,aT 39 4 8,iA 40 (wA8 [(0,4,.t 39)]),iA 41 (.app 46 4 32 (.t 38) (.t 40)),aF 42 7 6,wAJ 42 41])))) (.reg [aM 26 7,aQ 27 .add 3 26 1,aM 7 27])))))) (iS [aT 43 8 6,wAC 4 43,aO 5 true] .ret))))
theorem jj0:fnC Tryz.prog Tryz.f110=some (jhA,[.cell 4 true 8,.t 5],44):=by kernel_rfl
theorem jn3 (id:Int) (p:Pl) (hid:1<=id/\id<=9999) (hp:jo p=0):jW Tryz.prog 114 [.c (.val (.int .i64 id)),.agg (jd p)] (.tup [(true,je (jN id p)),(false,[.val (.bool true)])]):=by
 refine pf_ jjL ?_;unfold jhl;obtain ⟨n,hn,d9,cF,dH,bU,aW,-⟩:=jbJ hp;have hi:decide (1<=id/\id<=9999)=true:=decide_eq_true hid;have sP:(jo p !=0)=false:=by simp [hp]
 simp only [go_sem,jd];intro b3 b4;refine jm (jI id 1 9999) λη=>?_
 simp only [go_sem];simp only [go_sem,hi];refine jm (vS p) λη=>?_
 simp only [go_sem];simp only [go_sem,sP];refine jm (jeT p (by omega)) λbD=>?_
 simp only [go_sem,jd];intro b6;refine qY (λi:Nat×jf=>St.of [(3,Bx 300 b3),(4,Bx 400 b4),(6,Bx 600 b6),(7,Ni i.1)] [(300,Bi b3 _ (jd p)),(400,ZRn b4 tRn),(600,ja1 b6 tRn ⟨id,p,1,zh p i.1⟩ (bD 4) i.2)]) (λi=>i.1<=n) (λi=>n-i.1) (0,jbL) (jt [300,400,600] (by simp only [go_sem,jd,jxN]<;>trivial)) ?_
 rintro ⟨k,η⟩ hk;dsimp only at hk;by_cases aB:k<n
 ·have aA:(k:Int)<p.aNA:=by omega
  have hw:=kx k;have cH:=jxM p k;have fX:=jaS p k;generalize zh p k=M at*;have m1:M.length+1<=maxLen:=zy;have m2:(M.length+1)*32<=140737488355328:=by omega
  simp only [go_sem,jd,aA];refine jm (jcy p k n hn cF dH) λη=>?_
  simp only [go_sem];generalize hL:(zG p k).length=L at*;intro b8;by_cases h0:0<L
  ·have eU:(0:Int)<(L:Int):=by omega
   have hT:jmn p k=⟨1,(L:Int),0,0⟩:=by simp [jmn,hL,h0]
   rw [hT] at cH;simp only [go_sem,jd,je,eU,m1,m2,jgc,hw];intro tM l7;exact qf (k+1,l7) (jt [300,400,600] (by simp only [go_sem,cH]<;>trivial))
  ·have eU:¬(0:Int)<(L:Int):=by omega
   have hT:jmn p k=⟨2,(L:Int),0,0⟩:=by simp [jmn,hL,h0]
   rw [hT] at cH;simp only [go_sem,jd,je,eU,m1,m2,jgc,hw];intro tM l7;exact qf (k+1,l7) (jt [300,400,600] (by simp only [go_sem,cH]<;>trivial))
 have aA:¬(k:Int)<p.aNA:=by omega
 obtain rfl:k=n:=by omega
 have hr:jN id p=⟨id,p,1,zh p k⟩:=by rw [jN,hn,aNW]
 rw [hr];generalize zh p k=M at*;simp only [go_sem,jd,je,aA]
 apply kV
 simp only [go_sem]
theorem joe (id:Int) (p:Pl) (hid:1<=id/\id<=9999) (hp:jo p=0):jW Tryz.prog 110 [.c (.val (.int .i64 id)),.agg (jd p)] (.tup [(true,je (jN id p)),(false,[.val (.bool true)])]):=by
 refine pf_ jj0 ?_;unfold jhA;obtain ⟨n,hn,d9,cF,dH,bU,aW,-⟩:=jbJ hp;have hi:decide (1<=id/\id<=9999)=true:=decide_eq_true hid;have sP:(jo p !=0)=false:=by simp [hp]
 simp only [go_sem,jd];intro b3 b4;refine jm (jw id 1 9999) λη=>?_
 simp only [go_sem];simp only [go_sem,hi];refine jm (qq p (by omega)) λη=>?_
 simp only [go_sem];simp only [go_sem,sP];refine jm (jaQ p (by omega)) λbD=>?_
 simp only [go_sem,jd];intro b6;refine qY (λi:Nat×jf=>St.of [(3,Bx 300 b3),(4,Bx 400 b4),(6,Bx 600 b6),(7,Ni i.1)] [(300,Bi b3 _ (jd p)),(400,ZRn b4 tRn),(600,ja1 b6 tRn ⟨id,p,1,zh p i.1⟩ (bD 4) i.2)]) (λi=>i.1<=n) (λi=>n-i.1) (0,jbL) (jt [300,400,600] (by simp only [go_sem,jd,jxN]<;>trivial)) ?_
 rintro ⟨k,η⟩ hk;dsimp only at hk;by_cases aB:k<n
 ·have aA:(k:Int)<p.aNA:=by omega
  have hw:=kx k;have cH:=jxM p k;have fX:=jaS p k;generalize zh p k=M at*;have m1:M.length+1<=maxLen:=zy;have m2:(M.length+1)*32<=140737488355328:=by omega
  simp only [go_sem,jd,aA];refine jm (jdr p k hp) λη=>?_
  simp only [go_sem];generalize hL:(zG p k).length=L at*;intro b8;cases h0:((L:Int)==0)
  ·have eU:0<L:=by have:¬(L:Int)=0:=by simpa using h0
                   omega
   have hT:jmn p k=⟨1,(L:Int),0,0⟩:=by simp [jmn,hL,eU]
   rw [hT] at cH;simp only [go_sem,jd,je,m1,m2,jgc,hw];intro tM l7;exact qf (k+1,l7) (jt [300,400,600] (by simp only [go_sem,cH]<;>trivial))
  ·have eU:¬0<L:=by have:(L:Int)=0:=by simpa using h0
                    omega
   have hT:jmn p k=⟨2,(L:Int),0,0⟩:=by simp [jmn,hL,eU]
   rw [hT] at cH;simp only [go_sem,jd,je,m1,m2,jgc,hw];intro tM l7;exact qf (k+1,l7) (jt [300,400,600] (by simp only [go_sem,cH]<;>trivial))
 have aA:¬(k:Int)<p.aNA:=by omega
 obtain rfl:k=n:=by omega
 have hr:jN id p=⟨id,p,1,zh p k⟩:=by rw [jN,hn,aNW]
 rw [hr];generalize zh p k=M at*;simp only [go_sem,jd,je,aA]
 apply kV
 simp only [go_sem]
open Go.RowKit Go.Sort Go.Lib
theorem jeg {P:Program} (w:World) (dT sT ty elem:TypeId) (k b o dLen dCap:Nat) (a:Addr) (sLen sCap:Nat) (cs:List Value)
 (hu:P.underlying dT=some (.slice elem)) (hs:(P.info? elem).map (·.size)=some k) (hn:cs.length=Nat.min sLen dLen*k)
 (lL:∀j v,cs[j]?=some v->w.cell? (a.add j)=some v) (hc:∀j,j<cs.length->(w.cell? ⟨b,o+j,none⟩).isSome=true) (hf:∀j,j<cs.length->w.frozen? ⟨b,o+j,none⟩=false) (h1:∀v∈cs,v.oneCell'=true):
 (Builtin.copy_ #[dT,sT] ty #[.slice (some ⟨b,o,none⟩) dLen dCap,.slice (some a) sLen sCap]).run P w=.ok (goInt (Nat.min sLen dLen)) (w.setCells b o cs):=by
 have hl:=run_loadCells_list (P:=P) w a cs lL;have aH:=run_storeCells_cells (P:=P) b o cs 0 w (by simpa using hc) (by simpa using hf) h1
 cases hq:P.info? elem with
 |none=>simp [hq] at hs
 |some i=>
  have hi:i.size=k:=by simpa [hq] using hs
  simp [Builtin.copy_,run_underlying hu,Builtin.lenOf,Builtin.firstCells,sizeOf,typeInfo,hq,hi,<-hn,hl,aH]
abbrev jEb:FuncId:=176
abbrev tEs:TypeId:=35
set_option maxRecDepth 100000 in
theorem jx7 (b n c i vb vc:Nat) (cs vs:List Value) (w:World) (hi:i<n) (bY:n+1<=c) (yL:c<=9223372036854775807) (pN:vb≠b)
 (cV:cs.length=n*4) (bQ:vs.length=4)
 (fE:∀j v,cs[j]?=some v->w.cell? ⟨b,j,none⟩=some v) (lM:∀j,j<(n+1)*4->(w.cell? ⟨b,j,none⟩).isSome=true) (s8:∀j,j<(n+1)*4->w.frozen? ⟨b,j,none⟩=false)
 (mK:∀j v,vs[j]?=some v->w.cell? ⟨vb,j,none⟩=some v) (yY:∀v∈cs,v.oneCell'=true) (h1v:∀v∈vs,v.oneCell'=true)
 (tA tB:TypeId) (kA kB:Nat) (hsa:w.shape? vb=some (tA,kA)) (hsb:w.shape? b=some (tB,kB)) (hkB:kB≠0) (pY:w.frozen? ⟨vb,0,none⟩=false) (yD:w.frozen? ⟨vb,kA,none⟩=false):
 Calls Tryz.prog jEb #[.slice (some ⟨b,0,none⟩) n c,.int .i64 i,.slice (some ⟨vb,0,none⟩) 1 vc] w λe w'=>
  e=.returned (.slice (some ⟨b,0,none⟩) (n+1) c)/\w'=(w.drew.setCells b ((i+1)*4) (cs.drop (i*4))).setCells b (i*4) vs:=by
 have wR:¬((1:Int)=0):=by omega
 have hz2:¬((i:Int)=(n:Int)):=by omega
 have hov:∀lb cb,(callFunc 196 #[.slice (some ⟨vb,0,none⟩) 1 vc,.slice (some ⟨b,(i+1)*4,none⟩) lb cb]).run Tryz.prog w=.ok (.value (.bool false)) w:=λlb cb=>by
  rw [run_callFunc_extern Tryz.func196 (by kernel_rfl) (by kernel_rfl) (by kernel_rfl) (e:=Extern.SlicesOverlaps.overlaps #[tEs,tEs] #[4]) (by kernel_rfl),
   Lib.run_overlaps_apart w tEs 4 tEn slEn.1 4 Tryz.sizeOf44 ⟨vb,0,none⟩ ⟨b,(i+1)*4,none⟩ 1 vc lb cb pN tA tB kA kB hsa hsb hkB pY yD]
  rfl
 have hu:Tryz.prog.underlying tEs=some (.slice tEn):=slEn.1;have mixed:Tryz.prog.follows .mixedOrders=true:=by kernel_rfl
 have t105:=Tryz.underlying35;have a105:=Tryz.isAgg35;have z105:=Tryz.sizeOf35;have u3:=Tryz.underlying3;have a3:=Tryz.isAgg3;have z3:=Tryz.sizeOf3;have u4:=Tryz.underlying4;have z107:=Tryz.sizeOf44;have fN:(cs.drop (i*4)).length=(n-i)*4:=by rw [aOI,cV];omega
 have e9:IntKind.i64.wrap ((i:Int)+1)=(i:Int)+1:=by rw [IntKind.wrap_i64];omega
 have pK:IntKind.i64.wrap ((n:Int)+1)=(n:Int)+1:=by rw [IntKind.wrap_i64];omega
 have aY:(0:Int)<=(i:Int)+1:=by omega
 have n7:(0:Int)<=(n:Int)+1:=by omega
 have bW:i<=n:=by omega
 have wY:((i:Int)+1).toNat=i+1:=by omega
 have aIA:((n:Int)+1).toNat=n+1:=by omega
 have bM:¬(c=i+1):=by omega
 have hb3:(i:Int)<=(n:Int)+1:=by omega
 have hb4:¬(c=i):=by omega
 have i8:¬((n:Int)+1>(c:Int)):=by omega
 have yJ:∀ty dc sc,(Builtin.copy_ #[tEs,tEs] ty #[.slice (some ⟨b,(i+1)*4,none⟩) (n-i) dc,.slice (some ⟨b,i*4,none⟩) (n+1-i) sc]).run Tryz.prog w.drew=.ok (goInt (Nat.min (n+1-i) (n-i))) (w.drew.setCells b ((i+1)*4) (cs.drop (i*4))):=λty dc sc=>
  jeg w.drew _ _ ty tEn 4 b ((i+1)*4) (n-i) dc ⟨b,i*4,none⟩ (n+1-i) sc (cs.drop (i*4)) hu jHm (by rw [fN];congr 1;simp only [Nat.min_def];split<;>omega)
   (λj v hj=>by rw [Addr.add_lit];exact fE (i*4+j) v (by rwa [aPR] at hj))
   (λj hj=>lM _ (by omega)) (λj hj=>s8 _ (by omega)) (λv hv=>yY v (aQT hv))
 obtain ⟨W1,lW⟩:∃W1,W1=w.drew.setCells b ((i+1)*4) (cs.drop (i*4)):=⟨_,rfl⟩
 have aBX:∀k,k<(n+1)*4->(W1.cell? ⟨b,k,none⟩).isSome=true:=λk hk=>by
  rw [lW];exact isSome_setCells b (cs.drop (i*4)) ((i+1)*4) w.drew (λj hj=>lM _ (by omega)) k (lM k hk)
 have aDM:∀(W:World),(∀x,W.cell? x=W1.cell? x)->(∀x,W.frozen? x=W1.frozen? x)->∀ty dc,(Builtin.copy_ #[tEs,tEs] ty #[.slice (some ⟨b,i*4,none⟩) (n+1-i) dc,.slice (some ⟨vb,0,none⟩) 1 vc]).run Tryz.prog W=.ok (goInt (Nat.min 1 (n+1-i))) (W.setCells b (i*4) vs):=λW tG yQ ty dc=>
  jeg W _ _ ty tEn 4 b (i*4) (n+1-i) dc ⟨vb,0,none⟩ 1 vc vs hu jHm (by rw [bQ];simp only [Nat.min_def];split<;>omega)
   (λj v hj=>by
    rw [Addr.add_lit,aPH,tG,lW,World.cell?_setCells_out b _ _ _ _ (λh _=>absurd h pN)]
    exact mK j v hj)
   (λj hj=>by rw [tG];exact aBX _ (by omega)) (λj hj=>by rw [yQ,lW,World.frozen?_setCells];exact s8 _ (by omega)) h1v
 rw [<-lW] at yJ
 go_enter Tryz.func176,Tryz.ntmps176
 go_wp2_with (simp only [hov])
 go_region_law_o (refine step_copy_runI rfl _ _ tEs tEs rfl _ _ (by simp [Act.eval,Act.put]) (by simp [Act.eval,Act.put]) (yJ _ _ _) ?_)
 go_wp2_with (at_builtin;refine wpList_copy_runI _ rfl _ _ tEs tEs rfl _ _ rfl rfl (aDM _ (λ_=>rfl) (λ_=>rfl) _ _) ?_)
 go_ret
 first|exact ⟨rfl,rfl⟩|exact ⟨rfl,by rw [lW]⟩
set_option maxRecDepth 100000 in
theorem jAQ (b n c i vb vc:Nat) (cs vs:List Value) (w:World) (hi:i<n) (mR:n<=c) (bY:c<n+1) (rT:(n+1)*32<=140737488355328)
 (cV:cs.length=n*4) (bQ:vs.length=4)
 (fE:∀j v,cs[j]?=some v->w.cell? ⟨b,j,none⟩=some v) (mK:∀j v,vs[j]?=some v->w.cell? ⟨vb,j,none⟩=some v) (yY:∀v∈cs,v.oneCell'=true) (h1v:∀v∈vs,v.oneCell'=true):
 Calls Tryz.prog jEb #[.slice (some ⟨b,0,none⟩) n c,.int .i64 i,.slice (some ⟨vb,0,none⟩) 1 vc] w λe w'=>∃(G:Nat) (ROW:Array Value),n+1<=G/\G<=maxLen/\ROW.size=G*4/\(∀j,j<i*4->ROW[j]?=cs[j]?)/\
  e=.returned (.slice (some ⟨w.heap.size,0,none⟩) (n+1) G)/\
  w'=(((w.alloc (.cells ROW tEn)).drew.setCells w.heap.size (i*4) vs).drew).setCells w.heap.size ((i+1)*4) (cs.drop (i*4)):=by
 have hu:Tryz.prog.underlying tEs=some (.slice tEn):=slEn.1;have mixed:Tryz.prog.follows .mixedOrders=true:=by kernel_rfl
 have t105:=Tryz.underlying35;have a105:=Tryz.isAgg35;have z105:=Tryz.sizeOf35;have u3:=Tryz.underlying3;have a3:=Tryz.isAgg3;have z3:=Tryz.sizeOf3;have u4:=Tryz.underlying4;have z107:=Tryz.sizeOf44;obtain ⟨i0,zv,sZ,fQ,oA,nS,wP⟩:=slEn.info;have wR:¬((1:Int)=0):=by omega
 have hz2:¬((i:Int)=(n:Int)):=by omega
 have hz3:(c:Int)<(n:Int)+1:=by omega
 have hbw:b<w.heap.size:=block_lt_of_cell (fE 0 _ (aNS (by omega)))
 have hvw:vb<w.heap.size:=block_lt_of_cell (mK 0 _ (aNS (by omega)))
 have z9:(n:Int)+1-(i:Int)=((n+1-i:Nat):Int):=by omega
 have x6:i+(n+1-i)=n+1:=by omega
 have oL:(Builtin.firstCells i0.size i (.slice (some ⟨b,0,none⟩) i c)).run Tryz.prog w.drew=.ok (cs.take (i*4)).toArray w.drew:=by
  rw [nS]
  exact run_firstCells_some (w:=w.drew) 4 i ⟨b,0,none⟩ i c (cs.take (i*4)) (by rw [aNV];omega) (λj v hj=>by
   rw [Addr.add_lit,aPH];rw [aPW] at hj;split at hj
   ·exact fE j v hj
   ·cases hj)
 have mP:∀ty,(Builtin.append_ #[tEs,3] ty #[.slice (some ⟨b,0,none⟩) i c,.int .i64 ((n:Int)+1-(i:Int))]).run Tryz.prog w=
  .ok (.slice (some ⟨w.heap.size,0,none⟩) (n+1) (grownCap w (n+1) c tEn)) (w.drew.alloc (.cells ((cs.take (i*4)).toArray++Builtin.zeroCells zv.cells (n+1-i)++Builtin.zeroCells zv.cells (grownCap w (n+1) c tEn-(n+1))) tEn)):=λty=>by
  have h:=Lib.run_append_grow_zeros w tEs 3 ty tEn i0 _ .i64 .i64 hu u3 sZ fQ (some ⟨b,0,none⟩) i c (cs.take (i*4)) oL (n+1-i) (by omega) (by omega) (by omega) (by omega) (by rw [wP];omega) (by rw [wP,x6];exact growslice_fits bY rT)
  rw [x6] at h;rw [z9];exact h
 obtain ⟨G,hG⟩:∃G,G=grownCap w (n+1) c tEn:=⟨_,rfl⟩;obtain ⟨ROW,rX⟩:∃ROW:Array Value,ROW=(cs.take (i*4)).toArray++Builtin.zeroCells zv.cells (n+1-i)++Builtin.zeroCells zv.cells (G-(n+1)):=⟨_,rfl⟩;rw [<-hG] at mP;rw [<-rX] at mP;have n9:zv.cells.size=4:=by rw [oA];rfl
 have hGn:n+1<=G:=by rw [hG];exact grownCap_ge w _ _ _
 have hGm:G<=maxLen:=by rw [hG];exact grownCap_le_maxLen w (n+1) c tEn (by unfold maxLen;omega)
 have hRs:ROW.size=G*4:=by
  rw [rX];simp [Builtin.zeroCells,n9];omega
 have hRt:∀j,j<i*4->ROW[j]?=cs[j]?:=λj hj=>by
  rw [rX,Array.append_assoc,Array.getElem?_append_left (by simp;omega)]
  simp [hj]
 have hRl:(n+1)*4<=ROW.size:=by rw [hRs];omega
 obtain ⟨W1,lW⟩:∃W1,W1=w.drew.alloc (.cells ROW tEn):=⟨_,rfl⟩;rw [<-lW] at mP
 have hN:∀j,j<(n+1)*4->(W1.cell? ⟨w.heap.size,j,none⟩).isSome=true:=λj hj=>by
  rw [lW,World.cell?_alloc_at (w:=w.drew) ROW _ w.heap.size j rfl,Array.getElem?_eq_getElem (by omega)];rfl
 have hNf:∀j,W1.frozen? ⟨w.heap.size,j,none⟩=false:=λj=>by rw [lW];exact World.frozen?_alloc_at (w:=w.drew) ROW _ w.heap.size j rfl
 have hOb:∀j v,w.cell? ⟨b,j,none⟩=some v->W1.cell? ⟨b,j,none⟩=some v:=λj v h=>by rw [lW,World.cell?_alloc_past (w:=w.drew) _ b j hbw];exact h
 have hOv:∀j v,w.cell? ⟨vb,j,none⟩=some v->W1.cell? ⟨vb,j,none⟩=some v:=λj v h=>by rw [lW,World.cell?_alloc_past (w:=w.drew) _ vb j hvw];exact h
 have aDL:∀(W:World),(∀x,W.cell? x=W1.cell? x)->(∀x,W.frozen? x=W1.frozen? x)->∀ty dc,(Builtin.copy_ #[tEs,tEs] ty #[.slice (some ⟨w.heap.size,i*4,none⟩) (n+1-i) dc,.slice (some ⟨vb,0,none⟩) 1 vc]).run Tryz.prog W=.ok (goInt (Nat.min 1 (n+1-i))) (W.setCells w.heap.size (i*4) vs):=λW tG yQ ty dc=>
  jeg W _ _ ty tEn 4 w.heap.size (i*4) (n+1-i) dc ⟨vb,0,none⟩ 1 vc vs hu jHm (by rw [bQ];simp only [Nat.min_def];split<;>omega)
   (λj v hj=>by rw [Addr.add_lit,aPH,tG];exact hOv _ v (mK j v hj))
   (λj hj=>by rw [tG];exact hN _ (by omega)) (λj hj=>by rw [yQ];exact hNf _) h1v
 have aKZ:G<=9223372036854775807:=by
  unfold maxLen at hGm;omega
 have hGi:¬(G=i):=by omega
 have aKY:¬(G=i+1):=by omega
 have hci:¬(c=i):=by omega
 have hbN:b≠w.heap.size:=by omega
 have fN:(cs.drop (i*4)).length=(n-i)*4:=by rw [aOI,cV];omega
 have yI:∀(W:World),(∀x,W.cell? x=(W1.setCells w.heap.size (i*4) vs).cell? x)->(∀x,W.frozen? x=(W1.setCells w.heap.size (i*4) vs).frozen? x)->∀ty dc sc,(Builtin.copy_ #[tEs,tEs] ty #[.slice (some ⟨w.heap.size,(i+1)*4,none⟩) (n-i) dc,.slice (some ⟨b,i*4,none⟩) (n-i) sc]).run Tryz.prog W=.ok (goInt (Nat.min (n-i) (n-i))) (W.setCells w.heap.size ((i+1)*4) (cs.drop (i*4))):=λW tG yQ ty dc sc=>
  jeg W _ _ ty tEn 4 w.heap.size ((i+1)*4) (n-i) dc ⟨b,i*4,none⟩ (n-i) sc (cs.drop (i*4)) hu jHm (by rw [fN];congr 1;simp only [Nat.min_def];split<;>omega)
   (λj v hj=>by
    rw [Addr.add_lit,tG,World.cell?_setCells_out _ _ _ _ _ (λh _=>absurd h hbN)]
    exact hOb _ v (fE (i*4+j) v (by rwa [aPR] at hj)))
   (λj hj=>by rw [tG];exact isSome_setCells w.heap.size vs (i*4) W1 (λt ht=>hN _ (by omega)) _ (hN _ (by omega)))
   (λj hj=>by rw [yQ,World.frozen?_setCells];exact hNf _) (λv hv=>yY v (aQT hv))
 subst lW;have hE1:∀x,((w.alloc (.cells ROW tEn)).drew).cell? x=(w.drew.alloc (.cells ROW tEn)).cell? x:=λx=>rfl
 have hE2:∀x,((w.alloc (.cells ROW tEn)).drew).frozen? x=(w.drew.alloc (.cells ROW tEn)).frozen? x:=λx=>rfl
 have lF:∀x,(((w.alloc (.cells ROW tEn)).drew.setCells w.heap.size (i*4) vs).drew).cell? x=((w.drew.alloc (.cells ROW tEn)).setCells w.heap.size (i*4) vs).cell? x:=λx=>rfl
 have hF2:∀x,(((w.alloc (.cells ROW tEn)).drew.setCells w.heap.size (i*4) vs).drew).frozen? x=((w.drew.alloc (.cells ROW tEn)).setCells w.heap.size (i*4) vs).frozen? x:=λx=>rfl
 have e9:IntKind.i64.wrap ((i:Int)+1)=(i:Int)+1:=by rw [IntKind.wrap_i64];omega
 have pK:IntKind.i64.wrap ((n:Int)+1)=(n:Int)+1:=by rw [IntKind.wrap_i64];omega
 have gK:IntKind.i64.wrap ((n:Int)+1-(i:Int))=(n:Int)+1-(i:Int):=by rw [IntKind.wrap_i64];omega
 have aY:(0:Int)<=(i:Int)+1:=by omega
 have bW:i<=n:=by omega
 have wY:((i:Int)+1).toNat=i+1:=by omega
 have hb3:(i:Int)<=(n:Int):=by omega
 clear z9 x6 oL rX hG hRl
 go_enter Tryz.func176,Tryz.ntmps176
 go_wp2_with (first
  |(at_builtin;refine Lib.wpList_append_run _ rfl _ _ _ _ rfl _ _ rfl rfl _ _ (mP _) ?_)
  |(at_builtin;refine wpList_copy_runI _ rfl _ _ tEs tEs rfl _ _ rfl rfl (aDL _ hE1 hE2 _ _) ?_)
  |(at_builtin;refine wpList_copy_runI _ rfl _ _ tEs tEs rfl _ _ rfl rfl (yI _ (λ_=>rfl) (λ_=>rfl) _ _ _) ?_))
 go_region_law_o (refine step_copy_runI rfl _ _ tEs tEs rfl (.slice (some ⟨w.heap.size,(i+1)*4,none⟩) (n-i) (G-(i+1))) (.slice (some ⟨b,i*4,none⟩) (n-i) (c-i)) (by simp [Act.eval,Act.put]) (by simp [Act.eval,Act.put]) (yI _ lF hF2 3 (G-(i+1)) (c-i)) ?_)
 go_wp2
 go_ret
 exact ⟨G,ROW,hGn,hGm,hRs,hRt,rfl,rfl⟩
set_option maxRecDepth 100000 in
theorem jD1 (A:Option Addr) (n c vb vc:Nat) (w:World) (v':Value) (w':World) (mR:n<=c) (yL:c<=9223372036854775807) (hA:A=none->c=0) (iH:∀a,A=some a->∃b,a=⟨b,0,none⟩)
 (aV:(Builtin.append_ #[tEs,tEs] tEs #[.slice A n c,.slice (some ⟨vb,0,none⟩) 1 vc]).run Tryz.prog w=.ok v' w'):
 Calls Tryz.prog jEb #[.slice A n c,.int .i64 n,.slice (some ⟨vb,0,none⟩) 1 vc] w λe w1=>e=.returned v'/\w1=w':=by
 have mixed:Tryz.prog.follows .mixedOrders=true:=by kernel_rfl
 have t105:=Tryz.underlying35;have a105:=Tryz.isAgg35;have z105:=Tryz.sizeOf35;have u3:=Tryz.underlying3;have a3:=Tryz.isAgg3;have z3:=Tryz.sizeOf3;have u4:=Tryz.underlying4;have z107:=Tryz.sizeOf44;have wR:¬((1:Int)=0):=by omega
 go_enter Tryz.func176,Tryz.ntmps176
 cases A with
 |none=>
  have h0:=hA rfl;subst h0;obtain rfl:n=0:=by omega
  go_wp2_with (at_builtin;refine Lib.wpList_append_run _ rfl _ _ _ _ rfl _ _ rfl rfl _ _ aV ?_)
  go_ret
  exact ⟨rfl,rfl⟩
 |some a=>
  obtain ⟨b,rfl⟩:=iH a rfl
  go_wp2_with (at_builtin;refine Lib.wpList_append_run _ rfl _ _ _ _ rfl _ _ rfl rfl _ _ aV ?_)
  all_goals (go_ret;exact ⟨rfl,rfl⟩)
def jna (l:List En) (i:Nat) (e:En):List En:=l.take i++e::l.drop i
def jL (l:List En):List Value:=l.flatMap λe=>[.int .i64 e.aNI,.int .i64 e.seq,.int .i64 e.run,.int .i64 e.aNH]
theorem zH (l:List En):(jL l).length=l.length*4:=by
 induction l with
 |nil=>rfl
 |cons a l ih=>simp only [jL,aOM,aNR] at ih⊢;simp [ih];omega
theorem jnC {w:World} {own:Bool}:∀{l:List En} {vs:List Value} {S:List Nat},RepL w own (l.flatMap jk) vs S->vs=jL l/\S=[]
 |[],_,_,h=>by obtain ⟨rfl,rfl⟩:=h;exact ⟨rfl,rfl⟩
 |e::l,vs,S,h=>by
  rw [aOM] at h;obtain ⟨v1,v2,S1,S2,rfl,rfl,h1,h2⟩:=RepL.append_inv _ h;obtain ⟨rfl,rfl⟩:=jgL h1;obtain ⟨rfl,rfl⟩:=jnC h2;exact ⟨rfl,rfl⟩
theorem jrk (w:World) (own:Bool):∀(l:List En),RepL w own (l.flatMap jk) (jL l) []
 |[]=>⟨rfl,rfl⟩
 |e::l=>by
  have:=RepL.append_ _ (jBc w own e) (jrk w own l);simpa [jL] using this
theorem jby (l:List En):∀v∈jL l,v.oneCell'=true:=by
 intro v hv;obtain ⟨e,_,h⟩:=aQQ.1 hv;simp at h;rcases h with rfl|rfl|rfl|rfl<;>rfl
theorem jrl (l:List En) (i:Nat) (hi:i<=l.length):(jL l).take (i*4)=jL (l.take i)/\(jL l).drop (i*4)=jL (l.drop i):=by
 have e1:jL l=jL (l.take i)++jL (l.drop i):=by rw [jL,jL,jL,<-aPK,aPF]
 have h1:(jL (l.take i)).length=i*4:=by rw [zH,aNV,aPD hi]
 rw [e1];exact ⟨List.take_left' h1,List.drop_left' h1⟩
theorem juo (l:List En) (i:Nat) (e:En):jL (jna l i e)=jL (l.take i)++(jL [e]++jL (l.drop i)):=by
 simp [jna,jL]
theorem jnN {w:World} {b:Nat} {cur:Array Value} {ty:TypeId} (h:w.heap[b]?=some (.cells cur ty (0,0))):w.shape? b=some (ty,cur.size)/\∀j,w.frozen? ⟨b,j,none⟩=false:=by
 refine ⟨by simp [World.shape?,h],λj=>by simp [World.frozen?,h]⟩
theorem joX {w:World} {b:Nat} {cur:Array Value} {ty:TypeId} (h:w.heap[b]?=some (.cells cur ty (0,0))) (j:Nat):w.cell? ⟨b,j,none⟩=cur[j]?:=by simp [World.cell?,h]
theorem jnH {α:Type} {us cs:List α} {k:Nat} (h:us.take k=cs) {j:Nat} {v:α} (hj:cs[j]?=some v):us[j]?=some v:=by
 rw [<-h,aPW] at hj;split at hj
 ·exact hj
 ·cases hj
theorem jBT {w:World} {b n cap:Nat} {us:List Value} {l:List En} (hb:w.heap[b]?=some (.cells us.toArray tEn (0,0))) (hn:n=l.length) (hc:n<=cap) (hm:cap<=maxLen) (hs:us.length=cap*4) (ht:us.take (n*4)=jL l):Rep w true (jg l) (.slice (some ⟨b,0,none⟩) n cap) [b]:=by
 subst hn;exact ⟨jL l,[b],[],⟨l.length,⟨zH l,.inr ⟨b,cap,us.toArray,rfl,aOL _,hb,hc,hm,by simpa using hs,by simpa using ht⟩⟩,rfl⟩,jrk _ _ _,by simp⟩
theorem jD0 (l:List En) (i:Nat) (e:En) (hi:i<=l.length) (hl:l.length<=4000000) {B:Nat} {w:World} {x x2:Value} {S1 S2:List Nat} (r1:Rep w true (jg l) x S1) (r2:Rep w true (jg [e]) x2 S2) (hF:Fresh B (S1++S2)) (hB:B<=w.heap.size):
 Calls Tryz.prog jEb #[x,.int .i64 i,x2] w λen w'=>∃v S,en=.returned v/\Rep w' true (jg (jna l i e)) v S/\Fresh B S/\Only S1 w w'/\∀s∈S,s∈S1\/w.heap.size<=s:=by
 have r1':=r1;obtain ⟨vs1,T1,o1,h1,rfl⟩:=Rep.own (enc:=jk) jtT (by decide) r1
 obtain ⟨rfl,rfl⟩:=jnC h1;obtain ⟨vs2,T2,o2,h2,rfl⟩:=Rep.own (enc:=jk) jtT (by decide) r2
 obtain ⟨rfl,rfl⟩:=jnC h2;rcases o2.2 with ⟨_,hz⟩|⟨vb,vc,cv,rfl,_,hbv,gM,sK,hv3,hv4⟩
 ·simp at hz
 simp only [aOD,aOR,aPH] at hv4⊢gM
 have mK:∀j v,(jL [e])[j]?=some v->w.cell? ⟨vb,j,none⟩=some v:=λj v hj=>by
  rw [joX hbv,<-Array.getElem?_toList];exact jnH hv4 hj
 rcases Nat.lt_or_ge i l.length with aB|s7
 ·rcases o1.2 with ⟨_,hz⟩|⟨b,c,cu,rfl,_,rU,c9,dL,hc3,gG⟩
  ·omega
  have fE:∀j v,(jL l)[j]?=some v->w.cell? ⟨b,j,none⟩=some v:=λj v hj=>by
   rw [joX rU,<-Array.getElem?_toList];exact jnH gG hj
  have hbB:B<=b:=hF.2 b (by simp [blk])
  have aJ:vb≠b:=λh=>by subst h;have:=hF.1;simp [blk] at this
  obtain ⟨t1,t2⟩:=jrl l i hi;have fM:=juo l i e;have aD:(jna l i e).length=l.length+1:=by simp [jna];omega
  have hl4:=zH l;have hd4:(jL (l.drop i)).length=(l.length-i)*4:=by rw [zH,aOI]
  have ht4:(jL (l.take i)).length=i*4:=by rw [zH,aNV,aPD hi]
  have he4:(jL [e]).length=4:=rfl;by_cases bY:l.length+1<=c
  ·obtain ⟨sv1,sv2⟩:=jnN hbv
   obtain ⟨sb1,sb2⟩:=jnN rU;have uL:cu.toList.length=c*4:=by simpa using hc3
   refine (jx7 b l.length c i vb vc (jL l) (jL [e]) w aB bY (by unfold maxLen at dL;omega) aJ (zH l) rfl fE (λj hj=>by rw [joX rU,Array.getElem?_eq_getElem (by omega)];rfl) (λj _=>sb2 j) mK (jby l) (jby [e]) _ _ _ _ sv1 sb1 (by omega) (sv2 0) (sv2 _)).mono ?_
   rintro en w' ⟨rfl,rfl⟩;have hcu:w.drew.heap[b]?=some (.cells cu.toList.toArray tEn (0,0)):=by rw [Array.toArray_toList];exact rU
   obtain ⟨q1,q2⟩:=qx ((jL l).drop (i*4)) w.drew b ((i+1)*4) cu.toList tEn hcu;obtain ⟨q3,q4⟩:=qx (jL [e]) _ b (i*4) _ tEn q1;have s1:=kJ ((jL l).drop (i*4)) w.drew b ((i+1)*4);have s2:=kJ (jL [e]) (w.drew.setCells b ((i+1)*4) ((jL l).drop (i*4))) b (i*4);refine ⟨_,[b],rfl,jBT q3 aD.symm bY dL ?_ ?_,Fresh.one _ _ hbB,⟨by rw [s2.1,s1.1];rfl,by rw [s2.2.1,s1.2.1];rfl,by rw [s2.2.2.1,s1.2.2.1];rfl,by rw [s2.2.2.2,s1.2.2.2];exact aOC _,λk hk z8=>?_⟩,λs hs=>.inl (by simpa [blk] using hs)⟩
   ·rw [t2,kY _ _ _ (by rw [kY _ _ _ (by omega)];simp only [aNR,aNV,aOI];omega),kY _ _ _ (by omega)]
    simp only [aNR,aNV,aOI];omega
   ·rw [t2,kY (jL (l.drop i)) cu.toList _ (by omega)]
    have p1:cu.toList.take ((i+1)*4)=cu.toList.take (i*4)++(cu.toList.drop (i*4)).take 4:=by
     rw [show (i+1)*4=i*4+4 by omega,List.take_add]
    have p2:cu.toList.take (i*4)=jL (l.take i):=by
     rw [<-t1,<-gG,List.take_take,aPD (by omega)]
    have p3:((cu.toList.drop (i*4)).take 4).length=4:=by rw [aNV,aOI];omega
    rw [p1,p2];generalize (cu.toList.drop (i*4)).take 4=X at p3;generalize cu.toList.drop ((i+1)*4+(jL (l.drop i)).length)=Y
    have hX0:ky X 0 (jL [e])=jL [e]:=by
     rw [kY _ _ _ (by omega),aOW,aOQ,List.drop_eq_nil_of_le (by omega),aOP]
    have hA:jL (l.take i)++X++jL (l.drop i)++Y=jL (l.take i)++(X++(jL (l.drop i)++Y)):=by simp only [aOB]
    rw [hA,jps (j:=0) (by omega) (by omega),hX0,fM]
    have dO:jL (l.take i)++(jL [e]++(jL (l.drop i)++Y))=(jL (l.take i)++(jL [e]++jL (l.drop i)))++Y:=by simp only [aOB]
    rw [dO];exact List.take_left' (by simp only [aNR];omega)
   ·rw [q4 k (by simpa [blk] using z8),q2 k (by simpa [blk] using z8)];rfl
  ·refine (jAQ b l.length c i vb vc (jL l) (jL [e]) w aB c9 (by omega) (by omega) (zH l) rfl fE mK (jby l) (jby [e])).mono ?_
   rintro en w' ⟨G,ROW,g1,g2,g3,g4,rfl,rfl⟩;have bR:ROW.toList.length=G*4:=by simpa using g3
   have cD:((w.alloc (.cells ROW tEn)).drew).heap[w.heap.size]?=some (.cells ROW.toList.toArray tEn (0,0)):=by
    rw [Array.toArray_toList];exact heap_alloc_new w (.cells ROW tEn)
   obtain ⟨q1,q2⟩:=qx (jL [e]) ((w.alloc (.cells ROW tEn)).drew) w.heap.size (i*4) ROW.toList tEn cD;obtain ⟨q3,q4⟩:=qx ((jL l).drop (i*4)) (((w.alloc (.cells ROW tEn)).drew.setCells w.heap.size (i*4) (jL [e])).drew) w.heap.size ((i+1)*4) _ tEn q1;have s1:=kJ (jL [e]) ((w.alloc (.cells ROW tEn)).drew) w.heap.size (i*4);have s2:=kJ ((jL l).drop (i*4)) (((w.alloc (.cells ROW tEn)).drew.setCells w.heap.size (i*4) (jL [e])).drew) w.heap.size ((i+1)*4);have nO:Below w.heap.size w (w.alloc (.cells ROW tEn)):=(Below.refl _ _).alloc (by simp) _
   refine ⟨_,[w.heap.size],rfl,jBT q3 aD.symm g1 g2 ?_ ?_,Fresh.one _ _ hB,⟨by rw [s2.1];exact s1.1.trans nO.os,by rw [s2.2.1];exact s1.2.1.trans nO.tape,by rw [s2.2.2.1];exact s1.2.2.1.trans nO.output,?_,λk hk z8=>?_⟩,λs hs=>.inr (by simp at hs;omega)⟩
   ·rw [t2,kY _ _ _ (by rw [kY _ _ _ (by omega)];simp only [aNR,aNV,aOI];omega),kY _ _ _ (by omega)]
    simp only [aNR,aNV,aOI];omega
   ·rw [t2,kY (jL [e]) ROW.toList _ (by omega)]
    have p2:ROW.toList.take (i*4)=jL (l.take i):=by
     rw [<-t1]
     apply aPY
     intro j;rw [aPW,aPW];split
     ·rename_i hj;rw [Array.getElem?_toList];exact g4 j hj
     ·rfl
    rw [p2];generalize hY:ROW.toList.drop (i*4+(jL [e]).length)=Y;have hYl:Y.length=G*4-(i*4+4):=by rw [<-hY,aOI,bR,he4]
    have hA:(jL (l.take i)++jL [e]++Y).take ((i+1)*4)=jL (l.take i)++jL [e]:=List.take_left' (by rw [aNR,ht4,he4];omega)
    rw [kY _ _ _ (by simp only [aNR];omega),hA,fM,<-aOB (jL (l.take i)) (jL [e])]
    exact List.take_left' (by simp only [aNR];omega)
   ·have h5:=nO.size
    have h6:(w.alloc (.cells ROW tEn)).drew.heap.size=(w.alloc (.cells ROW tEn)).heap.size:=rfl;rw [s2.2.2.2];show _<=((w.alloc (.cells ROW tEn)).drew.setCells w.heap.size (i*4) (jL [e])).heap.size;rw [s1.2.2.2,h6];exact h5
   ·rw [q4 k (by omega)]
    show ((w.alloc (.cells ROW tEn)).drew.setCells w.heap.size (i*4) (jL [e])).heap[k]?=_;rw [q2 k (by omega)]
    exact nO.block k hk
 ·obtain rfl:i=l.length:=by omega
  obtain ⟨i0,zv,sZ,fQ,oA,nS,wP⟩:=slEn.info;have hzo:vE Tryz.prog tEn=some [.int .i64 0,.int .i64 0,.int .i64 0,.int .i64 0]:=by kernel_rfl
  have bE:Rep w true (.sl i0.size tEn (l.flatMap jk)) x (blk x++[]):=by rw [nS];exact r1'
  obtain ⟨v',w',S',k1,k2,k3,k4,k5⟩:=jns (P:=Tryz.prog) (B:=B) (ty:=tEs) (t:=tEs) (ys:=[e].flatMap jk) (c:=vc) (m:=1) slEn.1 sZ hzo (by omega) bE (jrk w true [e]) (by rw [nS];rfl) (A:=some ⟨vb,0,none⟩) (λh=>by cases h) (λad had j u hj=>by
   cases had;rw [Addr.add_lit,aPH];exact mK j u hj) (jby [e]) (by simpa using hF.left) hB (by rw [nS,jC jtT,jC jtT];simp [maxLen];omega) (by rw [nS,wP,jC jtT,jC jtT];simp;omega)
  have cK:jna l l.length e=l++[e]:=by simp [jna]
  rw [nS,<-aPK] at k2
  have key:∀(A:Option Addr) (n c:Nat),x=.slice A n c->n=l.length->n<=c->c<=maxLen->(A=none->c=0)->(∀a,A=some a->∃b,a=⟨b,0,none⟩)->Calls Tryz.prog jEb #[x,.int .i64 l.length,.slice (some ⟨vb,0,none⟩) 1 vc] w λe w1=>e=.returned v'/\w1=w':=λA n c hx hn mR n6 hA iH=>by
   subst hx;subst hn;exact jD1 A l.length c vb vc w v' w' mR (by unfold maxLen at n6;omega) hA iH k1
  have hC:Calls Tryz.prog jEb #[x,.int .i64 l.length,.slice (some ⟨vb,0,none⟩) 1 vc] w λe w1=>e=.returned v'/\w1=w':=by
   rcases o1.2 with ⟨rfl,h0⟩|⟨b,c,cu,rfl,_,rU,c9,dL,hc3,gG⟩
   ·exact key none 0 0 rfl h0.symm (aOC _) (aOL _) (λ_=>rfl) (λa h=>by cases h)
   ·exact key _ _ c rfl rfl c9 dL (λh=>by cases h) (λa h=>by cases h;exact ⟨_,rfl⟩)
  refine hC.mono ?_;rintro en w1 ⟨rfl,rfl⟩;refine ⟨v',S',rfl,by rw [cK];exact k2,k3,k4,λs hs=>?_⟩
  rcases k5 s hs with h|h|h
  ·exact .inl h
  ·simp at h
  ·exact .inr h
theorem jkh (l:List En) (i:Nat) (e:En) (hi:i<=l.length) (hl:l.length<=4000000) {o:Nat->Ob} {g g2:Nat} {η aS:jf} (ho:o g=.loose (jg l) η) (sQ:o g2=.loose (jg [e]) aS) (aJ:g2≠g):
 Turns Tryz.prog jEb [.c (.h g 0 [] (η [])),.c (.v (.int .i64 i)),.c (.h g2 0 [] (aS []))] o (λrt o'=>rt=.c (jg (jna l i e))/\o'=λk=>if k=g2 then .none else if k=g then .none else o k):=
 ⟨⟨_,Tryz.func176,by kernel_rfl,by kernel_rfl⟩,λB w F xs hR m8=>by
   obtain ⟨x,xs1,rfl,⟨rfl,_⟩,_,xs2,rfl,rfl,x2,xs3,rfl,⟨rfl,_⟩,rfl⟩:=m8;have h1:=hR.ob g;have h2:=hR.ob g2;simp only at h1 h2;rw [ho] at h1;rw [sQ] at h2;obtain ⟨_,u1,r1,e1⟩:=h1;obtain ⟨_,u2,r2,e2⟩:=h2;have q1:η []=u1:=e1 [];have q2:aS []=u2:=e2 [];rw [q1,q2];have hB:B<=w.heap.size:=aPC hR.hB hR.below.size;have lF:=hR.fr g;have hF2:=hR.fr g2;have aB:∀k,∀b∈F k,b<w.heap.size:=λk b hb=>(hR.ob k).lt b hb
   have hF:Fresh B (F g++F g2):=⟨aNY.2 ⟨lF.1,hF2.1,λa ha b hb nP=>hR.dj g g2 (Ne.symm aJ) a ha (nP▸hb)⟩,λb hb=>by
    rcases aNT.1 hb with hb|hb
    ·exact lF.2 b hb
    ·exact hF2.2 b hb⟩
   refine (jD0 l i e hi hl r1 r2 hF hB).mono ?_;rintro en w' ⟨v,S,rfl,bE,gE,dJ,hS⟩;have t1:=(hR.setO (g:=g) (ob:=.none) (S:=[]) rfl (Fresh.nil _) (by simp)).setO (g:=g2) (ob:=.none) (S:=[]) rfl (Fresh.nil _) (by simp)
   have t2:=t1.world' (dJ.below (λs hs=>lF.2 s hs) hB) λk b hb=>by
    split at hb
    ·simp at hb
    ·split at hb
     ·simp at hb
     ·rename_i hk
      exact dJ.block b (aB k b hb) λh=>hR.dj k g hk b hb h
   refine ⟨v,.c (jg (jna l i e)),_,S,_,rfl,t2,bE,gE,λk b hb=>?_,rfl,rfl⟩
   split
   ·simp
   ·split
    ·simp
    ·rename_i hk
     intro aZ;rcases hS b hb with h|h
     ·exact hR.dj k g hk b aZ h
     ·have:=aB k b aZ;omega⟩
structure jCz (p:En->Bool) (l L:List En) (i j:Nat):Prop where
 len:L.length=l.length
 ij:i<j
 jl:j<=l.length
 pre:L.take i=(l.take j).filter λe=>!p e
 suf:∀q,j<=q->L[q]?=l[q]?
section
variable {p:En->Bool} {l L:List En} {i j:Nat} {e:En}
theorem jG1 (h:l[i]?=some e) (he:p e=true) (hn:∀y∈l.take i,p y=false):jCz p l l i (i+1):=by
 refine ⟨rfl,by omega,(aNP.1 h).1,?_,λ_ _=>rfl⟩
 rw [aOA,h,aQA];simp only [Option.toList_some,aQV,he,Bool.not_true,aQF,if_false,List.filter_nil,aOP];exact (List.filter_eq_self.2 λy hy=>by rw [hn y hy];rfl).symm
theorem jCk (hd:jCz p l L i j) (h:l[j]?=some e) (he:p e=true):jCz p l L i (j+1):=by
 refine ⟨hd.len,by have:=hd.ij;omega,(aNP.1 h).1,?_,λq hq=>hd.suf q (by omega)⟩
 rw [hd.pre,aOA,h,aQA];simp [he]
theorem jyN (hd:jCz p l L i j) (h:l[j]?=some e) (he:p e=false):jCz p l (L.set i e) (i+1) (j+1):=by
 have hj:=(aNP.1 h).1;have h1:=hd.ij;have h2:=hd.len;refine ⟨by rw [aOE];exact h2,by omega,hj,?_,λq hq=>?_⟩
 ·rw [aOA,aNX (by omega),List.take_set_of_le (aOC _),hd.pre,aOA,h,aQA]
  simp [he]
 ·rw [aOX (by omega)];exact hd.suf q (by omega)
theorem jyO (hd:jCz p l L i l.length):L.take i=l.filter λe=>!p e:=by rw [hd.pre,aPP]
end
def kI:C:=iS [aN 4 0] (.seq (iS [aM 6 0,aG 7 6,aN 8 0] (.blk 0 (.loop (iS [aP 9 .lss 3 8 7] (.seq (iD 9 .skip (.exit 0)) (.seq (.blk 1 (iS [aM 10 8,aM 5 10] (iS [aM 11 1,aM 12 0,aM 13 5,aI 14 4 12 13,aT 15 4 14,iA 16 (.callv (.t 11) [.t 15])] (iD 16 (iS [aM 17 5,aM 4 17] .ret) .skip)))) (.reg [aQ 18 .add 3 8 1,aM 8 18]))))))) (iS [aN 4 (-1)] .ret))
theorem qM:fnC Tryz.prog Tryz.f141=some (kI,[.t 4],19):=by kernel_rfl
theorem jcg (l:List En) (f:Nat) (cd:List D) (p:En->Bool) (hf:∀x,jW Tryz.prog f [.agg (jk x),.ptr cd] (.c (.val (.bool (p x))))) (hl:l.length<=4000000):jW Tryz.prog 141 [.c (jg l),.fn f [cd]] (.c (.val (.int .i64 (jeB p l)))):=by
 refine pf_ qM ?_;unfold kI;simp only [go_sem];refine qY (λi:Nat=>St.of [(0,Ro (jg l)),(1,.fn f [.rp cd]),(7,Ni l.length),(8,Ni i)] []) (λi=>i<=l.length/\∀y∈l.take i,p y=false) (λi=>l.length-i) 0 (ze [] (by simp only [go_sem]<;>trivial)) ?_
 rintro k ⟨hk,cT⟩;by_cases aB:k<l.length
 ·have aA:(k:Int)<l.length:=by omega
  have bJ:=qX k;obtain ⟨x,hx⟩:=ja aB;have hw:=kx k;simp only [go_sem,aB,aA,bJ,jZ hx,jk];refine jkP (by simp only [go_sem];rfl) (hf x) (by simp only [go_sem,jk]) λη=>?_
  cases hp:p x
  ·simp only [go_sem,hw]
   exact ⟨k+1,⟨aB,jnG hx hp cT⟩,(ze [] (by simp only [go_sem]<;>trivial)),by (try dsimp only);omega⟩
  ·simp only [go_sem,jbQ hx hp cT]
 ·have aA:¬(k:Int)<l.length:=by omega
  rw [aNU (by omega)] at cT
  simp only [go_sem,aA,jaI cT]
def za (y:Yd) (k:Int):Yd:=if 0<=k/\k<=(y.aNC.length:Int)-1 then ⟨y.now,y.seq,y.aNC.set k.toNat (((y.aNC[k.toNat]?).getD []).filter (jU y)),y.aNE⟩ else y
theorem jsS {y:Yd} {k:Int} (h:¬(0<=k/\k<=(y.aNC.length:Int)-1)):za y k=y:=by rw [za,if_neg h]
theorem jge {y:Yd} {k:Nat} {l:List En} (h:y.aNC[k]?=some l):za y k=⟨y.now,y.seq,y.aNC.set k (l.filter (jU y)),y.aNE⟩:=by
 have:=(aNP.1 h).1;rw [za,if_pos (by omega)]
 simp [h]
theorem jyx (l:List En) (a:En):D.sl 4 tEn (l.flatMap jk++[.val (.int .i64 a.aNI),.val (.int .i64 a.seq),.val (.int .i64 a.run),.val (.int .i64 a.aNH)])=jg (l++[a]):=by simp [jg,jk]
theorem jmN (sh:List (List En)):(sh.flatMap λes=>[jg es])=sh.map jg:=by induction sh<;>simp_all
theorem jii {sh:List (List En)} {k:Nat} {l:List En} (h:sh[k]?=some l):(sh.flatMap λes=>[jg es])[k]?=some (.sl 4 tEn (l.flatMap jk)):=by
 rw [jmN,aQK,h];rfl
theorem jrF {sh:List (List En)} {k i:Nat} {l l2:List En} {ds:List D} (h:sh[k]?=some l) (hp:D.put [] i ds (jg l)=jg l2):D.put [k] i ds (ki sh)=ki (sh.set k l2):=by
 have hd:(sh.flatMap λes=>[jg es])[k]?=some (jg l):=jii h
 simp only [ki,D.put,hd,hp];simp only [jmN,List.map_set]
theorem jtd {sh:List (List En)} {k i:Nat} {l:List En} (e:En) (h:sh[k]?=some l) (hi:i<l.length):D.put [k] (i*4) [.val (.int .i64 e.aNI),.val (.int .i64 e.seq),.val (.int .i64 e.run),.val (.int .i64 e.aNH)] (ki sh)=ki (sh.set k (l.set i e)):=jrF h (juS e hi)
def jeL:En:=⟨0,0,0,0⟩
theorem jBY (n:Nat):(List.replicate n [D.val (.int .i64 0),D.val (.int .i64 0),D.val (.int .i64 0),D.val (.int .i64 0)]).flatten=(List.replicate n jeL).flatMap jk:=by
 rw [List.flatMap_replicate];rfl
theorem jCp {l:List En} {i n:Nat} (h:i+n=l.length):D.put [] (i*4) ((List.replicate n jeL).flatMap jk) (jg l)=jg (l.take i++List.replicate n jeL):=by
 have h4:∀x:En,(jk x).length=4:=λ_=>rfl
 have e1:l.flatMap jk=(l.take i).flatMap jk++(l.drop i).flatMap jk:=by rw [<-aPK,aPF]
 have l1:((l.take i).flatMap jk).length=i*4:=by rw [jC h4,aNV,aPD (by omega)]
 have l2:((l.drop i).flatMap jk).length=n*4:=by rw [jC h4,aOI];congr 1;omega
 have l3:((List.replicate n jeL).flatMap jk).length=n*4:=by rw [jC h4,aQU]
 simp only [jg,D.put];rw [kY _ _ _ (by rw [e1,aNR];omega),e1,List.take_left' l1,l3,List.drop_eq_nil_of_le (by rw [aNR];omega),aOP,aPK]
theorem jA1:∀{l m:List D},(∀x∈m,x∈l)->ka l=true->ka m=true:=by
 intro l m h hl
 have key:∀{l:List D},ka l=true↔∀x∈l,∃u,x=.val u/\u.oneCell'=true:=by
  intro l
  induction l with
  |nil=>simp [ka]
  |cons a l ih=>
   cases a with
   |val u=>
    simp only [ka,aOF,ih,aOK];constructor
    ·rintro ⟨h1,h2⟩ x (rfl|hx)
     ·exact ⟨u,rfl,h1⟩
     ·exact h2 x hx
    ·intro h
     refine ⟨?_,λx hx=>h x (.inr hx)⟩
     obtain ⟨v,h1,h2⟩:=h _ (.inl rfl);cases h1;exact h2
   |sl a b c=>
    simp only [ka,aQF,false_iff];intro h;obtain ⟨v,h1,_⟩:=h _ (List.mem_cons_self);cases h1
 exact key.2 λx hx=>key.1 hl x (h x hx)
theorem jqz (l:List En) (a b:Nat):ka (((l.flatMap jk).drop a).take b)=true:=jA1 (λx hx=>aQT (aQM hx)) (jbi l)
def jeY (sh:List (List En)) (n:Nat) (v:Value):D:=.sl 1 jro ((sh.flatMap λes=>[jg es]).set n (.val v))
theorem jgG (sh:List (List En)) (n:Nat) (v:Value):D.sl 1 jro ((sh.flatMap λes=>[jg es]).set n (.val v))=jeY sh n v:=rfl
theorem jkI (sh:List (List En)) (n:Nat) (v:Value):(jeY sh n v).isSl=true:=rfl
theorem jkC (sh:List (List En)) (n:Nat) (v:Value):(jeY sh n v).size=1:=rfl
theorem jgv (sh:List (List En)) (n:Nat) (v:Value):(jeY sh n v).len=sh.length:=by simp [jeY,D.len,D.cells,D.size,jmN]
theorem jbW (sh:List (List En)) (n:Nat) (v:Value):(jeY sh n v).cells.length=sh.length:=by simp [jeY,D.cells,jmN]
theorem jgn {sh:List (List En)} {n:Nat} (v:Value) (l:List En) (h:n<sh.length):D.put [] n [jg l] (jeY sh n v)=ki (sh.set n l):=by
 simp only [jeY,D.put,ky,ki,jmN,aPE,List.map_set]
theorem jnd (o:Nat->Ob) (g c g2:Nat) (d:D) (aC:jf) (d2:D) (aS:jf) (j:Nat):jD5 o g c g2 d aC d2 aS j=if j=g2 then .loose d2 aS else if j=g then (o g).putOwn c d aC else o j:=rfl
theorem jax {α:Type} {l:List α} {k:Nat} {x:α} (h:l[k]?=some x):l.set k x=l:=by
 apply aPY
 intro j;by_cases e:k=j
 ·subst e;rw [aNX (aNP.1 h).1,h]
 ·rw [aOX e]
def jjg:C:=iS [iA 2 (.box 27 4 (.t 0)),iA 4 wAM] (iS [aT 8 4 2,iA 9 (iK 67 [8]),iA 5 wAM,wAA 5 9] (.seq (iS [aM 10 1,aF 11 2 2,aL 12 11,aG 13 12,aQ 14 .sub 3 13 1,iA 15 (.call 68 [.t 10,oI 0,.t 14]),aU 16 15] (iD 16 (iS [aT 17 4 5,wAA 4 17] .ret) .skip)) (iS [iA 18 (wA2 []),aM 6 18] (.seq (iS [aN 7 0] (.blk 0 (.loop (.seq (iS [aM 19 7,aF 20 2 2,aL 21 20,aM 22 1,aI 23 1 21 22,aL 24 23,aG 25 24,aP 26 .lss 3 19 25] (iD 26 .skip (.exit 0))) (.seq (.blk 1 (.seq (.dreg (tA 0 29 (iT 4 2) (tA 1 30 (iF 2 2) (tA 2 31 (iL 30) (tA 3 32 (iM 1) (tA 4 33 (iI 1 31 32) (tA 5 34 (iL 33) (tA 6 35 (iM 7) (tA 7 36 (iI 4 34 35) (tA 8 37 (iT 4 36) (tC 38 (iK 75 [29,37]) [] .done .stop))))))))))) (iD 38 (.reg [aM 39 6,aF 40 2 2,aL 41 40,aM 42 1,aI 43 1 41 42,aL 44 43,aM 45 7,aI 46 4 44 45,aT 47 4 46,iA 48 (wA4 [(0,4,.t 47)]),iA 49 (wBB 39 48),aM 6 49]) .skip))) (.reg [aM 27 7,aQ 28 .add 3 27 1,aM 7 28])))))) (iS [aF 50 2 5,aL 51 50,aM 52 1,aM 53 6,aI 54 1 51 52,wAF 54 53] (iS [aT 55 4 5,wAA 4 55] .ret))))))
theorem jly:fnC Tryz.prog Tryz.f23=some (jjg,[.cell 4 true 4],56):=by kernel_rfl
def jft:C:=iS [iA 2 (.box 44 4 (.t 0)),aO 3 false] (iS [aT 4 4 1,aT 5 4 2,iA 6 (iK 84 [4,5]),aU 7 6,aM 3 7] .ret)
theorem jiP:fnC Tryz.prog Tryz.f86=some (jft,[.t 3],8):=by kernel_rfl
def jjn:C:=iS [iA 2 (.box 27 4 (.t 0)),iA 4 wAM] (iS [aT 6 4 2,iA 7 (iK 61 [6]),iA 5 wAM,wAA 5 7] (.seq (iS [aM 8 1,aF 9 2 2,aL 10 9,aG 11 10,aQ 12 .sub 3 11 1,iA 13 (.call 62 [.t 8,oI 0,.t 12]),aU 14 13] (iD 14 (iS [aT 15 4 5,wAA 4 15] .ret) .skip)) (.seq (.dreg (tA 0 16 (iF 2 5) (tA 1 17 (iL 16) (tA 2 18 (iM 1) (tA 3 19 (iF 2 5) (tA 4 20 (iL 19) (tA 5 21 (iM 1) (tA 6 22 (iI 1 20 21) (tA 7 23 (iL 22) (tA 8 24 (.mkf 86 [.t 2]) (tC 25 (iK 85 [23,24]) [2,1,0] (tA 10 26 (iI 1 17 18) (.alt (wAF 26 25) [] .done .stop)) .stop))))))))))) (iS [aT 27 4 5,wAA 4 27] .ret))))
theorem jlG:fnC Tryz.prog Tryz.f24=some (jjn,[.cell 4 true 4],28):=by kernel_rfl
def ke:C:=iS [iA 4 (.mov (.c (.slice none 0 0)))] (iS [aM 8 0,aM 9 1,iA 10 (iK 141 [8,9]),aM 5 10] (.seq (iS [aM 11 5,aQ 12 .eql 3 11 (-1)] (iD 12 (iS [aM 13 0,aM 4 13] .ret) .skip)) (.seq (iS [aM 14 5,aQ 15 .add 3 14 1,aM 6 15] (.blk 0 (.loop (.seq (iS [aM 16 6,aM 17 0,aG 18 17,aP 19 .lss 3 16 18] (iD 19 .skip (.exit 0))) (.seq (.blk 1 (iS [aM 22 0,aM 23 6,aI 24 4 22 23,aT 25 4 24,iA 7 wAQ,wAB 7 25] (iS [aM 26 1,aT 27 4 7,iA 28 (.callv (.t 26) [.t 27]),aU 29 28] (iD 29 (iS [aM 30 0,aM 31 5,aT 32 4 7,aI 33 4 30 31,wAB 33 32] (.reg [aM 34 5,aQ 35 .add 3 34 1,aM 5 35])) .skip)))) (.reg [aM 20 6,aQ 21 .add 3 20 1,aM 6 21])))))) (iS [aM 36 0,aM 37 5,iA 38 (.sl 4 (.t 36) (some (.t 37)) none),iC (.clr 4 [D.val (.int .i64 0),D.val (.int .i64 0),D.val (.int .i64 0),D.val (.int .i64 0)] (.t 38))] (iS [aM 39 0,aM 40 5,iA 41 (.sl 4 (.t 39) none (some (.t 40))),aM 4 41] .ret)))))
theorem kw:fnC Tryz.prog Tryz.f85=some (ke,[.t 4],42):=by kernel_rfl
theorem ji5 (y:Yd) (k:Int) (ht:jn y<=2000000):jW Tryz.prog 23 [.agg (jc y),.c (.val (.int .i64 k))] (.agg (jc (za y k))):=by
 refine pf_ jly ?_;unfold jjg;have fJ:y.aNC.length<=2000000:=by simp only [jn,jbp] at ht;omega
 have tS:IntKind.i64.wrap ((y.aNC.length:Int)-1)=(y.aNC.length:Int)-1:=vF;simp only [go_sem,jc];intro b2 b4;refine jm (km y ht) λbD=>?_
 simp only [go_sem,jc];intro b5;simp only [go_sem,tS];refine jm (jI k 0 (y.aNC.length-1)) λη=>?_
 simp only [go_sem];cases h:decide (0<=k/\k<=(y.aNC.length:Int)-1)
 ·simp only [go_sem,jsS (of_decide_eq_false h)]
 have h':=aOY h;obtain ⟨n,rfl⟩:=Int.eq_ofNat_of_zero_le h'.1;have hn:n<y.aNC.length:=by omega
 have lZ:=qX n;obtain ⟨l,hl⟩:=ja hn;have eQ:=jbC ht (aNQ hl);rw [jge hl];simp only [go_sem,jif];intro wO;refine qY (λi:Nat×jf=>St.of [(1,Ni n),(2,Bx 200 b2),(4,Bx 400 b4),(5,Bx 500 b5),(6,Hd 6 i.2),(7,Ni i.1)] [(200,Bi b2 _ (jc y)),(400,ZYd b4 _),(500,kb b5 _ y.now y.seq y.aNC (bD 2) y.aNE (bD 3)),(6,.loose (jg ((l.take i.1).filter (jU y))) i.2)]) (λi=>i.1<=l.length) (λi=>l.length-i.1) (0,wO) (jt [200,400,500,1800] (by simp only [go_sem,jc,aOW,List.filter_nil]<;>trivial)) ?_
 rintro ⟨j,sF⟩ hj;dsimp only at hj;by_cases aB:j<l.length
 ·have aA:(j:Int)<l.length:=by omega
  have dX:=qX j;obtain ⟨e,he⟩:=ja aB;have hw:=kx j;have fC:=jsq (f:=jU y) he;have hU:((l.take j).filter (jU y)).length<=4000000:=aPC (aOT _ _) (by rw [aNV];omega)
  generalize (l.take j).filter (jU y)=M at*;have m1:M.length+1<=maxLen:=zy;have m2:(M.length+1)*32<=140737488355328:=by omega
  simp only [go_sem,jc,hn,lZ,qg hl,aB,aA,dX,jZ he,jk];refine jm (jpQ y e) λη=>?_
  simp only [go_sem];cases hf:jU y e
  ·rw [hf] at fC
   simp only [aQF,if_false] at fC;simp only [go_sem,hw];exact qf (j+1,sF) (jt [200,400,500,6] (by simp only [go_sem,fC]<;>trivial))
  ·rw [hf] at fC
   simp only [if_true] at fC;simp only [go_sem,hn,lZ,qg hl,aB,dX,jZ he,jk,m1,m2,jyx,hw];intro wL aAY;exact qf (j+1,aAY) (jt [200,400,500,4900] (by simp only [go_sem,fC]<;>trivial))
 have aA:¬(j:Int)<l.length:=by omega
 rw [aNU (by omega)]
 generalize l.filter (jU y)=M at*;simp only [go_sem,jc,hn,lZ,qg hl,aA,jaD hn,jxo M hn];exact λ_ _=>trivial
theorem jtl (y:Yd) (e:En):jW Tryz.prog 86 [.agg (jk e),.ptr (jc y)] (.c (.val (.bool (!jU y e)))):=by
 refine pf_ jiP ?_;unfold jft;simp only [go_sem,jc,jk];intro b2;refine jm (jpZ y e) λη=>?_
 simp only [go_sem]
theorem ji7 (y:Yd) (k:Int) (ht:jn y<=2000000):jW Tryz.prog 24 [.agg (jc y),.c (.val (.int .i64 k))] (.agg (jc (za y k))):=by
 refine pf_ jlG ?_;unfold jjn;have fJ:y.aNC.length<=2000000:=by simp only [jn,jbp] at ht;omega
 have tS:IntKind.i64.wrap ((y.aNC.length:Int)-1)=(y.aNC.length:Int)-1:=vF;simp only [go_sem,jc];intro b2 b4;refine jm (jY y ht) λbD=>?_
 simp only [go_sem,jc];intro b5;simp only [go_sem,tS];refine jm (jw k 0 (y.aNC.length-1)) λη=>?_
 simp only [go_sem];cases h:decide (0<=k/\k<=(y.aNC.length:Int)-1)
 ·simp only [go_sem,jsS (of_decide_eq_false h)]
 have h':=aOY h;obtain ⟨n,rfl⟩:=Int.eq_ofNat_of_zero_le h'.1;have hn:n<y.aNC.length:=by omega
 have lZ:=qX n;obtain ⟨l,hl⟩:=ja hn;have eQ:=jbC ht (aNQ hl);rw [jge hl];have gS:n+1<=(y.aNC.flatMap λes=>[jg es]).length:=by have:=jaD hn;rwa [aOG] at this
 have mV:((y.aNC.flatMap λes=>[jg es]).drop n).take 1=[jg l]:=by have:=jbo hl;rwa [aOG] at this
 simp only [go_sem,hn,lZ,mV,gS,aOG];refine kZ (jya ?_);refine qo (β:=7000000) Tryz.func85 kw (by simp) ?_
 unfold ke;simp only [go_sem];refine jG (jcg l _ (jc y) (λe=>!jU y e) (λx=>jtl y x) eQ) (by simp only [go_sem,jc,qy hl]) λη=>?_
 simp only [go_sem]
 have hcut:∀(L:List En) (m:Nat),m<=L.length->(L.flatMap jk).take (m*4)=(L.take m).flatMap jk:=λL m hm=>by
  have e1:L.flatMap jk=(L.take m).flatMap jk++(L.drop m).flatMap jk:=by rw [<-aPK,aPF]
  rw [e1,List.take_left' (by rw [jC jtT,aNV,aPD hm])]
 rcases zO (λe=>!jU y e) l with ⟨h1,h2⟩|⟨i0,x0,h1,h2,h3,h4⟩
 ·have hU:l.filter (jU y)=l:=List.filter_eq_self.2 λe he=>by have:=h2 e he;simpa using this
  simp only [go_sem,h1,aQC];refine ⟨500,2,n,777,l.length,4,tEn,jro,l.flatMap jk,_,bD 2,.inr ⟨rfl,(jC jtT l).symm⟩,by simp only [go_sem];rfl,jii hl,by simp only [go_sem],by decide,by decide,by rw [jC jtT];exact aOC _,λaS aC hη=>?_⟩
  rw [hcut l l.length (aOC _),aPP,hU];simp only [go_sem,jnd,jgG,hη,jkI,jkC,jgv,hn,aOG,jbW,jgn _ l hn,kC];exact ⟨hn,λ_ _=>trivial⟩
 ·have sZ:=(aNP.1 h2).1
  have aJ:((i0:Int)==-1)=false:=by simp
  have hw0:=kx i0;have oJ:=jax hl;simp only [go_sem,h1,aJ,hw0];refine kg (λi:Nat×Nat×List En=>St.of [(0,.c (.h 500 2 [n] (bD 2 [n]))),(1,.fn 86 [.bp 200 0 b2]),(5,Ni i.1),(6,Ni i.2.1)] [(200,Bi b2 _ (jc y)),(400,ZYd b4 _),(500,kb b5 _ y.now y.seq (y.aNC.set n i.2.2) (bD 2) y.aNE (bD 3))]) (λi=>jCz (λe=>!jU y e) l i.2.2 i.1 i.2.1) (λi=>l.length-i.2.1) (i0,i0+1,l) (jG1 h2 h3 h4) (jt [200,400,500] (by simp only [go_sem,jc,oJ]<;>trivial)) ?_
  rintro ⟨i,j,L⟩ hd;dsimp only at hd;have hL:(y.aNC.set n L)[n]?=some L:=aNX hn;have p9:=hd.len;have hij:=hd.ij;have bN:=hd.jl;have f6:=qX i;by_cases aB:j<l.length
  ·have aA:(j:Int)<l.length:=by omega
   have dX:=qX j;obtain ⟨e,he⟩:=ja aB;have yE:L[j]?=some e:=by rw [hd.suf j (aOC _)];exact he
   have x9:i<L.length:=by omega
   have hjL:j<L.length:=by omega
   obtain ⟨xi,lB⟩:=ja x9;have hw:=kx j;have gA:=kx i;simp only [go_sem,jc,qy hL,p9,aB,aA,dX,jvS yE,jvs yE,jk];intro b7;refine jkP (by simp only [go_sem];rfl) (jtl y e) (by simp only [go_sem,jc,jk]) λη=>?_
   cases hf:jU y e
   ·simp only [go_sem,hw]
    exact ⟨(i,j+1,L),jCk hd he (by simp [hf]),(jt [200,400,500]),by (try dsimp only);omega⟩
   ·simp only [go_sem,jk,hw,gA,qy hL,p9,f6,jvS lB,jvs lB,jtd e hL x9,aPE,(show i<l.length by omega)]
    exact ⟨(i+1,j+1,L.set i e),jyN hd he (by simp [hf]),(jt [200,400,500]),by (try dsimp only);omega⟩
  ·have aA:¬(j:Int)<l.length:=by omega
   obtain rfl:j=l.length:=by omega
   have yG:=jyO hd;have yD:l.filter (λe=>!!jU y e)=l.filter (jU y):=by simp
   rw [yD] at yG;have bW:i<=l.length:=by omega
   have iX:0<l.length-i:=by omega
   have eC:i+(l.length-i)=l.length:=by omega
   have oG:i+(l.length-i)=L.length:=by omega
   have t9:ka ((List.replicate (l.length-i) jeL).flatMap jk)=true:=jbi _;obtain ⟨L2,rZ⟩:∃L2,L2=L.take i++List.replicate (l.length-i) jeL:=⟨_,rfl⟩;have uX:L2.length=l.length:=by rw [rZ];simp;omega
   have uW:L2.take i=l.filter (jU y):=by rw [rZ,List.take_left' (by rw [aNV];omega),yG]
   have uC:D.put [n] (i*4) ((List.replicate (l.length-i) jeL).flatMap jk) (ki (y.aNC.set n L))=ki (y.aNC.set n L2):=by rw [jrF hL (jCp oG),aPE,rZ]
   have lD:(y.aNC.set n L2)[n]?=some L2:=aNX hn;have fW:n<(y.aNC.set n L2).length:=by rw [aOE];exact hn
   simp only [go_sem,jc,qy hL,p9,aA,f6,bW,aOC,iX,eC,jBY,jqz,uC,qy lD,uX];refine ⟨500,2,n,777,i,4,tEn,jro,L2.flatMap jk,_,bD 2,.inl rfl,by simp only [go_sem];rfl,jii lD,by simp only [go_sem],by decide,by decide,by rw [jC jtT];omega,λaS aC hη=>?_⟩
   rw [hcut L2 i (by omega),uW]
   simp only [go_sem,jnd,jgG,hη,jkI,jkC,jgv,aOG,jbW,jgn _ (l.filter (jU y)) fW,kC,aPE,aOE,hn];exact ⟨hn,λ_ _=>trivial⟩
def jl2 (l:List En) (e:En):Nat:=if jeB (λx=>!kn x e) l<0 then l.length else (jeB (λx=>!kn x e) l).toNat
def jcW (l:List En) (e:En):List En:=jna l (jl2 l e) e
theorem jDv {l:List En} {e x:En} {k:Nat} (h:l[k]?=some x) (hx:kn x e=false) (hn:∀y∈l.take k,(λx=>!kn x e) y=false):jl2 l e=k:=by
 have h1:=jbQ (f:=λx=>!kn x e) h (by simp [hx]) hn
 rw [jl2,h1,if_neg (by omega)];exact aNW k
theorem jti {l:List En} {e:En} (hn:∀y∈l,(λx=>!kn x e) y=false):jl2 l e=l.length:=by
 rw [jl2,jaI hn];rfl
theorem jxq (l:List En) (e:En):jl2 l e<=l.length:=by
 rcases zO (λx=>!kn x e) l with ⟨_,h2⟩|⟨k,x,h1,h2,h3,h4⟩
 ·rw [jti h2];exact aOC _
 ·rw [jl2,h1,if_neg (by omega),aNW];exact Nat.le_of_lt (aNP.1 h2).1
theorem jth (l:List En) (e:En):(jcW l e).length=l.length+1:=by
 have:=jxq l e;simp [jcW,jna];omega
theorem jBa (e:En):D.sl 4 tEn [.val (.int .i64 e.aNI),.val (.int .i64 e.seq),.val (.int .i64 e.run),.val (.int .i64 e.aNH)]=jg [e]:=rfl
theorem jyy (l:List En) (e:En):l.flatMap jk++[.val (.int .i64 e.aNI),.val (.int .i64 e.seq),.val (.int .i64 e.run),.val (.int .i64 e.aNH)]=(l++[e]).flatMap jk:=by simp [jk]
theorem jCg (l m:List En):l.flatMap jk++m.flatMap jk=(l++m).flatMap jk:=aPK.symm
def jdM:C:=iS [iA 3 (.box 44 4 (.t 1)),iA 4 (.mov (.c (.slice none 0 0)))] (iS [aN 5 0] (.seq (.blk 0 (.loop (.seq (.seq (.dreg (tA 0 7 (iM 5) (tA 1 8 (iM 0) (tA 2 9 (iG 8) (tA 3 10 (iP .lss 3 7 9) (tA 4 11 (iM 10) (tB 5 12 11 true (iM 0) (tB 6 13 11 true (iM 5) (tB 7 14 11 true (iI 4 12 13) (tB 8 15 11 true (iT 4 14) (tB 9 16 11 true (iT 4 3) (.alt (iB 17 11 true (iK 180 [15,16])) [] (tA 11 18 (iY 11 (.t 17) (oF)) .done) .stop)))))))))))) (iD 18 .skip (.exit 0))) (.blk 1 (.reg [aM 19 5,aQ 20 .add 3 19 1,aM 5 20]))))) (iS [iA 21 (wA2 []),aM 22 0,aM 23 5,iA 24 (.sl 4 (.t 22) none (some (.t 23))),iA 25 (wBB 21 24),aM 6 25] (iS [aM 26 6,aT 27 4 3,iA 28 (wA4 [(0,4,.t 27)]),iA 29 (wBB 26 28),aM 6 29] (iS [aM 30 6,aM 31 0,aM 32 5,iA 33 (.sl 4 (.t 31) (some (.t 32)) none),iA 34 (wBB 30 33),aM 4 34] .ret)))))
theorem jgS:fnC Tryz.prog Tryz.f135=some (jdM,[.t 4],35):=by kernel_rfl
def jd3:C:=iS [iA 3 (.box 44 4 (.t 1)),iA 4 (.mov (.c (.slice none 0 0)))] (iS [aM 6 0,iA 7 (.mkf 175 [.t 3]),iA 8 (iK 141 [6,7]),aM 5 8] (.seq (iS [aM 9 5,aQ 10 .lss 3 9 0] (iD 10 (.reg [aM 11 0,aG 12 11,aM 5 12]) .skip)) (.seq (.dreg (tA 0 13 (iM 0) (tA 2 15 (iM 5) (tA 3 16 (iT 4 3) (tC 14 (iK 126 [13]) [3,2] (tC 17 (wA4 [(0,4,.t 16)]) [2,0] (tC 18 (iK 176 [14,15,17]) [] (tA 6 4 (iM 18) .done) .stop) .stop) (tC 17 (wA4 [(0,4,.t 16)]) [2,0] (tC 14 (iK 126 [13]) [3,2] (tC 18 (iK 176 [14,15,17]) [] (tA 6 4 (iM 18) .done) .stop) .stop) .stop)))))) .ret)))
theorem jg7:fnC Tryz.prog Tryz.f128=some (jd3,[.t 4],19):=by kernel_rfl
def jb3:C:=iS [iA 2 (.box 44 4 (.t 0)),aO 3 false] (iS [aT 4 4 2,aT 5 4 1,iA 6 (iK 138 [4,5]),aU 7 6,aM 3 7] .ret)
theorem jeI:fnC Tryz.prog Tryz.f175=some (jb3,[.t 3],8):=by kernel_rfl
theorem jaP (l:List En) (e:En) (hl:l.length<=4000000):jW Tryz.prog 135 [.c (jg l),.agg (jk e)] (.c (jg (jcW l e))):=by
 refine pf_ jgS ?_;unfold jdM;simp only [go_sem,jk];intro b3;refine qY (λi:Nat=>St.of [(0,Ro (jg l)),(3,Bx 300 b3),(5,Ni i)] [(300,Bi b3 _ (jk e))]) (λi=>i<=l.length/\∀y∈l.take i,(λx=>!kn x e) y=false) (λi=>l.length-i) 0 (jt [300] (by simp only [go_sem,jk]<;>trivial)) ?_
 rintro k ⟨hk,cT⟩;have bJ:=qX k;have dG:=hk;have oD:(l.drop k).take (l.length-k)=l.drop k:=aNU (by rw [aOI];omega)
 obtain ⟨A,hA⟩:∃A,l.take k++[e]=A:=⟨_,rfl⟩;have hAl:A.length=k+1:=by rw [<-hA,aNR,aNV,aPD hk];rfl
 have hM:∀(hp:jl2 l e=k),jg (jcW l e)=jg (A++l.drop k):=λhp=>by rw [jcW,hp,jna,<-hA];simp
 have l1:(l.take k).length<=4000000:=by rw [aNV];omega
 have l2:(l.drop k).length<=4000000:=by rw [aOI];omega
 have m1:(l.take k).length<=maxLen:=zy;have m2:(l.take k).length*32<=140737488355328:=by omega
 have m3:(l.take k).length+1<=maxLen:=zy;have m4:((l.take k).length+1)*32<=140737488355328:=by omega
 have m5:A.length+(l.drop k).length<=maxLen:=zy;have m6:(A.length+(l.drop k).length)*32<=140737488355328:=by omega
 by_cases aB:k<l.length
 ·have aA:(k:Int)<l.length:=by omega
  obtain ⟨x,hx⟩:=ja aB;have hw:=kx k;simp only [go_sem,jk,aB,aA,bJ,jZ hx];refine jm (ji6 x e) λη=>?_
  simp only [go_sem];cases ha:kn x e
  ·rw [hM (jDv hx ha cT)]
   simp only [go_sem,hk,bJ,aOC,oD,m1,m2,m3,m4,jyy,hA,m5,m6,jCg,kC]
  ·simp only [go_sem,hw]
   exact ⟨k+1,⟨aB,jnG hx (by simp [ha]) cT⟩,(jt [300]),by (try dsimp only);omega⟩
 have aA:¬(k:Int)<l.length:=by omega
 have aCU:∀y∈l,(λx=>!kn x e) y=false:=by rw [aNU (by omega)] at cT;exact cT
 rw [hM (by rw [jti aCU];omega)]
 simp only [go_sem,jk,aA,hk,bJ,aOC,oD,m1,m2,m3,m4,jyy,hA,m5,m6,jCg,kC]
theorem jF8 (x e:En):jW Tryz.prog 175 [.agg (jk x),.ptr (jk e)] (.c (.val (.bool (!kn x e)))):=by
 refine pf_ jeI ?_;unfold jb3;simp only [go_sem,jk];intro b2;refine jm (jja x e) λη=>?_
 simp only [go_sem]
theorem jaR (l:List En) (e:En) (hl:l.length<=4000000):jW Tryz.prog 128 [.c (jg l),.agg (jk e)] (.c (jg (jcW l e))):=by
 refine pf_ jg7 ?_;unfold jd3;simp only [go_sem,jk];intro b3;refine jm (jcg l _ (jk e) (λx=>!kn x e) (λx=>jF8 x e) hl) λη=>?_
 have dG:=jxq l e;have fM:∀(n:Nat),jl2 l e=n->jcW l e=jna l n e:=λn h=>by rw [jcW,h]
 by_cases aK:jeB (λx=>!kn x e) l<0
 ·have hp:jl2 l e=l.length:=by rw [jl2,if_pos aK]
  rw [fM _ hp];simp only [go_sem,aK];refine ⟨?_,?_⟩
  ·refine jm (kh l hl) λbC=>?_
   simp only [go_sem,jBa];intro mY;refine jgi (R:=λrt _=>rt=.c (jg (jna l l.length e))) (by simp only [go_sem];exact (jkh l l.length e (by omega) hl (by simp only [go_sem]) (by simp only [go_sem]) (by decide)).mono λrt o' h=>h.1) λrt o' hR η=>?_
   subst hR;simp only [go_sem]
  ·simp only [go_sem,jBa]
   intro mY;refine jm (kh l hl) λbC=>?_
   simp only [go_sem];refine jgi (R:=λrt _=>rt=.c (jg (jna l l.length e))) (by simp only [go_sem];exact (jkh l l.length e (by omega) hl (by simp only [go_sem]) (by simp only [go_sem]) (by decide)).mono λrt o' h=>h.1) λrt o' hR η=>?_
   subst hR;simp only [go_sem]
 ·have hn:jeB (λx=>!kn x e) l=((jl2 l e:Nat):Int):=by rw [jl2,if_neg aK];omega
  rw [fM _ rfl];generalize jl2 l e=n at*;have nC:¬(n:Int)<0:=by omega
  rw [hn];simp only [go_sem,nC];refine ⟨?_,?_⟩
  ·refine jm (kh l hl) λbC=>?_
   simp only [go_sem,jBa];intro mY;refine jgi (R:=λrt _=>rt=.c (jg (jna l n e))) (by simp only [go_sem];exact (jkh l n e (by omega) hl (by simp only [go_sem]) (by simp only [go_sem]) (by decide)).mono λrt o' h=>h.1) λrt o' hR η=>?_
   subst hR;simp only [go_sem]
  ·simp only [go_sem,jBa]
   intro mY;refine jm (kh l hl) λbC=>?_
   simp only [go_sem];refine jgi (R:=λrt _=>rt=.c (jg (jna l n e))) (by simp only [go_sem];exact (jkh l n e (by omega) hl (by simp only [go_sem]) (by simp only [go_sem]) (by decide)).mono λrt o' h=>h.1) λrt o' hR η=>?_
   subst hR;simp only [go_sem]
section
variable {P:Program} {f:FuncId}
theorem jFW {v1 v2 v3 v4:View} {u:Value} (hn:jrb P f) (h:∀w a b c d,ViewRel w v1 a->ViewRel w v2 b->ViewRel w v3 c->ViewRel w v4 d->Calls P f #[a,b,c,d] w λe w'=>e=.returned u/\Below w.heap.size w w'):jW P f [v1,v2,v3,v4] (.c (.val u)):=by
 refine ⟨hn,λw xs hv=>?_⟩
 obtain ⟨a,_,rfl,h1,b,_,rfl,h2,c,_,rfl,h3,d,_,rfl,h4,h5⟩:=hv;rw [show _=_ from h5]
 exact (h w a b c d h1 h2 h3 h4).mono λe w' ⟨he,hb⟩=>⟨u,[],he,⟨rfl,rfl⟩,Fresh.nil _,hb⟩
end
theorem jpP (y:Yd) (id aNH tri:Int):jW Tryz.prog 200 [.agg (jc y),.c (.val (.int .i64 id)),.c (.val (.int .i64 aNH)),.c (.val (.int .i64 tri))] (.c (.val (.bool (vo y id aNH tri)))):=
 jFW ⟨_,Tryz.func200,by kernel_rfl,by kernel_rfl⟩ λw a b c d ⟨S,ha⟩ hb hc hd=>by rw [zU hb,zU hc,zU hd];exact jz9 y id aNH tri a S w false ha
theorem jdq (y:Yd) (id aNH tri:Int):jW Tryz.prog 53 [.agg (jc y),.c (.val (.int .i64 id)),.c (.val (.int .i64 aNH)),.c (.val (.int .i64 tri))] (.c (.val (.bool (vo y id aNH tri)))):=
 jFW ⟨_,Tryz.func53,by kernel_rfl,by kernel_rfl⟩ λw a b c d ⟨S,ha⟩ hb hc hd=>by rw [zU hb,zU hc,zU hd];exact jAU y id aNH tri a S w false ha
open Classical in
noncomputable def ja2 (y:Yd) (id aNH tri:Int):Int:=if ju y=false then 8 else if runAt y id<0 then 10 else if vo y id aNH tri=false then 11 else 0
def jhg:C:=iS [iA 4 (.box 27 4 (.t 0)),aN 8 0] (.seq (.blk 0 (iS [aT 10 4 4,iA 11 (iK 66 [10]),aU 12 11,aM 9 12] (iD 9 (iS [aN 8 8] .ret) (iS [aT 14 4 4,aM 15 1,iA 16 (iK 26 [14,15]),aQ 17 .lss 3 16 0,aM 13 17] (iD 13 (iS [aN 8 10] .ret) (iS [aT 19 4 4,aM 20 1,aM 21 2,aM 22 3,iA 23 (iK 200 [19,20,21,22]),aU 24 23,aM 18 24] (iD 18 (iS [aN 8 11] .ret) .skip))))))) (iS [aN 8 0] .ret))
theorem jjG:fnC Tryz.prog Tryz.f189=some (jhg,[.t 8],25):=by kernel_rfl
def jlP:C:=iS [iA 4 (.box 27 4 (.t 0)),aN 8 0] (.seq (.blk 0 (iS [aT 10 4 4,iA 11 (iK 18 [10]),aU 12 11,aM 9 12] (iD 9 (iS [aN 8 8] .ret) (iS [aT 14 4 4,aM 15 1,iA 16 (iK 25 [14,15]),aQ 17 .lss 3 16 0,aM 13 17] (iD 13 (iS [aN 8 10] .ret) (iS [aT 19 4 4,aM 20 1,aM 21 2,aM 22 3,iA 23 (iK 53 [19,20,21,22]),aU 24 23,aM 18 24] (iD 18 (iS [aN 8 11] .ret) .skip))))))) (iS [aN 8 0] .ret))
theorem jmt:fnC Tryz.prog Tryz.f122=some (jlP,[.t 8],25):=by kernel_rfl
theorem jgo (y:Yd) (id aNH tri:Int) (ht:jn y<=2000000):jW Tryz.prog 189 [.agg (jc y),.c (.val (.int .i64 id)),.c (.val (.int .i64 aNH)),.c (.val (.int .i64 tri))] (.c (.val (.int .i64 (ja2 y id aNH tri)))):=by
 refine pf_ jjG ?_;unfold jhg;simp only [go_sem,jc];intro b4;refine jm (qr y ht) λη=>?_
 simp only [go_sem];cases aR:ju y
 ·have hc:ja2 y id aNH tri=8:=by simp [ja2,aR]
  simp only [go_sem,hc]
 simp only [go_sem];refine jm (qs y id) λη=>?_
 simp only [go_sem];by_cases aK:runAt y id<0
 ·have hc:ja2 y id aNH tri=10:=by simp [ja2,aR,aK]
  simp only [go_sem,aK,hc]
 simp only [go_sem,aK];refine jm (jpP y id aNH tri) λη=>?_
 simp only [go_sem];cases hh:vo y id aNH tri
 ·have hc:ja2 y id aNH tri=11:=by simp [ja2,aR,aK,hh]
  simp only [go_sem,hc]
 ·have hc:ja2 y id aNH tri=0:=by simp [ja2,aR,aK,hh]
  simp only [go_sem,hc]
theorem jk1 (y:Yd) (id aNH tri:Int) (ht:jn y<=2000000):jW Tryz.prog 122 [.agg (jc y),.c (.val (.int .i64 id)),.c (.val (.int .i64 aNH)),.c (.val (.int .i64 tri))] (.c (.val (.int .i64 (ja2 y id aNH tri)))):=by
 refine pf_ jmt ?_;unfold jlP;simp only [go_sem,jc];intro b4;refine jm (kK y ht) λη=>?_
 simp only [go_sem];cases aR:ju y
 ·have hc:ja2 y id aNH tri=8:=by simp [ja2,aR]
  simp only [go_sem,hc]
 simp only [go_sem];refine jm (qv y id) λη=>?_
 simp only [go_sem];by_cases aK:runAt y id<0
 ·have hc:ja2 y id aNH tri=10:=by simp [ja2,aR,aK]
  simp only [go_sem,aK,hc]
 simp only [go_sem,aK];refine jm (jdq y id aNH tri) λη=>?_
 simp only [go_sem];cases hh:vo y id aNH tri
 ·have hc:ja2 y id aNH tri=11:=by simp [ja2,aR,aK,hh]
  simp only [go_sem,hc]
 ·have hc:ja2 y id aNH tri=0:=by simp [ja2,aR,aK,hh]
  simp only [go_sem,hc]
theorem jka {y:Yd} {id aNH tri:Int} (h:ja2 y id aNH tri=0):YardOkP y/\¬runAt y id<0:=by
 unfold ja2 at h;split at h
 ·cases h
 split at h
 ·cases h
 rename_i h1 h2;exact ⟨yard_iff.1 (by simpa using h1),h2⟩
def C.sub:List Nat->C->C
 |[],c=>c
 |0::p,.seq a _=>a.sub p
 |_::p,.seq _ b=>b.sub p
 |0::p,.cond _ a _=>a.sub p
 |_::p,.cond _ _ b=>b.sub p
 |_::p,.blk _ a=>a.sub p
 |_::p,.loop a=>a.sub p
 |_,c=>c
section
variable {s:St}
def resT (s:St) (rs:List R) (K:List (Bool×List A0)->Prop):AV->Prop
 |.agg l=>jju s rs λps=>K ((true,l)::ps)
 |.c a=>jju s rs λps=>K ((false,[a])::ps)
 |_=>False
def resC (s:St) (agg:Bool) (size:Nat) (rs:List R) (K:List (Bool×List A0)->Prop):AV->Prop
 |.c (.bp g c b)=>ldB (s.o g) g c b size λl=>(agg=true\/l.length=1)/\jju s rs λps=>K ((agg,l)::ps)
 |_=>False
theorem qF (rs:List R) (rt:RT):jv2 rs rt s=jju s rs λps=>ja0 rt ps/\qz s (ps.flatMap (·.2)) λcs _=>IsD cs rt.flat:=rfl
theorem jJ (K:List (Bool×List A0)->Prop):jju s [] K=K []:=rfl
theorem jbf (n:Nat) (rs:List R) (K:List (Bool×List A0)->Prop):jju s (.t n::rs) K=resT s rs K (s.t n):=by
 simp only [jju,resT];split<;>simp_all
theorem jbe (rs:List R) (K:List (Bool×List A0)->Prop) (a:A0):resT s rs K (.c a)=jju s rs λps=>K ((false,[a])::ps):=rfl
theorem jy (agg:Bool) (size:Nat) (rs:List R) (K:List (Bool×List A0)->Prop) (g c b:Nat):resC s agg size rs K (.c (.bp g c b))=ldB (s.o g) g c b size λl=>(agg=true\/l.length=1)/\jju s rs λps=>K ((agg,l)::ps):=rfl
theorem ji (n:Nat) (agg:Bool) (size:Nat) (rs:List R) (K:List (Bool×List A0)->Prop) (h:resC s agg size rs K (s.t n)):jju s (.cell n agg size::rs) K:=by
 unfold resC at h;split at h
 ·rename_i g c b he
  simp only [ldB] at h;split at h
  ·rename_i b' ty cs ho
   obtain ⟨e1,e2,e3,e4⟩:=h;subst e1;simp only [jju,he];exact ⟨_,⟨ty,cs,ho,e2,rfl⟩,e3,e4⟩
  ·exact h.elim
 ·exact h.elim
theorem jz (l:List (Bool×List D)) (ps:List (Bool×List A0)):ja0 (.tup l) ps=(ps.length≠1/\ps.map (λp=>(p.1,p.2.length))=l.map (λp=>(p.1,p.2.length))):=rfl
end
def vu (l:List En):List En:=l.take ((l.length+1)/2)
def ja8 (l:List En):List En:=l.drop ((l.length+1)/2)
def jho:C:=iS [iA 2 (.mov (.c (.slice none 0 0))),iA 3 (.mov (.c (.slice none 0 0)))] (iS [aM 5 0,aG 6 5,aQ 7 .add 3 6 1,aQ 8 .quo 3 7 2,aM 4 8] (.seq (.dreg (tA 1 10 (iM 0) (tA 2 11 (iM 4) (tA 3 12 (.sl 4 (.t 10) none (some (.t 11))) (tA 6 15 (iM 0) (tA 7 16 (iM 4) (tA 8 17 (.sl 4 (.t 15) (some (.t 16)) none) (tC 9 (wA2 []) [8,7,6,3,2,1] (tC 13 (wBB 9 12) [8,7,6] (tC 14 (wA2 []) [8,7,6,3,2,1] (tC 18 (wBB 14 17) [] (tA 10 2 (iM 13) (tA 11 3 (iM 18) .done)) .stop) .stop) (tC 14 (wA2 []) [8,7,6,3,2,1] (tC 13 (wBB 9 12) [8,7,6] (tC 18 (wBB 14 17) [] (tA 10 2 (iM 13) (tA 11 3 (iM 18) .done)) .stop) .stop) .stop)) (tC 14 (wA2 []) [8,7,6,3,2,1] (tC 9 (wA2 []) [8,7,6,3,2,1] (tC 13 (wBB 9 12) [8,7,6] (tC 18 (wBB 14 17) [] (tA 10 2 (iM 13) (tA 11 3 (iM 18) .done)) .stop) .stop) .stop) .stop))))))))) .ret))
theorem jjO:fnC Tryz.prog Tryz.f70=some (jho,[.t 2,.t 3],19):=by kernel_rfl
def jhE:C:=iS [iA 2 (.mov (.c (.slice none 0 0))),iA 3 (.mov (.c (.slice none 0 0)))] (iS [aM 5 0,aG 6 5,aQ 7 .add 3 6 1,aQ 8 .quo 3 7 2,aM 4 8] (.seq (.dreg (tA 0 9 (iM 0) (tA 1 10 (iM 4) (tA 2 11 (.sl 4 (.t 9) none (some (.t 10))) (tA 4 13 (iM 0) (tA 5 14 (iM 4) (tA 6 15 (.sl 4 (.t 13) (some (.t 14)) none) (tC 12 (iK 126 [11]) [6,5,4] (tC 16 (iK 126 [15]) [] (tA 8 2 (iM 12) (tA 9 3 (iM 16) .done)) .stop) .stop)))))))) .ret))
theorem jj4:fnC Tryz.prog Tryz.f63=some (jhE,[.t 2,.t 3],17):=by kernel_rfl
theorem jn6 (l:List En) (hl:l.length<=4000000):jW Tryz.prog 70 [.c (jg l)] (.tup [(false,[jg (vu l)]),(false,[jg (ja8 l)])]):=by
 refine pf_ jjO ?_;unfold jho;have hw:IntKind.i64.wrap ((l.length:Int)+1)=(l.length:Int)+1:=vF
 have hq:IntKind.i64.wrap (((l.length:Int)+1).tdiv 2)=(((l.length+1)/2:Nat):Int):=by
  rw [Int.tdiv_eq_ediv_of_nonneg (by omega)];exact kS (by omega) (by omega)|>.trans (by omega)
 have hn:(l.length+1)/2<=l.length\/l.length=0:=by omega
 have rM:(l.length+1)/2<=l.length:=by omega
 unfold vu ja8;generalize (l.length+1)/2=n at*;have lZ:=qX n;have m1:(l.take n).length<=maxLen:=by unfold maxLen;rw [aNV];omega
 have m2:(l.take n).length*32<=140737488355328:=by rw [aNV];omega
 have m3:(l.drop n).length<=maxLen:=by unfold maxLen;rw [aOI];omega
 have m4:(l.drop n).length*32<=140737488355328:=by rw [aOI];omega
 have oD:(l.drop n).take (l.length-n)=l.drop n:=aNU (by rw [aOI];omega)
 simp only [go_sem,hw,hq,rM,lZ,aOC,oD,m1,m2,m3,m4,kC];simp only [go_sem,qF,jbf,jbe,jJ,jz]
theorem joh (l:List En) (hl:l.length<=4000000):jW Tryz.prog 63 [.c (jg l)] (.tup [(false,[jg (vu l)]),(false,[jg (ja8 l)])]):=by
 refine pf_ jj4 ?_;unfold jhE;have hw:IntKind.i64.wrap ((l.length:Int)+1)=(l.length:Int)+1:=vF
 have hq:IntKind.i64.wrap (((l.length:Int)+1).tdiv 2)=(((l.length+1)/2:Nat):Int):=by
  rw [Int.tdiv_eq_ediv_of_nonneg (by omega)];exact kS (by omega) (by omega)|>.trans (by omega)
 have rM:(l.length+1)/2<=l.length:=by omega
 unfold vu ja8;generalize (l.length+1)/2=n at*;have lZ:=qX n;have oD:(l.drop n).take (l.length-n)=l.drop n:=aNU (by rw [aOI];omega)
 simp only [go_sem,hw,hq,rM,lZ,aOC,oD];refine jm (kh (l.take n) (by rw [aNV];omega)) λbC=>?_
 simp only [go_sem];refine jm (kh (l.drop n) (by rw [aOI];omega)) λcO=>?_
 simp only [go_sem];simp only [go_sem,qF,jbf,jbe,jJ,jz]
def qc (a b:List En):List En:=if a.length+b.length>80 then a else b.foldl jcW a
theorem jkl:∀(b a:List En),(b.foldl jcW a).length=a.length+b.length
 |[],a=>by simp
 |e::b,a=>by rw [aQI,jkl b,jth,aOD];omega
theorem jvh (a b:List En):(qc a b).length<=a.length+b.length:=by
 unfold qc;split
 ·omega
 ·rw [jkl];exact aOC _
theorem jpK {b:List En} {k:Nat} {e:En} (h:b[k]?=some e) (a:List En):(b.take (k+1)).foldl jcW a=jcW ((b.take k).foldl jcW a) e:=by
 rw [aOA,h];simp
def jhm:C:=iS [iA 4 (.mov (.c (.slice none 0 0)))] (iS [iA 7 (wA2 []),aM 8 0,iA 9 (wBB 7 8),aM 5 9] (.seq (iS [aM 10 0,aG 11 10,aM 12 1,aG 13 12,aP 14 .add 3 11 13,aQ 15 .gtr 3 14 80] (iD 15 (iS [aM 16 5,aM 4 16] .ret) .skip)) (.seq (iS [aN 6 0] (.blk 0 (.loop (.seq (iS [aM 17 6,aM 18 1,aG 19 18,aP 20 .lss 3 17 19] (iD 20 .skip (.exit 0))) (.seq (.blk 1 (.reg [aM 23 5,aM 24 1,aM 25 6,aI 26 4 24 25,aT 27 4 26,iA 28 (iK 135 [23,27]),aM 5 28])) (.reg [aM 21 6,aQ 22 .add 3 21 1,aM 6 22])))))) (iS [aM 29 5,aM 4 29] .ret))))
theorem jjM:fnC Tryz.prog Tryz.f71=some (jhm,[.t 4],30):=by kernel_rfl
def jhC:C:=iS [iA 4 (.mov (.c (.slice none 0 0)))] (iS [aM 8 0,iA 9 (iK 126 [8]),aM 5 9] (.seq (iS [aM 10 0,aG 11 10,aM 12 1,aG 13 12,aP 14 .add 3 11 13,aQ 15 .gtr 3 14 80] (iD 15 (iS [aM 16 5,aM 4 16] .ret) .skip)) (.seq (iS [aM 17 1,aG 18 17,aN 19 0] (.blk 0 (.loop (iS [aP 20 .lss 3 19 18] (.seq (iD 20 .skip (.exit 0)) (.seq (.blk 1 (iS [aI 21 4 17 19,aT 22 4 21,iA 7 wAQ,wAB 7 22] (.reg [aM 23 5,aT 24 4 7,iA 25 (iK 128 [23,24]),aM 5 25]))) (.reg [aQ 26 .add 3 19 1,aM 19 26]))))))) (iS [aM 27 5,aM 4 27] .ret))))
theorem jj2:fnC Tryz.prog Tryz.f64=some (jhC,[.t 4],28):=by kernel_rfl
theorem jn4 (a b:List En) (hl:a.length+b.length<=4000000):jW Tryz.prog 71 [.c (jg a),.c (jg b)] (.c (jg (qc a b))):=by
 refine pf_ jjM ?_;unfold jhm;have m1:a.length<=maxLen:=zy;have m2:a.length*32<=140737488355328:=by omega
 have hw:IntKind.i64.wrap ((a.length:Int)+b.length)=((a.length+b.length:Nat):Int):=by rw [kS (by omega) (by omega)];omega
 simp only [go_sem,m1,m2,kC];intro fB eH;by_cases i8:a.length+b.length>80
 ·have mC:((a.length+b.length:Nat):Int)>80:=by omega
  have e:qc a b=a:=if_pos i8;simp only [go_sem,hw,mC,e]
 have mC:¬((a.length+b.length:Nat):Int)>80:=by omega
 have e:qc a b=b.foldl jcW a:=if_neg i8;simp only [go_sem,hw,mC];refine qY (λi:Nat×jf=>St.of [(1,Ro (jg b)),(5,Hd 5 i.2),(6,Ni i.1)] [(5,.loose (jg ((b.take i.1).foldl jcW a)) i.2)]) (λi=>i.1<=b.length) (λi=>b.length-i.1) (0,eH) (jt [900] (by simp only [go_sem,aOW,List.foldl_nil]<;>trivial)) ?_
 rintro ⟨k,η⟩ hk;dsimp only at hk;by_cases aB:k<b.length
 ·have aA:(k:Int)<b.length:=by omega
  have bJ:=qX k;obtain ⟨x,hx⟩:=ja aB;have gK:=kx k;have cH:=jpK hx a;have xS:=jkl (b.take k) a;rw [aNV] at xS;generalize (b.take k).foldl jcW a=L at*;simp only [go_sem,aA,aB,bJ,jZ hx,jk];refine jm (jaP L x (by omega)) λsE=>?_
  simp only [go_sem];simp only [go_sem,gK];exact qf (k+1,sE 0) (jt [2800] (by simp only [go_sem,cH]<;>trivial))
 have aA:¬(k:Int)<b.length:=by omega
 rw [aNU (by omega),e]
 simp only [go_sem,aA]
theorem jof (a b:List En) (hl:a.length+b.length<=4000000):jW Tryz.prog 64 [.c (jg a),.c (jg b)] (.c (jg (qc a b))):=by
 refine pf_ jj2 ?_;unfold jhC;have hw:IntKind.i64.wrap ((a.length:Int)+b.length)=((a.length+b.length:Nat):Int):=by rw [kS (by omega) (by omega)];omega
 simp only [go_sem];refine jm (kh a (by omega)) λbC=>?_
 simp only [go_sem];by_cases i8:a.length+b.length>80
 ·have mC:((a.length+b.length:Nat):Int)>80:=by omega
  have e:qc a b=a:=if_pos i8;simp only [go_sem,hw,mC,e]
 have mC:¬((a.length+b.length:Nat):Int)>80:=by omega
 have e:qc a b=b.foldl jcW a:=if_neg i8;simp only [go_sem,hw,mC];refine qY (λi:Nat×jf=>St.of [(5,Hd 5 i.2),(17,Ro (jg b)),(18,Ni b.length),(19,Ni i.1)] [(5,.loose (jg ((b.take i.1).foldl jcW a)) i.2)]) (λi=>i.1<=b.length) (λi=>b.length-i.1) (0,bC 0) (jt [900] (by simp only [go_sem,aOW,List.foldl_nil]<;>trivial)) ?_
 rintro ⟨k,η⟩ hk;dsimp only at hk;by_cases aB:k<b.length
 ·have aA:(k:Int)<b.length:=by omega
  have bJ:=qX k;obtain ⟨x,hx⟩:=ja aB;have gK:=kx k;have cH:=jpK hx a;have xS:=jkl (b.take k) a;rw [aNV] at xS;generalize (b.take k).foldl jcW a=L at*;simp only [go_sem,aA,aB,bJ,jZ hx,jk];intro b7;refine jm (jaR L x (by omega)) λsE=>?_
  simp only [go_sem];simp only [go_sem,gK];exact qf (k+1,sE 0) (jt [2500] (by simp only [go_sem,cH]<;>trivial))
 have aA:¬(k:Int)<b.length:=by omega
 rw [aNU (by omega),e]
 simp only [go_sem,aA]
def jzz (l:List En):En:=l.headD ⟨0,0,0,0⟩
def jl5 (l:List En):Bool:=!l.isEmpty
def jcK:C:=iS [iA 2 wAQ,iA 3 (.mov (.c (.slice none 0 0))),aO 4 false] (.seq (iS [aM 5 0,aG 6 5,aQ 7 .eql 3 6 0] (iD 7 (iS [iA 8 (wAV []),iA 9 (wA2 []),wAB 2 8,aM 3 9,aO 4 false] .ret) .skip)) (.seq (.dreg (tA 0 10 (iM 0) (tA 1 11 (.ia 4 (.t 10) (oI 0)) (tA 2 12 (iT 4 11) (tA 4 14 (iM 0) (tA 5 15 (.sl 4 (.t 14) (some (oI 1)) none) (tC 13 (wA2 []) [5,4,2,1,0] (tC 16 (wBB 13 15) [2,1,0] (.alt (wAB 2 12) [] (tA 8 3 (iM 16) (tA 9 4 (iO true) .done)) .stop) .stop) .stop))))))) .ret))
theorem jfS:fnC Tryz.prog Tryz.f72=some (jcK,[.cell 2 true 4,.t 3,.t 4],17):=by kernel_rfl
def jcR:C:=iS [iA 2 wAQ,iA 3 (.mov (.c (.slice none 0 0))),aO 4 false] (.seq (iS [aM 5 0,aG 6 5,aQ 7 .eql 3 6 0] (iD 7 (iS [iA 8 (wAV []),wAB 2 8,iA 3 (.mov (.c (.slice none 0 0))),aO 4 false] .ret) .skip)) (.seq (.dreg (tA 0 9 (iM 0) (tA 1 10 (.ia 4 (.t 9) (oI 0)) (tA 2 11 (iT 4 10) (tA 3 12 (iM 0) (tA 4 13 (.sl 4 (.t 12) (some (oI 1)) none) (tC 14 (iK 126 [13]) [2,1,0] (.alt (wAB 2 11) [] (tA 7 3 (iM 14) (tA 8 4 (iO true) .done)) .stop) .stop))))))) .ret))
theorem jfZ:fnC Tryz.prog Tryz.f65=some (jcR,[.cell 2 true 4,.t 3,.t 4],15):=by kernel_rfl
theorem jcz (l:List En) (hl:l.length<=4000000):jW Tryz.prog 72 [.c (jg l)] (.tup [(true,jk (jzz l)),(false,[jg l.tail]),(false,[.val (.bool (jl5 l))])]):=by
 refine pf_ jfS ?_;unfold jcK;cases l with
 |nil=>
  simp only [go_sem,jk,jzz,jl5,List.headD_nil,List.isEmpty_nil,List.tail_nil];intro b2 fB;simp only [qF]
  apply ji
  simp only [go_sem,jy,jbf,jbe,jJ,jz,true_or,jif]
 |cons x l=>
  have cE:l.length<=4000000:=by rw [aOD] at hl;omega
  have h0:(x::l)[0]?=some x:=rfl;have h1:(((l.length+1:Nat):Int)==0)=false:=by simp only [beq_eq_false_iff_ne,ne_eq];omega
  have h2:1<=l.length+1:=by omega
  have h3:0<l.length+1:=by omega
  have m1:l.length<=maxLen:=zy;have m2:l.length*32<=140737488355328:=by omega
  have hd:List.take l.length l=l:=aPP;simp only [go_sem,jk,jzz,jl5,List.headD_cons,List.isEmpty_cons,List.tail_cons,h1];intro b2;simp only [go_sem,h3,jZ h0,jk,hd,aOC,m1,m2,kC,Nat.add_sub_cancel];intro η eH;simp only [qF]
  apply ji
  simp only [go_sem,jy,jbf,jbe,jJ,jz,true_or]
def jsV (ts:List Tk) (t:Nat) (x:Tk) (til:Int):List Tk:=ts.set t ⟨3,x.aNL,IntKind.i64.wrap (x.tri+1),til⟩
def kG (r:Rn) (t:Nat) (x:Tk) (now:Int):Rn:=⟨r.id,r.aNB,r.aND,jsV r.aNA t x (IntKind.i64.wrap (now+r.aNB.aNM))⟩
def jbZ:C:=iS [iA 3 (.box 52 8 (.t 0)),iA 6 wAN] (iS [aT 9 8 3,iA 10 (iK 133 [9]),iA 7 wAN,wAC 7 10] (iS [aF 11 7 7,aL 12 11,aM 13 1,aI 14 4 12 13,aT 15 4 14,iA 8 wAO,wAB 8 15] (iS [aF 16 0 8,iC (.st 1 [none] (.t 16) (oI 3))] (iS [aF 17 2 8,aL 18 17,aQ 19 .add 3 18 1,aF 20 2 8,wAD 20 19] (iS [aM 21 2,aF 22 1 3,aF 23 2 22,aL 24 23,aP 25 .add 3 21 24,aF 26 3 8,wAD 26 25] (iS [aF 27 7 7,aL 28 27,aM 29 1,aT 30 4 8,aI 31 4 28 29,wAB 31 30] (iS [aT 32 8 7,wAC 6 32] .ret)))))))
theorem jeE:fnC Tryz.prog Tryz.f73=some (jbZ,[.cell 6 true 8],33):=by kernel_rfl
theorem jh9 (r:Rn) (t:Nat) (x:Tk) (now:Int) (hx:r.aNA[t]?=some x) (cP:r.aNB.aNF.length<=4000000) (ht:r.aNA.length<=4000000):jW Tryz.prog 73 [.agg (je r),.c (.val (.int .i64 t)),.c (.val (.int .i64 now))] (.agg (je (kG r t x now))):=by
 refine pf_ jeE ?_;unfold jbZ;have dB:=(aNP.1 hx).1;have fF:=qX t;simp only [go_sem,je,jd];intro b3 b6;refine jm (vI r cP ht) λbD=>?_
 simp only [go_sem,je,jd];intro b7;simp only [go_sem,aOO,dB,fF,jvR hx,jjA hx,jH,kG,jsV,jcc 3 x.aNL (IntKind.i64.wrap (x.tri+1)) (IntKind.i64.wrap (now+r.aNB.aNM)) dB]
