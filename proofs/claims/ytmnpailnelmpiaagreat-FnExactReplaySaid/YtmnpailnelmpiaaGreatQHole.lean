/- Parts. -/
import Derived.Test.YtmnpailnelmpiaaGreatQAb
import Derived.Test.YtmnpailnelmpiaaGreatQCopyY
import Derived.Test.YtmnpailnelmpiaaGreatQE8
import Derived.Test.YtmnpailnelmpiaaGreatQFresh
import Derived.Test.YtmnpailnelmpiaaGreatQYardB
set_option linter.unusedSimpArgs false
set_option linter.unusedVariables false
set_option maxHeartbeats 4000000
set_option maxRecDepth 100000
namespace Go.Proofs.YtmnpailnelmpiaaGreat
open Go.RowKit Go.Sort
section
variable {P:Program} {B:Nat} {w w0:World} {F:Nat→List Nat} {o:Nat→Ob}
theorem jfL {own:Bool}:∀{k:Nat} {cs:List D} {vs:List Value} {S:List Nat} {d:D},RepL w own cs vs S→cs[k]?=some d→
 ∃v SA Sd SC,vs[k]?=some v∧S=SA++Sd++SC∧Rep w own d v Sd∧∀d' Sd',Rep w own d' v Sd'→RepL w own (cs.set k d') vs (SA++Sd'++SC)
 |_,[],_,_,_,_,h=>by simp at h
 |0,e::cs,_,_,d,⟨v,vs',S1,S2,rfl,rfl,h1,h2⟩,h=>by
  simp at h;subst h;exact ⟨v,[],S1,S2,rfl,by simp,h1,fun d' Sd' h3=>⟨v,vs',Sd',S2,rfl,by simp,h3,h2⟩⟩
 |k+1,e::cs,_,_,d,⟨v,vs',S1,S2,rfl,rfl,h1,h2⟩,h=>by
  simp at h;obtain ⟨v2,SA,Sd,SC,a1,rfl,a3,a4⟩:=jfL h2 h;exact ⟨v2,S1++SA,Sd,SC,by simpa using a1,by simp,a3,fun d' Sd' h3=>⟨v,vs',S1,SA++Sd'++SC,rfl,by simp,h1,a4 d' Sd' h3⟩⟩
theorem jgq:∀{c:Nat} {l:List Cell} {us:List Value} {S:List Nat} {d:D} {η:jp},CRel B w l us S→l[c]?=some (.own d η)→
 ∃u SA Sd SC,S=SA++Sd++SC∧d.isSl=true∧Rep w true d u Sd∧(∀p,η p=hdr w p d u)∧∀d' η' Sd',d'.isSl=true→Rep w true d' u Sd'→(∀p,η' p=hdr w p d' u)→CRel B w (l.set c (.own d' η')) us (SA++Sd'++SC)
 |_,[],_,_,_,_,_,h=>by simp at h
 |0,.a _::l,_,_,d,η,_,h=>by simp at h
 |0,.own e ε::l,_,_,d,η,⟨u,us',S1,S2,rfl,rfl,h1,h2,h3,h4⟩,h=>by
  simp at h;obtain ⟨rfl,rfl⟩:=h;exact ⟨u,[],S1,S2,by simp,h1,h2,h3,fun d' η' Sd' a1 a2 a3=>⟨u,us',Sd',S2,rfl,by simp,a1,a2,a3,h4⟩⟩
 |c+1,.a x::l,_,_,d,η,⟨u,us',rfl,h1,h2⟩,h=>by
  simp at h;obtain ⟨v,SA,Sd,SC,a1,a2,a3,a4,a5⟩:=jgq h2 h;exact ⟨v,SA,Sd,SC,a1,a2,a3,a4,fun d' η' Sd' b1 b2 b3=>⟨u,us',rfl,h1,a5 d' η' Sd' b1 b2 b3⟩⟩
 |c+1,.own e ε::l,_,_,d,η,⟨u,us',S1,S2,rfl,rfl,h1,h2,h3,h4⟩,h=>by
  simp at h;obtain ⟨v,SA,Sd,SC,rfl,a2,a3,a4,a5⟩:=jgq h4 h;exact ⟨v,S1++SA,Sd,SC,by simp,a2,a3,a4,fun d' η' Sd' b1 b2 b3=>⟨u,us',S1,SA++Sd'++SC,rfl,by simp,h1,h2,h3,a5 d' η' Sd' b1 b2 b3⟩⟩
theorem jj1 {ob:Ob} {c:Nat} {S:List Nat} {d:D} {η:jp} (ho:ORel B w ob S) (h:ob.own c=some (d,η)):
 ∃u SA Sd SC,S=SA++Sd++SC∧d.isSl=true∧Rep w true d u Sd∧(∀p,η p=hdr w p d u)∧∀d' η' Sd',d'.isSl=true→Rep w true d' u Sd'→(∀p,η' p=hdr w p d' u)→ORel B w (ob.putOwn c d' η') (SA++Sd'++SC):=by
 cases ob with
 |none=>cases h
 |loose e ε=>
  cases c with
  |succ c=>cases h
  |zero=>
   simp only [Ob.own,Option.some.injEq,Prod.mk.injEq] at h;obtain ⟨rfl,rfl⟩:=h;obtain ⟨h1,u,h2,h3⟩:=ho;exact ⟨u,[],S,[],by simp,h1,h2,h3,fun d' η' Sd' a1 a2 a3=>⟨a1,u,by simpa using a2,a3⟩⟩
 |box b ty l=>
  simp only [Ob.own] at h;split at h
  ·rename_i e ε he
   simp only [Option.some.injEq,Prod.mk.injEq] at h;obtain ⟨rfl,rfl⟩:=h;obtain ⟨us,S1,h1,h2,rfl⟩:=ho;obtain ⟨u,SA,Sd,SC,rfl,a2,a3,a4,a5⟩:=jgq h2 he;exact ⟨u,b::SA,Sd,SC,by simp,a2,a3,a4,fun d' η' Sd' b1 b2 b3=>⟨us,SA++Sd'++SC,h1,a5 d' η' Sd' b1 b2 b3,by simp⟩⟩
  ·cases h
theorem juw {size:Nat} {ty:TypeId} {cs:List D} {v:Value} {S:List Nat} {m:Nat} (hs:0<size) (h:Rep w true (.sl size ty cs) v S) (hm:m*size≤cs.length):∃S',Rep w true (.sl size ty (cs.take (m*size))) (jhH v size 0 m) S'∧(∀b∈S',b∈S)∧(S.Nodup→S'.Nodup)∧(m*size=cs.length→jhH v size 0 m=v):=by
 obtain ⟨vs,T,S2,⟨n,⟨h1,h2⟩,rfl⟩,h4,rfl⟩:=h;have hvl:=RepL.length _ h4;have e:cs=cs.take (m*size)++cs.drop (m*size):=(List.take_append_drop _ _).symm;rw [e] at h4;obtain ⟨v1,v2,Sa,Sb,rfl,rfl,h5,h6⟩:=RepL.append_inv _ h4;have hv1:=RepL.length _ h5;rw [List.length_take,Nat.min_eq_left hm] at hv1
 have key:blk (jhH v size 0 m)=blk v∧w.ownsRow 0 ty size (jhH v size 0 m) m v1∧(m*size=cs.length→jhH v size 0 m=v):=by
  rcases h2 with ⟨rfl,rfl⟩|⟨g,cap,cur,rfl,a1,a2,a3,a4,a5,a6⟩
  ·have hm0:m=0:=by
    rcases Nat.eq_zero_or_pos m with h|h
    ·exact h
    ·have:=Nat.mul_pos h hs
     rw [Nat.zero_mul] at h1;omega
   subst hm0;have:v1=[]:=List.eq_nil_of_length_eq_zero (by omega)
   subst this;exact ⟨rfl,⟨by simp,.inl ⟨rfl,rfl⟩⟩,fun _=>rfl⟩
  ·have hmn:m*size≤n*size:=by rw [←h1,hvl];exact hm
   have hmn':m≤n:=Nat.le_of_mul_le_mul_right hmn hs
   have hsub:jhH (.slice (some ⟨g,0,none⟩) n cap) size 0 m=.slice (some ⟨g,0,none⟩) m cap:=by
    simp only [jhH];split<;>simp [Addr.add_lit]
   rw [hsub];refine ⟨rfl,⟨hv1,.inr ⟨g,cap,cur,rfl,a1,a2,by omega,a4,a5,?_⟩⟩,fun he=>?_⟩
   ·have:=congrArg (List.take (m*size)) a6
    rw [List.take_take,Nat.min_eq_left hmn,←hv1,List.take_left] at this;exact hv1▸this
   ·have:m=n:=Nat.eq_of_mul_eq_mul_right hs (by rw [he,←h1,hvl])
    rw [this]
 refine ⟨blk (jhH v size 0 m)++Sa,⟨v1,_,Sa,⟨m,key.2.1,rfl⟩,h5,rfl⟩,?_,?_,key.2.2⟩
 ·rw [key.1];intro b hb
  rcases List.mem_append.1 hb with hb|hb<;>simp [hb]
 ·rw [key.1];intro hn
  have:(blk v++Sa++Sb).Nodup:=by simpa using hn
  exact (List.nodup_append.1 this).1
def jyb (o:Nat→Ob) (g c g2:Nat) (d:D) (η':jp) (d2:D) (η2:jp):Nat→Ob:=fun j=>if j=g2 then .loose d2 η2 else if j=g then (o g).putOwn c d η' else o j
theorem jvC (h:RelF B w0 0 (.only o) Act.bare w F) {g c k g2 m size ty tyo:Nat} {cs ds0:List D} {η:jp} (ho:(o g).own c=some (.sl 1 tyo ds0,η)) (hk:ds0[k]?=some (.sl size ty cs)) (hg2:o g2=.none) (hne:g2≠g) (hs:0<size) (hm:m*size≤cs.length):
 ∃η2 η' F',RelF B w0 0 (.only (jyb o g c g2 (.sl 1 tyo (ds0.set k (.val (η [k])))) η' (.sl size ty (cs.take (m*size))) η2)) Act.bare w F'∧η2 []=jhH (η [k]) size 0 m∧η' []=η []∧(m*size=cs.length→jhH (η [k]) size 0 m=η [k]):=by
 obtain ⟨u,SA,Sd,SC,e1,a1,a2,a3,a4⟩:=jj1 (h.ob g) ho;obtain ⟨vs,T,S',hrow,hrl,rfl⟩:=a2;obtain ⟨v,SA',Sk,SC',b1,rfl,b3,b4⟩:=jfL hrl hk
 have hv:η [k]=v:=by
  rw [a3];rcases qw hrow with ⟨_,rfl⟩|⟨gg,nn,cc,rfl,_,_,hcell,_⟩
  ·simp at b1
  ·simp only [hdr,hk,Nat.zero_add,hcell k v b1,Option.getD_some]
 rw [hv];obtain ⟨S2,c1,c2,c3,c4⟩:=juw hs b3 hm;have hfr:=h.fr g;rw [e1] at hfr;have hnd:=hfr.1;have hrep:Rep w true (.sl 1 tyo (ds0.set k (.val v))) u (T++(SA'++[]++SC')):=⟨vs,T,_,hrow,b4 _ _ ⟨rfl,rfl⟩,rfl⟩;have hob:=a4 (.sl 1 tyo (ds0.set k (.val v))) (fun p=>hdr w p (.sl 1 tyo (ds0.set k (.val v))) u) _ rfl hrep (fun _=>rfl)
 have hSk:Sk.Nodup:=by
  have:Sk.Sublist (SA++(T++(SA'++Sk++SC'))++SC):=by
   refine List.Sublist.trans ?_ (List.sublist_append_left _ _);refine List.Sublist.trans ?_ (List.sublist_append_right _ _);refine List.Sublist.trans ?_ (List.sublist_append_right _ _);refine List.Sublist.trans ?_ (List.sublist_append_left _ _);exact List.sublist_append_right _ _
  exact hnd.sublist this
 have hsub:(SA++(T++(SA'++[]++SC'))++SC).Sublist (SA++(T++(SA'++Sk++SC'))++SC):=by
  refine List.Sublist.append (List.Sublist.append (List.Sublist.refl _) (List.Sublist.append (List.Sublist.refl _) (List.Sublist.append (List.Sublist.append (List.Sublist.refl _) (List.nil_sublist _)) (List.Sublist.refl _)))) (List.Sublist.refl _)
 have hmem:∀b∈SA++(T++(SA'++[]++SC'))++SC,b∉Sk:=by
  intro b hb hbk
  have p1:(SA++(T++(SA'++Sk++SC'))++SC).Perm (Sk++(SA++(T++(SA'++[]++SC'))++SC)):=by
   have:(SA++(T++(SA'++Sk++SC'))++SC)=(SA++(T++SA'))++(Sk++(SC'++SC)):=by simp
   rw [this];have:(SA++(T++(SA'++[]++SC'))++SC)=(SA++(T++SA'))++(SC'++SC):=by simp
   rw [this];exact (List.perm_append_comm_assoc _ _ _)
  have p2:=p1.nodup_iff.1 hnd;exact (List.nodup_append.1 p2).2.2 b hbk b hb rfl
 have hin:∀b∈Sk,b∈F g:=fun b hb=>by rw [e1];simp [hb]
 have r1:=h.setO (g:=g) hob ⟨hnd.sublist hsub,fun b hb=>hfr.2 b (hsub.subset hb)⟩ (fun g' hg' b hb hb'=>h.dj g' g hg' b hb' (by rw [e1];exact hsub.subset hb))
 have hob2:ORel B w (.loose (.sl size ty (cs.take (m*size))) (fun p=>hdr w p (.sl size ty (cs.take (m*size))) (jhH v size 0 m))) S2:=⟨rfl,_,c1,fun _=>rfl⟩
 have r2:=r1.setO (g:=g2) hob2 ⟨c3 hSk,fun b hb=>(h.fr g).2 b (hin b (c2 b hb))⟩ (fun g' hg' b hb=>by
  split
  ·exact fun hh=>hmem b hh (c2 b hb)
  ·rename_i hgg
   exact fun hh=>h.dj g' g hgg b hh (hin b (c2 b hb)))
 exact ⟨_,_,_,r2,rfl,(a3 []).symm▸rfl,c4⟩
theorem js9 {f:FuncId} {args:List AV} {R:AV→(Nat→Ob)→Prop} (h:Inl P f args o fun av o'=>∃g c k g2 m size ty tyo cs ds0 η,(av=.c (.hs g c [k] (η [k]) size 0 m)∨av=.c (.h g c [k] (η [k]))∧m*size=cs.length)∧(o' g).own c=some (.sl 1 tyo ds0,η)∧ds0[k]?=some (.sl size ty cs)∧o' g2=.none∧g2≠g∧0<size∧m*size≤cs.length∧
 ∀η2 η',η' []=η []→R (.c (.h g2 0 [] (η2 []))) (jyb o' g c g2 (.sl 1 tyo (ds0.set k (.val (η [k])))) η' (.sl size ty (cs.take (m*size))) η2)):Inl P f args o R:=
 ⟨h.1,fun B w F xs h1 h2=>(h.2 B w F xs h1 h2).mono fun e w' ⟨v,av,o',F',k1,k2,k3,g,c,k,g2,m,size,ty,tyo,cs,ds0,η,e1,e2,e3,e4,e5,e6,e7,e8⟩=>by
  obtain ⟨η2,η',F2,r1,r2,r3,r4⟩:=jvC k2 e2 e3 e4 e5 e6 e7;refine ⟨v,_,_,F2,k1,r1,?_,e8 η2 η' r3⟩;rcases e1 with rfl|⟨rfl,e1⟩
  ·obtain ⟨k4,k5⟩:=k3
   have k4:=k4.resolve_right fun h=>absurd h.1 (Nat.lt_irrefl 0)
   exact ⟨by rw [k4,r2],by rw [r2,←k4];exact k5⟩
  ·obtain ⟨k4,k5⟩:=k3
   exact ⟨by rw [k4,r2,r4 e1],by rw [r2,r4 e1];exact k5⟩⟩
variable {s:St} {K:St→Prop} {β:Nat} {gd:Option (Nat×Bool)} {d:Option Nat}
theorem is_hp (g c q:Nat) (p:List Nat) (x:Value) (dd:D):Is s (.h g c (q::p) x) dd=jhP ((s.o g).own c) fun d0 η=>D.get (q::p) d0=some dd∧η (q::p)=x∧dd.isSl=true:=by
 apply propext
 simp only [Is];cases (s.o g).own c with
 |none=>simp [jhP]
 |some z=>
  obtain ⟨d0,η⟩:=z;simp only [jhP,Option.some.injEq,Prod.mk.injEq];constructor
  ·rintro ⟨_,_,⟨rfl,rfl⟩,h1,h2,h3⟩;exact ⟨h2,h1,h3⟩
  ·rintro ⟨h1,h2,h3⟩;exact ⟨_,_,⟨rfl,rfl⟩,h2,h1,h3⟩
theorem jzX (g c b:Nat) (ds:List D):Ptr s (.bp g c b) ds=obK (s.o g) b fun _ cs=>Ptr.go s g b ((cs.drop c).take ds.length) c ds:=by
 rw [←jAa]
 apply propext
 simp only [Ptr];constructor
 ·rintro ⟨ty,cs,h1,_,rfl,h3⟩;exact ⟨ty,cs,h1,h3⟩
 ·rintro ⟨ty,cs,h1,h3⟩;exact ⟨ty,cs,h1,_,rfl,h3⟩
theorem go_nil_ (g b c:Nat):Ptr.go s g b [] c []=True:=by simp [Ptr.go]
theorem go_a_ (g b c:Nat) (x:A0) (l:List Cell) (e:D) (ds:List D):Ptr.go s g b (.a x::l) c (e::ds)=(IsP x e∧Ptr.go s g b l (c+1) ds):=(rfl)
theorem isP_v (x:Value):IsP (.v x) (.val x)=True:=eq_true (.inl rfl)
theorem jAn (e e':D):IsP (.ro e) e'=(e'=e):=(rfl)
theorem jqy (g c i:Nat) (p:List Nat) (η:jp) (e:D) (l:List D):jfW g c p η i (e::l)=e.toOwn g c (p++[i]) η::jfW g c p η (i+1) l:=(rfl)
def mkfK (s:St) (K:St→Prop) (d:Option Nat) (f:Nat):AV→Prop
 |.c a=>K (s.put d (.fn f [a]))
 |_=>False
theorem jAd (f:Nat) (a:A0):mkfK s K d f (.c a)=K (s.put d (.fn f [a])):=(rfl)
theorem jxd (f:Nat) (x:X):qT P β ⟨d,gd,.mkf f [x]⟩ s K=mkfK s K d f (s.ev x):=by
 cases hx:s.ev x with
 |c a=>
  refine jwB (os:=[]) (av:=.fn f [a]) rfl fun rt st av' os'=>?_
  simp [Gen,jbB,hx]
 |_=>
  apply propext
  refine ⟨fun h=>?_,fun h=>h.elim⟩
  have h':∃rt,∀st,∃av os,Gen P s (β+d.getD 0) rt st (.mkf f [x]) av os∧K ((s.addO os).put d av):=h;obtain ⟨rt,h1⟩:=h';obtain ⟨av,os,⟨l,h2,_⟩,_⟩:=h1 ⟨0,fun _ _=>undef⟩
  simp [jbB,hx] at h2
def clrA (s:St) (K:St→Prop) (size:Nat) (zs:List D):AV→Prop
 |.c (.v (.slice none 0 0))=>K s
 |.c (.hs g c p hx sz lo n)=>sz=size∧0<n∧jhP ((s.o g).own c) fun d0 η=>η p=hx∧jpg (D.get p d0) fun dd=>dd.isSl=true∧dd.size=sz∧lo+n≤dd.len∧
  stH (jW (List.replicate n zs).flatten&&jW ((dd.cells.drop (lo*sz)).take (n*sz))) p (lo*sz) (n*sz) η fun η'=>K (s.setO g ((s.o g).putOwn c (D.put p (lo*sz) (List.replicate n zs).flatten d0) η'))
 |_=>False
theorem jxl (size:Nat) (zs:List D) (x:X):qT P β ⟨none,gd,.clr size zs x⟩ s K=clrA s K size zs (s.ev x):=by
 apply propext
 show (none=none∧_)↔_;rw [eq_self,true_and];unfold clrA;split
 ·simp_all
 ·rename_i g c p hx sz lo n he
  simp only [he];cases ho:(s.o g).own c with
  |none=>simp [jhP]
  |some z=>
   obtain ⟨d0,η⟩:=z;simp only [jhP,Option.some.injEq,Prod.mk.injEq];constructor
   ·rintro ⟨a1,a2,_,_,dd,⟨rfl,rfl⟩,a3,a4,a5,a6,a7,a8⟩
    refine ⟨a1,a2,a3,?_⟩;rw [a4];exact ⟨a5,a6,a7,a8⟩
   ·rintro ⟨a1,a2,a3,a4⟩
    cases hg:D.get p d0 with
    |none=>rw [hg] at a4;exact a4.elim
    |some dd=>rw [hg] at a4;obtain ⟨a5,a6,a7,a8⟩:=a4;exact ⟨a1,a2,d0,η,dd,⟨rfl,rfl⟩,a3,hg,a5,a6,a7,a8⟩
 ·simp_all
theorem jyA (size:Nat) (zs:List D) (g c:Nat) (p:List Nat) (hx:Value) (sz lo n:Nat):clrA s K size zs (.c (.hs g c p hx sz lo n))=(sz=size∧0<n∧jhP ((s.o g).own c) fun d0 η=>η p=hx∧jpg (D.get p d0) fun dd=>dd.isSl=true∧dd.size=sz∧lo+n≤dd.len∧
 stH (jW (List.replicate n zs).flatten&&jW ((dd.cells.drop (lo*sz)).take (n*sz))) p (lo*sz) (n*sz) η fun η'=>K (s.setO g ((s.o g).putOwn c (D.put p (lo*sz) (List.replicate n zs).flatten d0) η'))):=rfl
theorem jpo (x:En):(jf x).length=4:=rfl
theorem kb {sh:List (List En)} {k:Nat} {l:List En} (h:sh[k]?=some l):D.get [k] (kt sh)=some (ji l):=by
 have e:sh.flatMap (fun es=>[ji es])=sh.map ji:=by clear h;induction sh<;>simp_all
 simp [kt,D.get,e,h,jcb]
end
attribute [go_sem] jxd jAd jqy is_hp jzX go_nil_ go_a_ isP_v jAn jxl jyA
section
variable {P:Program} {s:St}
def ju1 (s:St) (ds:List D) (d:D) (l:List A0):AV→Prop
 |.c a=>l.length=ds.length∧kI s (l++[a]) fun cs _=>IsD cs (ds++[d])
 |_=>False
def jxx (s:St) (k:Nat) (ds:List D) (d:D) (b:AV):AV→Prop
 |.c (.bp g c bb)=>ldB (s.o g) g c bb k fun l=>ju1 s ds d l b
 |_=>False
theorem qh (n k m:Nat) (ds:List D) (d:D) (h:jxx s k ds d (s.t m) (s.t n)):jwc [.cell n true k,.t m] (.tup [(true,ds),(false,[d])]) s:=by
 unfold jxx at h;split at h
 ·rename_i g c bb he
  simp only [ldB] at h;split at h
  ·rename_i b ty cs ho
   obtain ⟨e1,e2,h⟩:=h;unfold ju1 at h;split at h
   ·rename_i a ha
    obtain ⟨h1,h2⟩:=h;simp only [jwc,jif,ha,he];refine ⟨_,⟨ty,cs,by rw [ho,e1],e2,rfl⟩,.inl trivial,?_⟩
    refine ⟨⟨by simp,by simp [h1]⟩,?_⟩
    simpa [RT.flat] using h2
   ·exact h.elim
  ·exact h.elim
 ·exact h.elim
theorem jzI (ds:List D) (d:D) (l:List A0) (a:A0):ju1 s ds d l (.c a)=(l.length=ds.length∧kI s (l++[a]) fun cs _=>IsD cs (ds++[d])):=(rfl)
theorem jzH (k g c bb:Nat) (ds:List D) (d:D) (b:AV):jxx s k ds d b (.c (.bp g c bb))=ldB (s.o g) g c bb k fun l=>ju1 s ds d l b:=(rfl)
end
attribute [go_sem] jzI jzH
theorem jnw {l:List Rn} {k j:Nat} {r:Rn} (h:l[k]?=some r) (hj:j<8):(l.flatMap jd)[k*8+j]?=(jd r)[j]?:=by
 rw [jaS (enc:=jd) h,List.getElem?_append_right (by rw [jhF (enc:=jd) (size:=8) (fun _=>rfl) h];omega),jhF (enc:=jd) (size:=8) (fun _=>rfl) h,Nat.add_sub_cancel_left,List.getElem?_append_left (by exact hj)]
theorem jlk {l:List Rn} {k:Nat} {r:Rn} (h:l[k]?=some r):D.get [k*8+5] (jM l)=some (jA r.plan.edges):=by
 have:=jnw (j:=5) h (by decide)
 simp [jM,D.get,this,jd,ja,jcb]
theorem ki {l:List Rn} {k:Nat} {r:Rn} (h:l[k]?=some r):D.get [k*8+7] (jM l)=some (jx r.tasks):=by
 have:=jnw (j:=7) h (by decide)
 simp [jM,D.get,this,jd,ja,jcb]
theorem ka {l:List Rn} {k:Nat} {r:Rn} (h:l[k]?=some r):D.get [k*8+1+1+1+1+1] (jM l)=some (jA r.plan.edges):=jlk h
theorem ko {l:List Rn} {k:Nat} {r:Rn} (h:l[k]?=some r):D.get [k*8+1+1+1+1+1+1+1] (jM l)=some (jx r.tasks):=ki h
theorem jnD {l:List Rn} {k:Nat} (v:Rn) (hk:k<l.length):D.put [] (k*8) [.val (.int .i64 v.id),.val (.int .i64 v.plan.prio),.val (.int .i64 v.plan.most),.val (.int .i64 v.plan.wait),.val (.int .i64 v.plan.tasks),jA v.plan.edges,.val (.int .i64 v.state),jx v.tasks] (jM l)=jM (l.set k v):=jqa v hk
theorem qU {y:Yd} {id:Int} (h:¬runAt y id<0):∃(k:Nat) (r:Rn),runAt y id=k∧y.runs[k]?=some r∧r.id=id∧y.runs.length≤8:=by
 unfold runAt at h⊢;split at h
 ·omega
 ·rename_i h8
  rw [if_neg h8];rcases jid y.runs id with ⟨k,x,h1,h2,_,h4⟩|⟨_,h2⟩
  ·exact ⟨k,x,h4,h1,h2,by omega⟩
  ·rw [h2] at h;omega
theorem jjF {l:List Rn} {k:Nat} {x:Rn} (hx:l[k]?=some x):((l.flatMap jd).drop (k*8)).take 8=jd x:=qK (enc:=jd) (size:=8) (fun _=>rfl) hx (j:=0) (n:=8) (by decide)
theorem jeE {l:List Rn} {k:Nat} {x:Rn} (hx:l[k]?=some x):k*8+8≤(l.flatMap jd).length:=qI (enc:=jd) (size:=8) (fun _=>rfl) hx (j:=0) (n:=8) (by decide)
open Go.RowKit Go.Sort Go.BigFrame
theorem jvB (y:Yd) (id task tri:Int) (a:Value) (S:List Nat) (w:World) (own:Bool) (ha:AggRep w own (jb y) a S):
 Calls Tryz.prog 227 #[a,.int .i64 id,.int .i64 task,.int .i64 tri] w fun e1 w'=>e1=.returned (.bool (vN y id task tri))∧Below w.heap.size w w':=by
 obtain ⟨_,rfl,ha⟩:=ha;obtain ⟨sv,rv,S1,S2,rfl,ah0,ah1,rfl⟩:=qe ha;clear ha;rcases vE y id task with ⟨hr,ht⟩|⟨k,r,hr,hx,⟨hno,ht⟩|⟨j,t,hj,htx,ht⟩⟩
 ·have HR:=Lib.hid hr
  have HF:Hid (vN y id task tri=false):=by unfold vN;rw [ht];rfl
  clear hr ht
  go_enter Tryz.func227,Tryz.ntmps227
  go_wp2_with (go_at_call 56;refine (ci (jaC y id _ _ _ own ⟨_,rfl,jaq (upA ah0 _) (upA ah1 _)⟩) HR.out).mono ?_;rintro e1 w1 ⟨rfl,hb1⟩;obtain ⟨hc1,hf1⟩:=kX hb1)
  go_ret
  exact ⟨jy (by rw [HF.out]),jv ((Below.refl _ _).alloc (by simp) _) hb1⟩
 all_goals
  have HR:=Lib.hid hr;obtain ⟨A,c,rfl,hc1,hc2,hca⟩:=Rep.open_ (size:=8) (enc:=jd) (fun _=>rfl) (by decide) ah1
  have hk:k<y.runs.length:=(List.getElem?_eq_some_iff.1 hx).1;unfold maxLen at hc2;have hl1:y.runs.length≤9223372036854775807:=by omega
  obtain ⟨b1,o1,vk1,T1,rfl,-,hr1,-,-,hbl,hx1⟩:=hca k r hx;clear hca;obtain ⟨v0,v1,U0,U1,rfl,-,hts,-⟩:=kh hr1;have p7:=hx1 7 _ rfl;clear hx1 hr1;obtain ⟨B,d,rfl,hd1,hd2,hdb⟩:=Rep.open_ (size:=4) (enc:=jn) (fun _=>rfl) (by decide) hts
  unfold maxLen at hd2;have hl2:r.tasks.length≤9223372036854775807:=by omega
  have hk0:decide ((k:Int)≥0)=true:=by simp
  have hk1:decide ((k:Int)<0)=false:=by simp
  clear hr hx
 ·clear hdb
  have HF:Hid (vN y id task tri=false):=by unfold vN;rw [ht];rfl
  have HW:Hid (inb task 0 ((r.tasks.length:Int)-1)=false):=vu hno;clear ht hno
  go_enter Tryz.func227,Tryz.ntmps227
  go_wp2_with fail
  refine (ci (jaC y id _ _ _ own ⟨_,rfl,jaq (upA ah0 _) (upA ah1 _)⟩) HR.out).mono ?_;rintro e1 w1 ⟨rfl,hb1⟩;obtain ⟨hc1,hf1⟩:=kX hb1;have hBw:Below w.heap.size w w1:=jv ((Below.refl _ _).alloc (by simp) _) hb1
  have p7':=ju hBw p7;have q3:w1.cell? ⟨w.heap.size,3,none⟩=some (.slice (some ⟨b1,o1,none⟩) y.runs.length c):=(hc1 _ _ (by simp)).trans (by simp [go_sem])
  go_wp2_with (go_at_call 78;refine (cb (vt _ _ _ _) HW.out).mono ?_;rintro e2 w2 ⟨rfl,hb2⟩;obtain ⟨hc2,hf2⟩:=kX hb2)
  go_ret
  exact ⟨jy (by rw [HF.out]),jv hBw hb2⟩
 ·obtain ⟨b2,o2,vk2,T2,rfl,-,hr2,-,-,hbl2,hx2⟩:=hdb j t htx
  clear hdb;obtain ⟨rfl,rfl⟩:=qE hr2;have p0:w.cell? ⟨b2,o2+j*4,none⟩=some (.int .i64 t.state):=hx2 0 _ rfl;have p1:=hx2 1 _ rfl;have p2:=hx2 2 _ rfl;have p3:=hx2 3 _ rfl;have hjl:j<r.tasks.length:=(List.getElem?_eq_some_iff.1 htx).1;clear hx2 hr2 htx;subst hj;have HW:Hid (inb (j:Int) 0 ((r.tasks.length:Int)-1)=true):=jaA (by omega)
  by_cases hst:t.state=3
  ·have hs:(t.state==3)=true:=by simpa using hst
   by_cases htr:t.tri=tri
   all_goals
    first|(have hs2:(t.tri==tri)=true:=by simpa using htr)|(have hs2:(t.tri==tri)=false:=by simpa using htr)
    have HF:=Lib.hid (show vN y id j tri=(t.tri==tri) by unfold vN;rw [ht];simp [hs])
    clear ht hst htr
    go_enter Tryz.func227,Tryz.ntmps227
    go_wp2_with fail
    refine (ci (jaC y id _ _ _ own ⟨_,rfl,jaq (upA ah0 _) (upA ah1 _)⟩) HR.out).mono ?_;rintro e1 w1 ⟨rfl,hb1⟩;obtain ⟨hc1,hf1⟩:=kX hb1;have hBw:Below w.heap.size w w1:=jv ((Below.refl _ _).alloc (by simp) _) hb1
    have p7':=ju hBw p7;have q3:w1.cell? ⟨w.heap.size,3,none⟩=some (.slice (some ⟨b1,o1,none⟩) y.runs.length c):=(hc1 _ _ (by simp)).trans (by simp [go_sem])
    go_wp2_with fail
    refine (cb (vt _ _ _ _) HW.out).mono ?_;rintro e2 w2 ⟨rfl,hb2⟩;obtain ⟨hc2,hf2⟩:=kX hb2
    replace p7':=ju hb2 p7'
    replace q3:=ju hb2 q3
    have p0':=ju hb2 (ju hBw p0);have p1':=ju hb2 (ju hBw p1);have p2':=ju hb2 (ju hBw p2);have p3':=ju hb2 (ju hBw p3)
    go_wp2
    go_ret
    exact ⟨jy (by rw [HF.out,hs2]),by repeat (first|(with_reducible exact jv hBw hb2)|((with_reducible refine Below.alloc ?_ ?_ _);rotate_left;focus (exact (jv hBw hb2).size)))⟩
  ·have hs:(t.state==3)=false:=by simpa using hst
   have HF:=Lib.hid (show vN y id j tri=false by unfold vN;rw [ht];simp [hs])
   clear ht hst
   go_enter Tryz.func227,Tryz.ntmps227
   go_wp2_with fail
   refine (ci (jaC y id _ _ _ own ⟨_,rfl,jaq (upA ah0 _) (upA ah1 _)⟩) HR.out).mono ?_;rintro e1 w1 ⟨rfl,hb1⟩;obtain ⟨hc1,hf1⟩:=kX hb1;have hBw:Below w.heap.size w w1:=jv ((Below.refl _ _).alloc (by simp) _) hb1
   have p7':=ju hBw p7;have q3:w1.cell? ⟨w.heap.size,3,none⟩=some (.slice (some ⟨b1,o1,none⟩) y.runs.length c):=(hc1 _ _ (by simp)).trans (by simp [go_sem])
   go_wp2_with fail
   refine (cb (vt _ _ _ _) HW.out).mono ?_;rintro e2 w2 ⟨rfl,hb2⟩;obtain ⟨hc2,hf2⟩:=kX hb2
   replace p7':=ju hb2 p7'
   replace q3:=ju hb2 q3
   have p0':=ju hb2 (ju hBw p0);have p1':=ju hb2 (ju hBw p1);have p2':=ju hb2 (ju hBw p2);have p3':=ju hb2 (ju hBw p3)
   go_wp2
   go_ret
   exact ⟨jy (by rw [HF.out]),by repeat (first|(with_reducible exact jv hBw hb2)|((with_reducible refine Below.alloc ?_ ?_ _);rotate_left;focus (exact (jv hBw hb2).size)))⟩
theorem juR (y:Yd) (id task tri:Int) (a:Value) (S:List Nat) (w:World) (own:Bool) (ha:AggRep w own (jb y) a S):
 Calls Tryz.prog 262 #[a,.int .i64 id,.int .i64 task,.int .i64 tri] w fun e1 w'=>e1=.returned (.bool (vN y id task tri))∧Below w.heap.size w w':=by
 obtain ⟨_,rfl,ha⟩:=ha;obtain ⟨sv,rv,S1,S2,rfl,ah0,ah1,rfl⟩:=qe ha;clear ha;rcases vE y id task with ⟨hr,ht⟩|⟨k,r,hr,hx,⟨hno,ht⟩|⟨j,t,hj,htx,ht⟩⟩
 ·have HR:=Lib.hid hr
  have HF:Hid (vN y id task tri=false):=by unfold vN;rw [ht];rfl
  clear hr ht
  go_enter Tryz.func262,Tryz.ntmps262
  go_wp2_with (go_at_call 152;refine (ci (jay y id _ _ _ own ⟨_,rfl,jaq (upA ah0 _) (upA ah1 _)⟩) HR.out).mono ?_;rintro e1 w1 ⟨rfl,hb1⟩;obtain ⟨hc1,hf1⟩:=kX hb1)
  go_ret
  exact ⟨jy (by rw [HF.out]),jv ((Below.refl _ _).alloc (by simp) _) hb1⟩
 all_goals
  have HR:=Lib.hid hr;obtain ⟨A,c,rfl,hc1,hc2,hca⟩:=Rep.open_ (size:=8) (enc:=jd) (fun _=>rfl) (by decide) ah1
  have hk:k<y.runs.length:=(List.getElem?_eq_some_iff.1 hx).1;unfold maxLen at hc2;have hl1:y.runs.length≤9223372036854775807:=by omega
  obtain ⟨b1,o1,vk1,T1,rfl,-,hr1,-,-,hbl,hx1⟩:=hca k r hx;clear hca;obtain ⟨v0,v1,U0,U1,rfl,-,hts,-⟩:=kh hr1;have p7:=hx1 7 _ rfl;clear hx1 hr1;obtain ⟨B,d,rfl,hd1,hd2,hdb⟩:=Rep.open_ (size:=4) (enc:=jn) (fun _=>rfl) (by decide) hts
  unfold maxLen at hd2;have hl2:r.tasks.length≤9223372036854775807:=by omega
  have hk0:decide ((k:Int)≥0)=true:=by simp
  have hk1:decide ((k:Int)<0)=false:=by simp
  clear hr hx
 ·clear hdb
  have HF:Hid (vN y id task tri=false):=by unfold vN;rw [ht];rfl
  have HW:Hid (inb task 0 ((r.tasks.length:Int)-1)=false):=vu hno;clear ht hno
  go_enter Tryz.func262,Tryz.ntmps262
  go_wp2_with fail
  refine (ci (jay y id _ _ _ own ⟨_,rfl,jaq (upA ah0 _) (upA ah1 _)⟩) HR.out).mono ?_;rintro e1 w1 ⟨rfl,hb1⟩;obtain ⟨hc1,hf1⟩:=kX hb1;have hBw:Below w.heap.size w w1:=jv ((Below.refl _ _).alloc (by simp) _) hb1
  have p7':=ju hBw p7;have q3:w1.cell? ⟨w.heap.size,3,none⟩=some (.slice (some ⟨b1,o1,none⟩) y.runs.length c):=(hc1 _ _ (by simp)).trans (by simp [go_sem])
  go_wp2_with (go_at_call 74;refine (cb (zo _ _ _ _) HW.out).mono ?_;rintro e2 w2 ⟨rfl,hb2⟩;obtain ⟨hc2,hf2⟩:=kX hb2)
  go_ret
  exact ⟨jy (by rw [HF.out]),jv hBw hb2⟩
 ·obtain ⟨b2,o2,vk2,T2,rfl,-,hr2,-,-,hbl2,hx2⟩:=hdb j t htx
  clear hdb;obtain ⟨rfl,rfl⟩:=qE hr2;have p0:w.cell? ⟨b2,o2+j*4,none⟩=some (.int .i64 t.state):=hx2 0 _ rfl;have p1:=hx2 1 _ rfl;have p2:=hx2 2 _ rfl;have p3:=hx2 3 _ rfl;have hjl:j<r.tasks.length:=(List.getElem?_eq_some_iff.1 htx).1;clear hx2 hr2 htx;subst hj;have HW:Hid (inb (j:Int) 0 ((r.tasks.length:Int)-1)=true):=jaA (by omega)
  by_cases hst:t.state=3
  ·have hs:(t.state==3)=true:=by simpa using hst
   by_cases htr:t.tri=tri
   all_goals
    first|(have hs2:(t.tri==tri)=true:=by simpa using htr)|(have hs2:(t.tri==tri)=false:=by simpa using htr)
    have HF:=Lib.hid (show vN y id j tri=(t.tri==tri) by unfold vN;rw [ht];simp [hs])
    clear ht hst htr
    go_enter Tryz.func262,Tryz.ntmps262
    go_wp2_with fail
    refine (ci (jay y id _ _ _ own ⟨_,rfl,jaq (upA ah0 _) (upA ah1 _)⟩) HR.out).mono ?_;rintro e1 w1 ⟨rfl,hb1⟩;obtain ⟨hc1,hf1⟩:=kX hb1;have hBw:Below w.heap.size w w1:=jv ((Below.refl _ _).alloc (by simp) _) hb1
    have p7':=ju hBw p7;have q3:w1.cell? ⟨w.heap.size,3,none⟩=some (.slice (some ⟨b1,o1,none⟩) y.runs.length c):=(hc1 _ _ (by simp)).trans (by simp [go_sem])
    go_wp2_with fail
    refine (cb (zo _ _ _ _) HW.out).mono ?_;rintro e2 w2 ⟨rfl,hb2⟩;obtain ⟨hc2,hf2⟩:=kX hb2
    replace p7':=ju hb2 p7'
    replace q3:=ju hb2 q3
    have p0':=ju hb2 (ju hBw p0);have p1':=ju hb2 (ju hBw p1);have p2':=ju hb2 (ju hBw p2);have p3':=ju hb2 (ju hBw p3)
    go_wp2
    go_ret
    exact ⟨jy (by rw [HF.out,hs2]),by repeat (first|(with_reducible exact jv hBw hb2)|((with_reducible refine Below.alloc ?_ ?_ _);rotate_left;focus (exact (jv hBw hb2).size)))⟩
  ·have hs:(t.state==3)=false:=by simpa using hst
   have HF:=Lib.hid (show vN y id j tri=false by unfold vN;rw [ht];simp [hs])
   clear ht hst
   go_enter Tryz.func262,Tryz.ntmps262
   go_wp2_with fail
   refine (ci (jay y id _ _ _ own ⟨_,rfl,jaq (upA ah0 _) (upA ah1 _)⟩) HR.out).mono ?_;rintro e1 w1 ⟨rfl,hb1⟩;obtain ⟨hc1,hf1⟩:=kX hb1;have hBw:Below w.heap.size w w1:=jv ((Below.refl _ _).alloc (by simp) _) hb1
   have p7':=ju hBw p7;have q3:w1.cell? ⟨w.heap.size,3,none⟩=some (.slice (some ⟨b1,o1,none⟩) y.runs.length c):=(hc1 _ _ (by simp)).trans (by simp [go_sem])
   go_wp2_with fail
   refine (cb (zo _ _ _ _) HW.out).mono ?_;rintro e2 w2 ⟨rfl,hb2⟩;obtain ⟨hc2,hf2⟩:=kX hb2
   replace p7':=ju hb2 p7'
   replace q3:=ju hb2 q3
   have p0':=ju hb2 (ju hBw p0);have p1':=ju hb2 (ju hBw p1);have p2':=ju hb2 (ju hBw p2);have p3':=ju hb2 (ju hBw p3)
   go_wp2
   go_ret
   exact ⟨jy (by rw [HF.out]),by repeat (first|(with_reducible exact jv hBw hb2)|((with_reducible refine Below.alloc ?_ ?_ _);rotate_left;focus (exact (jv hBw hb2).size)))⟩
section
variable {P:Program} {f:FuncId}
theorem jzU {v1 v2 v3 v4:View} {u:Value} (hn:jgt P f) (h:∀w a b c d,ViewRel w v1 a→ViewRel w v2 b→ViewRel w v3 c→ViewRel w v4 d→Calls P f #[a,b,c,d] w fun e w'=>e=.returned u∧Below w.heap.size w w'):kf P f [v1,v2,v3,v4] (.c (.val u)):=by
 refine ⟨hn,fun w xs hv=>?_⟩
 obtain ⟨a,_,rfl,h1,b,_,rfl,h2,c,_,rfl,h3,d,_,rfl,h4,h5⟩:=hv;rw [show _=_ from h5]
 exact (h w a b c d h1 h2 h3 h4).mono fun e w' ⟨he,hb⟩=>⟨u,[],he,⟨rfl,rfl⟩,Fresh.nil _,hb⟩
end
theorem jme (y:Yd) (id task tri:Int):kf Tryz.prog 262 [.agg (jb y),.c (.val (.int .i64 id)),.c (.val (.int .i64 task)),.c (.val (.int .i64 tri))] (.c (.val (.bool (vN y id task tri)))):=
 jzU ⟨_,Tryz.func262,by kernel_rfl,by kernel_rfl⟩ fun w a b c d ⟨S,ha⟩ hb hc hd=>by rw [vO hb,vO hc,vO hd];exact juR y id task tri a S w false ha
theorem jb3 (y:Yd) (id task tri:Int):kf Tryz.prog 227 [.agg (jb y),.c (.val (.int .i64 id)),.c (.val (.int .i64 task)),.c (.val (.int .i64 tri))] (.c (.val (.bool (vN y id task tri)))):=
 jzU ⟨_,Tryz.func227,by kernel_rfl,by kernel_rfl⟩ fun w a b c d ⟨S,ha⟩ hb hc hd=>by rw [vO hb,vO hc,vO hd];exact jvB y id task tri a S w false ha
open Classical in
noncomputable def jaI (y:Yd) (id task tri:Int):Int:=if jD y=false then 8 else if runAt y id<0 then 10 else if vN y id task tri=false then 11 else 0
def je2:C:=iS [iA 4 (.box 37 4 (.t 0)),iA 8 (iN 0)] (.seq (.blk 0 (iS [iA 10 (iT 4 4),iA 11 (.call 72 [.t 10]),iA 12 (iU 11),iA 9 (iM 12)] (iD 9 (iS [iA 8 (iN 8)] .ret) (iS [iA 14 (iT 4 4),iA 15 (iM 1),iA 16 (.call 152 [.t 14,.t 15]),iA 17 (iQ .lss 3 16 0),iA 13 (iM 17)] (iD 13 (iS [iA 8 (iN 10)] .ret) (iS [iA 19 (iT 4 4),iA 20 (iM 1),iA 21 (iM 2),iA 22 (iM 3),iA 23 (.call 262 [.t 19,.t 20,.t 21,.t 22]),iA 24 (iU 23),iA 18 (iM 24)] (iD 18 (iS [iA 8 (iN 11)] .ret) .skip))))))) (iS [iA 8 (iN 0)] .ret))
theorem jg6:fnC Tryz.prog Tryz.f196=some (je2,[.t 8],25):=by kernel_rfl
def jiU:C:=iS [iA 4 (.box 37 4 (.t 0)),iA 8 (iN 0)] (.seq (.blk 0 (iS [iA 10 (iT 4 4),iA 11 (.call 59 [.t 10]),iA 12 (iU 11),iA 9 (iM 12)] (iD 9 (iS [iA 8 (iN 8)] .ret) (iS [iA 14 (iT 4 4),iA 15 (iM 1),iA 16 (.call 56 [.t 14,.t 15]),iA 17 (iQ .lss 3 16 0),iA 13 (iM 17)] (iD 13 (iS [iA 8 (iN 10)] .ret) (iS [iA 19 (iT 4 4),iA 20 (iM 1),iA 21 (iM 2),iA 22 (iM 3),iA 23 (.call 227 [.t 19,.t 20,.t 21,.t 22]),iA 24 (iU 23),iA 18 (iM 24)] (iD 18 (iS [iA 8 (iN 11)] .ret) .skip))))))) (iS [iA 8 (iN 0)] .ret))
theorem jjz:fnC Tryz.prog Tryz.f220=some (jiU,[.t 8],25):=by kernel_rfl
theorem jet (y:Yd) (id task tri:Int) (ht:jt y≤2000000):kf Tryz.prog 196 [.agg (jb y),.c (.val (.int .i64 id)),.c (.val (.int .i64 task)),.c (.val (.int .i64 tri))] (.c (.val (.int .i64 (jaI y id task tri)))):=by
 refine jr Tryz.func196 jg6 (by simp) ?_
 unfold je2;simp only [go_sem,jb];intro b4;refine jc (qi y ht) (by simp only [go_sem,jb]) fun η=>?_
 simp only [go_sem,jb];cases hok:jD y
 ·have hc:jaI y id task tri=8:=by simp [jaI,hok]
  simp only [go_sem,jb,hok,hc]
 simp only [go_sem,jb,hok];refine jc (qj y id) (by simp only [go_sem,jb]) fun η=>?_
 simp only [go_sem,jb];by_cases hneg:runAt y id<0
 ·have hc:jaI y id task tri=10:=by simp [jaI,hok,hneg]
  simp only [go_sem,jb,hneg,hc]
 simp only [go_sem,jb,hneg];refine jc (jme y id task tri) (by simp only [go_sem,jb]) fun η=>?_
 simp only [go_sem,jb];cases hh:vN y id task tri
 ·have hc:jaI y id task tri=11:=by simp [jaI,hok,hneg,hh]
  simp only [go_sem,jb,hh,hc]
 ·have hc:jaI y id task tri=0:=by simp [jaI,hok,hneg,hh]
  simp only [go_sem,jb,hh,hc]
theorem jij (y:Yd) (id task tri:Int) (ht:jt y≤2000000):kf Tryz.prog 220 [.agg (jb y),.c (.val (.int .i64 id)),.c (.val (.int .i64 task)),.c (.val (.int .i64 tri))] (.c (.val (.int .i64 (jaI y id task tri)))):=by
 refine jr Tryz.func220 jjz (by simp) ?_
 unfold jiU;simp only [go_sem,jb];intro b4;refine jc (ql y ht) (by simp only [go_sem,jb]) fun η=>?_
 simp only [go_sem,jb];cases hok:jD y
 ·have hc:jaI y id task tri=8:=by simp [jaI,hok]
  simp only [go_sem,jb,hok,hc]
 simp only [go_sem,jb,hok];refine jc (qm y id) (by simp only [go_sem,jb]) fun η=>?_
 simp only [go_sem,jb];by_cases hneg:runAt y id<0
 ·have hc:jaI y id task tri=10:=by simp [jaI,hok,hneg]
  simp only [go_sem,jb,hneg,hc]
 simp only [go_sem,jb,hneg];refine jc (jb3 y id task tri) (by simp only [go_sem,jb]) fun η=>?_
 simp only [go_sem,jb];cases hh:vN y id task tri
 ·have hc:jaI y id task tri=11:=by simp [jaI,hok,hneg,hh]
  simp only [go_sem,jb,hh,hc]
 ·have hc:jaI y id task tri=0:=by simp [jaI,hok,hneg,hh]
  simp only [go_sem,jb,hh,hc]
theorem jos {y:Yd} {id task tri:Int} (h:jaI y id task tri=0):YardOkP y∧¬runAt y id<0:=by
 unfold jaI at h;split at h
 ·cases h
 split at h
 ·cases h
 rename_i h1 h2;exact ⟨yard_iff.1 (by simpa using h1),h2⟩
end Go.Proofs.YtmnpailnelmpiaaGreat
