/- Parts. -/
import Derived.Test.YtcehjhiglmifjaaGreatQYardB
import Derived.Shelf.Spec.SlicesInsertGrow
import Derived.Lib.Overlaps
set_option linter.unusedSimpArgs false
set_option linter.unusedVariables false
set_option maxHeartbeats 8000000
set_option maxRecDepth 100000
namespace Go.Proofs.YtcehjhiglmifjaaGreat
open Go.RowKit Go.Sort
section
variable {P:Program} {B:Nat} {w w0:World} {F:Nat→List Nat} {o:Nat→Ob}
theorem jvH {size:Nat} {ty:TypeId} {cs:List D} {v:Value} {S:List Nat} {m:Nat} (hs:0<size) (h:Rep w true (.sl size ty cs) v S) (hm:m*size≤cs.length):∃S',Rep w true (.sl size ty (cs.take (m*size))) (jix v size 0 m) S'∧(∀b∈S',b∈S)∧(S.Nodup→S'.Nodup)∧(m*size=cs.length→jix v size 0 m=v):=by
 obtain ⟨vs,T,S2,⟨n,⟨h1,h2⟩,rfl⟩,h4,rfl⟩:=h;have hvl:=RepL.length _ h4;have e:cs=cs.take (m*size)++cs.drop (m*size):=(List.take_append_drop _ _).symm;rw [e] at h4;obtain ⟨v1,v2,Sa,Sb,rfl,rfl,h5,h6⟩:=RepL.append_inv _ h4;have hv1:=RepL.length _ h5;rw [List.length_take,Nat.min_eq_left hm] at hv1
 have key:blk (jix v size 0 m)=blk v∧w.ownsRow 0 ty size (jix v size 0 m) m v1∧(m*size=cs.length→jix v size 0 m=v):=by
  rcases h2 with ⟨rfl,rfl⟩|⟨g,cap,cur,rfl,a1,a2,a3,a4,a5,a6⟩
  ·have hm0:m=0:=by
    rcases Nat.eq_zero_or_pos m with h|h
    ·exact h
    ·have:=Nat.mul_pos h hs
     rw [Nat.zero_mul] at h1;omega
   subst hm0;have:v1=[]:=List.eq_nil_of_length_eq_zero (by omega)
   subst this;exact ⟨rfl,⟨by simp,.inl ⟨rfl,rfl⟩⟩,fun _=>rfl⟩
  ·have hmn:m*size≤n*size:=by rw [←h1,hvl];exact hm
   have hmn':m≤n:=Nat.le_of_mul_le_mul_right hmn hs
   have hsub:jix (.slice (some ⟨g,0,none⟩) n cap) size 0 m=.slice (some ⟨g,0,none⟩) m cap:=by
    simp only [jix];split<;>simp [Addr.add_lit]
   rw [hsub];refine ⟨rfl,⟨hv1,.inr ⟨g,cap,cur,rfl,a1,a2,by omega,a4,a5,?_⟩⟩,fun he=>?_⟩
   ·have:=congrArg (List.take (m*size)) a6
    rw [List.take_take,Nat.min_eq_left hmn,←hv1,List.take_left] at this;exact hv1▸this
   ·have:m=n:=Nat.eq_of_mul_eq_mul_right hs (by rw [he,←h1,hvl])
    rw [this]
 refine ⟨blk (jix v size 0 m)++Sa,⟨v1,_,Sa,⟨m,key.2.1,rfl⟩,h5,rfl⟩,?_,?_,key.2.2⟩
 ·rw [key.1];intro b hb
  rcases List.mem_append.1 hb with hb|hb<;>simp [hb]
 ·rw [key.1];intro hn
  have:(blk v++Sa++Sb).Nodup:=by simpa using hn
  exact (List.nodup_append.1 this).1
def jzm (o:Nat→Ob) (g c g2:Nat) (d:D) (η':js) (d2:D) (η2:js):Nat→Ob:=fun j=>if j=g2 then .loose d2 η2 else if j=g then (o g).putOwn c d η' else o j
theorem jwE (h:RelF B w0 0 (.only o) Act.bare w F) {g c k g2 m size ty tyo:Nat} {cs ds0:List D} {η:js} (ho:(o g).own c=some (.sl 1 tyo ds0,η)) (hk:ds0[k]?=some (.sl size ty cs)) (hg2:o g2=.none) (hne:g2≠g) (hs:0<size) (hm:m*size≤cs.length):
 ∃η2 η' F',RelF B w0 0 (.only (jzm o g c g2 (.sl 1 tyo (ds0.set k (.val (η [k])))) η' (.sl size ty (cs.take (m*size))) η2)) Act.bare w F'∧η2 []=jix (η [k]) size 0 m∧η' []=η []∧(m*size=cs.length→jix (η [k]) size 0 m=η [k]):=by
 obtain ⟨u,SA,Sd,SC,e1,a1,a2,a3,a4⟩:=jk0 (h.ob g) ho;obtain ⟨vs,T,S',hrow,hrl,rfl⟩:=a2;obtain ⟨v,SA',Sk,SC',b1,rfl,b3,b4⟩:=jgA hrl hk
 have hv:η [k]=v:=by
  rw [a3];rcases qy hrow with ⟨_,rfl⟩|⟨gg,nn,cc,rfl,_,_,hcell,_⟩
  ·simp at b1
  ·simp only [hdr,hk,Nat.zero_add,hcell k v b1,Option.getD_some]
 rw [hv];obtain ⟨S2,c1,c2,c3,c4⟩:=jvH hs b3 hm;have hfr:=h.fr g;rw [e1] at hfr;have hnd:=hfr.1;have hrep:Rep w true (.sl 1 tyo (ds0.set k (.val v))) u (T++(SA'++[]++SC')):=⟨vs,T,_,hrow,b4 _ _ ⟨rfl,rfl⟩,rfl⟩;have hob:=a4 (.sl 1 tyo (ds0.set k (.val v))) (fun p=>hdr w p (.sl 1 tyo (ds0.set k (.val v))) u) _ rfl hrep (fun _=>rfl)
 have hSk:Sk.Nodup:=by
  have:Sk.Sublist (SA++(T++(SA'++Sk++SC'))++SC):=by
   refine List.Sublist.trans ?_ (List.sublist_append_left _ _);refine List.Sublist.trans ?_ (List.sublist_append_right _ _);refine List.Sublist.trans ?_ (List.sublist_append_right _ _);refine List.Sublist.trans ?_ (List.sublist_append_left _ _);exact List.sublist_append_right _ _
  exact hnd.sublist this
 have hsub:(SA++(T++(SA'++[]++SC'))++SC).Sublist (SA++(T++(SA'++Sk++SC'))++SC):=by
  refine List.Sublist.append (List.Sublist.append (List.Sublist.refl _) (List.Sublist.append (List.Sublist.refl _) (List.Sublist.append (List.Sublist.append (List.Sublist.refl _) (List.nil_sublist _)) (List.Sublist.refl _)))) (List.Sublist.refl _)
 have hmem:∀b∈SA++(T++(SA'++[]++SC'))++SC,b∉Sk:=by
  intro b hb hbk
  have p1:(SA++(T++(SA'++Sk++SC'))++SC).Perm (Sk++(SA++(T++(SA'++[]++SC'))++SC)):=by
   have:(SA++(T++(SA'++Sk++SC'))++SC)=(SA++(T++SA'))++(Sk++(SC'++SC)):=by simp
   rw [this];have:(SA++(T++(SA'++[]++SC'))++SC)=(SA++(T++SA'))++(SC'++SC):=by simp
   rw [this];exact (List.perm_append_comm_assoc _ _ _)
  have p2:=p1.nodup_iff.1 hnd;exact (List.nodup_append.1 p2).2.2 b hbk b hb rfl
 have hin:∀b∈Sk,b∈F g:=fun b hb=>by rw [e1];simp [hb]
 have r1:=h.setO (g:=g) hob ⟨hnd.sublist hsub,fun b hb=>hfr.2 b (hsub.subset hb)⟩ (fun g' hg' b hb hb'=>h.dj g' g hg' b hb' (by rw [e1];exact hsub.subset hb))
 have hob2:ORel B w (.loose (.sl size ty (cs.take (m*size))) (fun p=>hdr w p (.sl size ty (cs.take (m*size))) (jix v size 0 m))) S2:=⟨rfl,_,c1,fun _=>rfl⟩
 have r2:=r1.setO (g:=g2) hob2 ⟨c3 hSk,fun b hb=>(h.fr g).2 b (hin b (c2 b hb))⟩ (fun g' hg' b hb=>by
  split
  ·exact fun hh=>hmem b hh (c2 b hb)
  ·rename_i hgg
   exact fun hh=>h.dj g' g hgg b hh (hin b (c2 b hb)))
 exact ⟨_,_,_,r2,rfl,(a3 []).symm▸rfl,c4⟩
theorem jux {f:FuncId} {args:List AV} {R:AV→(Nat→Ob)→Prop} (h:Inl P f args o fun av o'=>∃g c k g2 m size ty tyo cs ds0 η,(av=.c (.hs g c [k] (η [k]) size 0 m)∨av=.c (.h g c [k] (η [k]))∧m*size=cs.length)∧(o' g).own c=some (.sl 1 tyo ds0,η)∧ds0[k]?=some (.sl size ty cs)∧o' g2=.none∧g2≠g∧0<size∧m*size≤cs.length∧
 ∀η2 η',η' []=η []→R (.c (.h g2 0 [] (η2 []))) (jzm o' g c g2 (.sl 1 tyo (ds0.set k (.val (η [k])))) η' (.sl size ty (cs.take (m*size))) η2)):Inl P f args o R:=
 ⟨h.1,fun B w F xs h1 h2=>(h.2 B w F xs h1 h2).mono fun e w' ⟨v,av,o',F',k1,k2,k3,g,c,k,g2,m,size,ty,tyo,cs,ds0,η,e1,e2,e3,e4,e5,e6,e7,e8⟩=>by
  obtain ⟨η2,η',F2,r1,r2,r3,r4⟩:=jwE k2 e2 e3 e4 e5 e6 e7;refine ⟨v,_,_,F2,k1,r1,?_,e8 η2 η' r3⟩;rcases e1 with rfl|⟨rfl,e1⟩
  ·obtain ⟨k4,k5⟩:=k3
   have k4:=k4.resolve_right fun h=>absurd h.1 (Nat.lt_irrefl 0)
   exact ⟨by rw [k4,r2],by rw [r2,←k4];exact k5⟩
  ·obtain ⟨k4,k5⟩:=k3
   exact ⟨by rw [k4,r2,r4 e1],by rw [r2,r4 e1];exact k5⟩⟩
variable {s:St} {K:St→Prop} {β:Nat} {gd:Option (Nat×Bool)} {d:Option Nat}
theorem is_hp (g c q:Nat) (p:List Nat) (x:Value) (dd:D):Is s (.h g c (q::p) x) dd=jiD ((s.o g).own c) fun d0 η=>D.get (q::p) d0=some dd∧η (q::p)=x∧dd.isSl=true:=by
 apply propext
 simp only [Is];cases (s.o g).own c with
 |none=>simp [jiD]
 |some z=>
  obtain ⟨d0,η⟩:=z;simp only [jiD,Option.some.injEq,Prod.mk.injEq];constructor
  ·rintro ⟨_,_,⟨rfl,rfl⟩,h1,h2,h3⟩;exact ⟨h2,h1,h3⟩
  ·rintro ⟨h1,h2,h3⟩;exact ⟨_,_,⟨rfl,rfl⟩,h2,h1,h3⟩
theorem jAU (g c b:Nat) (ds:List D):Ptr s (.bp g c b) ds=obK (s.o g) b fun _ cs=>Ptr.go s g b ((cs.drop c).take ds.length) c ds:=by
 rw [←jA9]
 apply propext
 simp only [Ptr];constructor
 ·rintro ⟨ty,cs,h1,_,rfl,h3⟩;exact ⟨ty,cs,h1,h3⟩
 ·rintro ⟨ty,cs,h1,h3⟩;exact ⟨ty,cs,h1,_,rfl,h3⟩
theorem go_nil_ (g b c:Nat):Ptr.go s g b [] c []=True:=by simp [Ptr.go]
theorem go_a_ (g b c:Nat) (x:A0) (l:List Cell) (e:D) (ds:List D):Ptr.go s g b (.a x::l) c (e::ds)=(IsP x e∧Ptr.go s g b l (c+1) ds):=(rfl)
theorem isP_v (x:Value):IsP (.v x) (.val x)=True:=eq_true (.inl rfl)
theorem jBk (e e':D):IsP (.ro e) e'=(e'=e):=(rfl)
theorem jsd (g c i:Nat) (p:List Nat) (η:js) (e:D) (l:List D):jgH g c p η i (e::l)=e.toOwn g c (p++[i]) η::jgH g c p η (i+1) l:=(rfl)
def mkfK (s:St) (K:St→Prop) (d:Option Nat) (f:Nat):AV→Prop
 |.c a=>K (s.put d (.fn f [a]))
 |_=>False
theorem jBe (f:Nat) (a:A0):mkfK s K d f (.c a)=K (s.put d (.fn f [a])):=(rfl)
theorem jyq (f:Nat) (x:X):vd P β ⟨d,gd,.mkf f [x]⟩ s K=mkfK s K d f (s.ev x):=by
 cases hx:s.ev x with
 |c a=>
  refine jxL (os:=[]) (av:=.fn f [a]) rfl fun rt st av' os'=>?_
  simp [Gen,jbS,hx]
 |_=>
  apply propext
  refine ⟨fun h=>?_,fun h=>h.elim⟩
  have h':∃rt,∀st,∃av os,Gen P s (β+d.getD 0) rt st (.mkf f [x]) av os∧K ((s.addO os).put d av):=h;obtain ⟨rt,h1⟩:=h';obtain ⟨av,os,⟨l,h2,_⟩,_⟩:=h1 ⟨0,fun _ _=>undef⟩
  simp [jbS,hx] at h2
def clrA (s:St) (K:St→Prop) (size:Nat) (zs:List D):AV→Prop
 |.c (.v (.slice none 0 0))=>K s
 |.c (.hs g c p hx sz lo n)=>sz=size∧0<n∧jiD ((s.o g).own c) fun d0 η=>η p=hx∧jqQ (D.get p d0) fun dd=>dd.isSl=true∧dd.size=sz∧lo+n≤dd.len∧
  stH (kb (List.replicate n zs).flatten&&kb ((dd.cells.drop (lo*sz)).take (n*sz))) p (lo*sz) (n*sz) η fun η'=>K (s.setO g ((s.o g).putOwn c (D.put p (lo*sz) (List.replicate n zs).flatten d0) η'))
 |_=>False
theorem jyy (size:Nat) (zs:List D) (x:X):vd P β ⟨none,gd,.clr size zs x⟩ s K=clrA s K size zs (s.ev x):=by
 apply propext
 show (none=none∧_)↔_;rw [eq_self,true_and];unfold clrA;split
 ·simp_all
 ·rename_i g c p hx sz lo n he
  simp only [he];cases ho:(s.o g).own c with
  |none=>simp [jiD]
  |some z=>
   obtain ⟨d0,η⟩:=z;simp only [jiD,Option.some.injEq,Prod.mk.injEq];constructor
   ·rintro ⟨a1,a2,_,_,dd,⟨rfl,rfl⟩,a3,a4,a5,a6,a7,a8⟩
    refine ⟨a1,a2,a3,?_⟩;rw [a4];exact ⟨a5,a6,a7,a8⟩
   ·rintro ⟨a1,a2,a3,a4⟩
    cases hg:D.get p d0 with
    |none=>rw [hg] at a4;exact a4.elim
    |some dd=>rw [hg] at a4;obtain ⟨a5,a6,a7,a8⟩:=a4;exact ⟨a1,a2,d0,η,dd,⟨rfl,rfl⟩,a3,hg,a5,a6,a7,a8⟩
 ·simp_all
theorem jzH (size:Nat) (zs:List D) (g c:Nat) (p:List Nat) (hx:Value) (sz lo n:Nat):clrA s K size zs (.c (.hs g c p hx sz lo n))=(sz=size∧0<n∧jiD ((s.o g).own c) fun d0 η=>η p=hx∧jqQ (D.get p d0) fun dd=>dd.isSl=true∧dd.size=sz∧lo+n≤dd.len∧
 stH (kb (List.replicate n zs).flatten&&kb ((dd.cells.drop (lo*sz)).take (n*sz))) p (lo*sz) (n*sz) η fun η'=>K (s.setO g ((s.o g).putOwn c (D.put p (lo*sz) (List.replicate n zs).flatten d0) η'))):=rfl
theorem jqY (x:En):(jk x).length=4:=rfl
theorem ko {sh:List (List En)} {k:Nat} {l:List En} (h:sh[k]?=some l):D.get [k] (ku sh)=some (jm l):=by
 have e:sh.flatMap (fun es=>[jm es])=sh.map jm:=by clear h;induction sh<;>simp_all
 simp [ku,D.get,e,h,jcA]
end
attribute [go_sem] jyq jBe jsd is_hp jAU go_nil_ go_a_ isP_v jBk jyy jzH
section
variable {P:Program} {s:St}
def jwa (s:St) (ds:List D) (d:D) (l:List A0):AV→Prop
 |.c a=>l.length=ds.length∧qA s (l++[a]) fun cs _=>IsD cs (ds++[d])
 |_=>False
def jyL (s:St) (k:Nat) (ds:List D) (d:D) (b:AV):AV→Prop
 |.c (.bp g c bb)=>ldB (s.o g) g c bb k fun l=>jwa s ds d l b
 |_=>False
theorem qh (n k m:Nat) (ds:List D) (d:D) (h:jyL s k ds d (s.t m) (s.t n)):jxi [.cell n true k,.t m] (.tup [(true,ds),(false,[d])]) s:=by
 unfold jyL at h;split at h
 ·rename_i g c bb he
  simp only [ldB] at h;split at h
  ·rename_i b ty cs ho
   obtain ⟨e1,e2,h⟩:=h;unfold jwa at h;split at h
   ·rename_i a ha
    obtain ⟨h1,h2⟩:=h;simp only [jxi,jhN,ha,he];refine ⟨_,⟨ty,cs,by rw [ho,e1],e2,rfl⟩,.inl trivial,?_⟩
    refine ⟨⟨by simp,by simp [h1]⟩,?_⟩
    simpa [RT.flat] using h2
   ·exact h.elim
  ·exact h.elim
 ·exact h.elim
theorem jAL (ds:List D) (d:D) (l:List A0) (a:A0):jwa s ds d l (.c a)=(l.length=ds.length∧qA s (l++[a]) fun cs _=>IsD cs (ds++[d])):=(rfl)
theorem jAK (k g c bb:Nat) (ds:List D) (d:D) (b:AV):jyL s k ds d b (.c (.bp g c bb))=ldB (s.o g) g c bb k fun l=>jwa s ds d l b:=(rfl)
end
attribute [go_sem] jAL jAK
theorem jo0 {l:List Rn} {k j:Nat} {r:Rn} (h:l[k]?=some r) (hj:j<8):(l.flatMap jd)[k*8+j]?=(jd r)[j]?:=by
 rw [ja8 (enc:=jd) h,List.getElem?_append_right (by rw [jiv (enc:=jd) (size:=8) (fun _=>rfl) h];omega),jiv (enc:=jd) (size:=8) (fun _=>rfl) h,Nat.add_sub_cancel_left,List.getElem?_append_left (by exact hj)]
theorem jag {l:List Rn} {k:Nat} {r:Rn} (h:l[k]?=some r):D.get [k*8+5] (jK l)=some (jy r.plan.edges):=by
 have:=jo0 (j:=5) h (by decide)
 simp [jK,D.get,this,jd,ja,jcA]
theorem jX {l:List Rn} {k:Nat} {r:Rn} (h:l[k]?=some r):D.get [k*8+7] (jK l)=some (jB r.tasks):=by
 have:=jo0 (j:=7) h (by decide)
 simp [jK,D.get,this,jd,ja,jcA]
theorem jZ {l:List Rn} {k:Nat} {r:Rn} (h:l[k]?=some r):D.get [k*8+1+1+1+1+1] (jK l)=some (jy r.plan.edges):=jag h
theorem ke {l:List Rn} {k:Nat} {r:Rn} (h:l[k]?=some r):D.get [k*8+1+1+1+1+1+1+1] (jK l)=some (jB r.tasks):=jX h
theorem jo7 {l:List Rn} {k:Nat} (v:Rn) (hk:k<l.length):D.put [] (k*8) [.val (.int .i64 v.id),.val (.int .i64 v.plan.prio),.val (.int .i64 v.plan.most),.val (.int .i64 v.plan.wait),.val (.int .i64 v.plan.tasks),jy v.plan.edges,.val (.int .i64 v.state),jB v.tasks] (jK l)=jK (l.set k v):=jrT v hk
theorem qP {y:Yd} {id:Int} (h:¬runAt y id<0):∃(k:Nat) (r:Rn),runAt y id=k∧y.runs[k]?=some r∧r.id=id∧y.runs.length≤8:=by
 unfold runAt at h⊢;split at h
 ·omega
 ·rename_i h8
  rw [if_neg h8];rcases ji8 y.runs id with ⟨k,x,h1,h2,_,h4⟩|⟨_,h2⟩
  ·exact ⟨k,x,h4,h1,h2,by omega⟩
  ·rw [h2] at h;omega
theorem jhl {l:List Rn} {k:Nat} {x:Rn} (hx:l[k]?=some x):((l.flatMap jd).drop (k*8)).take 8=jd x:=qw (enc:=jd) (size:=8) (fun _=>rfl) hx (j:=0) (n:=8) (by decide)
theorem jcy {l:List Rn} {k:Nat} {x:Rn} (hx:l[k]?=some x):k*8+8≤(l.flatMap jd).length:=qu (enc:=jd) (size:=8) (fun _=>rfl) hx (j:=0) (n:=8) (by decide)
def jkq (p:Pl) (t:Nat):Tk:=⟨if 0<(zt p t).length then 1 else 2,((zt p t).length:Int),0,0⟩
def vN (p:Pl) (k:Nat):List Tk:=(List.range k).map (jkq p)
def jY (id:Int) (p:Pl):Rn:=⟨id,p,1,vN p p.tasks.toNat⟩
theorem jue (p:Pl):vN p 0=[]:=rfl
theorem jud (p:Pl) (k:Nat):vN p (k+1)=vN p k++[jkq p k]:=by simp [vN,List.range_succ]
theorem jcw (p:Pl) (k:Nat):(vN p k).length=k:=by simp [vN]
theorem je2 (l:List Tk) (a b c d:Int):D.sl 4 tTk (l.flatMap jo++[.val (.int .i64 a),.val (.int .i64 b),.val (.int .i64 c),.val (.int .i64 d)])=jB (l++[⟨a,b,c,d⟩]):=by simp [jB,jo]
def jfZ:C:=iS [iA 3 (.box 49 5 (.t 1)),iA 4 (.alloc 52 [.int .i64 0,.int .i64 0,.int .i64 0,.int .i64 0,.int .i64 0,.slice none 0 0,.int .i64 0,.slice none 0 0]),iA 5 (iO false)] (.seq (iS [iA 9 (iM 0),iA 10 (.call 68 [.t 9,.c (.int .i64 1),.c (.int .i64 9999)]),iA 11 (iU 10),iA 12 (iM 11),iB 13 12 false (iT 5 3),iB 14 12 false (.call 112 [.t 13]),iB 15 12 false (iQ .neq 3 14 0),iA 16 (.pick (.t 12) (.c (.bool true)) (.t 15))] (iD 16 (iS [iA 17 (.bld [.int .i64 0,.int .i64 0,.int .i64 0,.int .i64 0,.int .i64 0,.slice none 0 0,.int .i64 0,.slice none 0 0] []),iC (.st 8 [none,none,none,none,none,some (2,161),none,some (4,46)] (.t 4) (.t 17)),iA 5 (iO false)] .ret) .skip)) (iS [iA 18 (iM 0),iA 19 (iT 5 3),iA 20 (.call 168 [.t 19]),iA 21 (.bld [.int .i64 0,.int .i64 0,.int .i64 0,.int .i64 0,.int .i64 0,.slice none 0 0,.int .i64 0,.slice none 0 0] [(0,1,.t 18),(1,5,.t 20),(6,1,.c (.int .i64 1))]),iA 6 (.alloc 52 [.int .i64 0,.int .i64 0,.int .i64 0,.int .i64 0,.int .i64 0,.slice none 0 0,.int .i64 0,.slice none 0 0]),iC (.st 8 [none,none,none,none,none,some (2,161),none,some (4,46)] (.t 6) (.t 21))] (.seq (iS [iA 7 (iN 0)] (.blk 0 (.loop (.seq (iS [iA 22 (iM 7),iA 23 (iF 3 3),iA 24 (iL 23),iA 25 (iP .lss 3 22 24)] (iD 25 .skip (.exit 0))) (.seq (.blk 1 (iS [iA 28 (iT 5 3),iA 29 (iM 7),iA 30 (.call 169 [.t 28,.t 29]),iA 31 (iG 30),iA 32 (.bld [.int .i64 0,.int .i64 0,.int .i64 0,.int .i64 0] [(0,1,.c (.int .i64 2)),(1,1,.t 31)]),iA 8 (.alloc 46 [.int .i64 0,.int .i64 0,.int .i64 0,.int .i64 0]),iC (.st 4 [none,none,none,none] (.t 8) (.t 32))] (.seq (iS [iA 33 (iF 1 8),iA 34 (iL 33),iA 35 (iQ .gtr 3 34 0)] (iD 35 (.reg [iA 36 (iF 0 8),iC (.st 1 [none] (.t 36) (.c (.int .i64 1)))]) .skip)) (.reg [iA 37 (iF 7 6),iA 38 (iL 37),iA 39 (iT 4 8),iA 40 (.bsl 46 4 1 [none,none,none,none] [(0,4,.t 39)]),iA 41 (.app 46 4 32 (.t 38) (.t 40)),iA 42 (iF 7 6),iC (.st 1 [some (4,46)] (.t 42) (.t 41))])))) (.reg [iA 26 (iM 7),iA 27 (iQ .add 3 26 1),iA 7 (iM 27)])))))) (iS [iA 43 (iT 8 6),iC (.st 8 [none,none,none,none,none,some (2,161),none,some (4,46)] (.t 4) (.t 43)),iA 5 (iO true)] .ret))))
theorem jh3:fnC Tryz.prog Tryz.f114=some (jfZ,[.cell 4 true 8,.t 5],44):=by kernel_rfl
def jge:C:=iS [iA 3 (.box 49 5 (.t 1)),iA 4 (.alloc 52 [.int .i64 0,.int .i64 0,.int .i64 0,.int .i64 0,.int .i64 0,.slice none 0 0,.int .i64 0,.slice none 0 0]),iA 5 (iO false)] (.seq (iS [iA 9 (iM 0),iA 10 (.call 62 [.t 9,.c (.int .i64 1),.c (.int .i64 9999)]),iA 11 (iU 10),iA 12 (iM 11),iB 13 12 false (iT 5 3),iB 14 12 false (.call 109 [.t 13]),iB 15 12 false (iQ .neq 3 14 0),iA 16 (.pick (.t 12) (.c (.bool true)) (.t 15))] (iD 16 (iS [iA 17 (.bld [.int .i64 0,.int .i64 0,.int .i64 0,.int .i64 0,.int .i64 0,.slice none 0 0,.int .i64 0,.slice none 0 0] []),iC (.st 8 [none,none,none,none,none,some (2,161),none,some (4,46)] (.t 4) (.t 17)),iA 5 (iO false)] .ret) .skip)) (iS [iA 18 (iM 0),iA 19 (iT 5 3),iA 20 (.call 163 [.t 19]),iA 21 (.bld [.int .i64 0,.int .i64 0,.int .i64 0,.int .i64 0,.int .i64 0,.slice none 0 0,.int .i64 0,.slice none 0 0] [(0,1,.t 18),(1,5,.t 20),(6,1,.c (.int .i64 1))]),iA 6 (.alloc 52 [.int .i64 0,.int .i64 0,.int .i64 0,.int .i64 0,.int .i64 0,.slice none 0 0,.int .i64 0,.slice none 0 0]),iC (.st 8 [none,none,none,none,none,some (2,161),none,some (4,46)] (.t 6) (.t 21))] (.seq (iS [iA 7 (iN 0)] (.blk 0 (.loop (.seq (iS [iA 22 (iM 7),iA 23 (iF 3 3),iA 24 (iL 23),iA 25 (iP .lss 3 22 24)] (iD 25 .skip (.exit 0))) (.seq (.blk 1 (iS [iA 28 (iT 5 3),iA 29 (iM 7),iA 30 (.call 164 [.t 28,.t 29]),iA 31 (iG 30),iA 32 (.bld [.int .i64 0,.int .i64 0,.int .i64 0,.int .i64 0] [(0,1,.c (.int .i64 1)),(1,1,.t 31)]),iA 8 (.alloc 46 [.int .i64 0,.int .i64 0,.int .i64 0,.int .i64 0]),iC (.st 4 [none,none,none,none] (.t 8) (.t 32))] (.seq (iS [iA 33 (iF 1 8),iA 34 (iL 33),iA 35 (iQ .eql 3 34 0)] (iD 35 (.reg [iA 36 (iF 0 8),iC (.st 1 [none] (.t 36) (.c (.int .i64 2)))]) .skip)) (.reg [iA 37 (iF 7 6),iA 38 (iL 37),iA 39 (iT 4 8),iA 40 (.bsl 46 4 1 [none,none,none,none] [(0,4,.t 39)]),iA 41 (.app 46 4 32 (.t 38) (.t 40)),iA 42 (iF 7 6),iC (.st 1 [some (4,46)] (.t 42) (.t 41))])))) (.reg [iA 26 (iM 7),iA 27 (iQ .add 3 26 1),iA 7 (iM 27)])))))) (iS [iA 43 (iT 8 6),iC (.st 8 [none,none,none,none,none,some (2,161),none,some (4,46)] (.t 4) (.t 43)),iA 5 (iO true)] .ret))))
theorem jii:fnC Tryz.prog Tryz.f110=some (jge,[.cell 4 true 8,.t 5],44):=by kernel_rfl
theorem jlT (id:Int) (p:Pl) (hid:1≤id∧id≤9999) (hp:jw p=0):kj Tryz.prog 114 [.c (.val (.int .i64 id)),.agg (ja p)] (.tup [(true,jd (jY id p)),(false,[.val (.bool true)])]):=by
 refine jq Tryz.func114 jh3 (by simp) ?_
 unfold jfZ;obtain ⟨n,hn,hn1,h12,h30,hes,hnd,-⟩:=jcb hp;have hi:decide (1≤id∧id≤9999)=true:=decide_eq_true hid;have hp0:(jw p !=0)=false:=by simp [hp]
 simp only [go_sem,ja];intro b3 b4;refine jc (jL id 1 9999) (by simp only [go_sem,ja]) fun η=>?_
 simp only [go_sem,ja];simp only [go_sem,ja,hi];refine jc (vD p) (by simp only [go_sem,ja]) fun η=>?_
 simp only [go_sem,ja];simp only [go_sem,ja,hp0];refine jc (jdJ p (by omega)) (by simp only [go_sem,ja]) fun ηc=>?_
 simp only [go_sem,ja];intro b6;refine jn (fun i:Nat×js=>St.of [(3,Bx 300 b3),(4,Bx 400 b4),(6,Bx 600 b6),(7,Ni i.1)] [(300,Bi b3 _ (ja p)),(400,ZRn b4 tRn),(600,jaz b6 tRn ⟨id,p,1,vN p i.1⟩ (ηc 4) i.2)]) (fun i=>i.1≤n) (fun i=>n-i.1) (0,jcc) (by (try dsimp only);first|omega|(simp;done)|(and_intros<;>first|omega|simp)) (jg [some 300,some 400,some 600] (by simp only [go_sem,ja,jd,jue]<;>and_intros<;>first|rfl|assumption|trivial)) ?_
 rintro ⟨k,η⟩ hk;dsimp only at hk;by_cases hlt:k<n
 ·have hlt':(k:Int)<p.tasks:=by omega
  have hw:IntKind.i64.wrap ((k:Int)+1)=((k+1:Nat):Int):=jf (by omega) (by omega)
  have hnx:=jud p k;have hnl:=jcw p k;generalize vN p k=M at*;have m1:M.length+1≤maxLen:=by unfold maxLen;omega
  have m2:(M.length+1)*32≤140737488355328:=by omega
  simp only [go_sem,ja,hlt'];refine jc (jbN p k n hn h12 h30) (by simp only [go_sem,ja]) fun η=>?_
  simp only [go_sem,ja];generalize hL:(zt p k).length=L at*;intro b8;by_cases h0:0<L
  ·have h0':(0:Int)<(L:Int):=by omega
   have hT:jkq p k=⟨1,(L:Int),0,0⟩:=by simp [jkq,hL,h0]
   rw [hT] at hnx;simp only [go_sem,ja,jo,jd,h0',m1,m2,je2,hw];intro η40 η41;exact ⟨(k+1,η41),by (try dsimp only);first|omega|assumption|(and_intros<;>first|omega|assumption),(jg [some 300,some 400,some 600] (by simp only [go_sem,ja,jd,hnx]<;>and_intros<;>first|rfl|assumption|trivial)),by (try dsimp only);omega⟩
  ·have h0':¬(0:Int)<(L:Int):=by omega
   have hT:jkq p k=⟨2,(L:Int),0,0⟩:=by simp [jkq,hL,h0]
   rw [hT] at hnx;simp only [go_sem,ja,jo,jd,h0',m1,m2,je2,hw];intro η40 η41;exact ⟨(k+1,η41),by (try dsimp only);first|omega|assumption|(and_intros<;>first|omega|assumption),(jg [some 300,some 400,some 600] (by simp only [go_sem,ja,jd,hnx]<;>and_intros<;>first|rfl|assumption|trivial)),by (try dsimp only);omega⟩
 have hlt':¬(k:Int)<p.tasks:=by omega
 obtain rfl:k=n:=by omega
 have hr:jY id p=⟨id,p,1,vN p k⟩:=by rw [jY,hn,Int.toNat_natCast]
 rw [hr];generalize vN p k=M at*;simp only [go_sem,ja,jd,hlt'];refine qh _ _ _ _ _ ?_;simp only [go_sem,ja,jd]
theorem jl4 (id:Int) (p:Pl) (hid:1≤id∧id≤9999) (hp:jw p=0):kj Tryz.prog 110 [.c (.val (.int .i64 id)),.agg (ja p)] (.tup [(true,jd (jY id p)),(false,[.val (.bool true)])]):=by
 refine jq Tryz.func110 jii (by simp) ?_
 unfold jge;obtain ⟨n,hn,hn1,h12,h30,hes,hnd,-⟩:=jcb hp;have hi:decide (1≤id∧id≤9999)=true:=decide_eq_true hid;have hp0:(jw p !=0)=false:=by simp [hp]
 simp only [go_sem,ja];intro b3 b4;refine jc (jE id 1 9999) (by simp only [go_sem,ja]) fun η=>?_
 simp only [go_sem,ja];simp only [go_sem,ja,hi];refine jc (qg p (by omega)) (by simp only [go_sem,ja]) fun η=>?_
 simp only [go_sem,ja];simp only [go_sem,ja,hp0];refine jc (jcs p (by omega)) (by simp only [go_sem,ja]) fun ηc=>?_
 simp only [go_sem,ja];intro b6;refine jn (fun i:Nat×js=>St.of [(3,Bx 300 b3),(4,Bx 400 b4),(6,Bx 600 b6),(7,Ni i.1)] [(300,Bi b3 _ (ja p)),(400,ZRn b4 tRn),(600,jaz b6 tRn ⟨id,p,1,vN p i.1⟩ (ηc 4) i.2)]) (fun i=>i.1≤n) (fun i=>n-i.1) (0,jcc) (by (try dsimp only);first|omega|(simp;done)|(and_intros<;>first|omega|simp)) (jg [some 300,some 400,some 600] (by simp only [go_sem,ja,jd,jue]<;>and_intros<;>first|rfl|assumption|trivial)) ?_
 rintro ⟨k,η⟩ hk;dsimp only at hk;by_cases hlt:k<n
 ·have hlt':(k:Int)<p.tasks:=by omega
  have hw:IntKind.i64.wrap ((k:Int)+1)=((k+1:Nat):Int):=jf (by omega) (by omega)
  have hnx:=jud p k;have hnl:=jcw p k;generalize vN p k=M at*;have m1:M.length+1≤maxLen:=by unfold maxLen;omega
  have m2:(M.length+1)*32≤140737488355328:=by omega
  simp only [go_sem,ja,hlt'];refine jc (jct p k hp) (by simp only [go_sem,ja]) fun η=>?_
  simp only [go_sem,ja];generalize hL:(zt p k).length=L at*;intro b8;cases h0:((L:Int)==0)
  ·have h0':0<L:=by have:¬(L:Int)=0:=by simpa using h0
                    omega
   have hT:jkq p k=⟨1,(L:Int),0,0⟩:=by simp [jkq,hL,h0']
   rw [hT] at hnx;simp only [go_sem,ja,jo,jd,h0,m1,m2,je2,hw];intro η40 η41;exact ⟨(k+1,η41),by (try dsimp only);first|omega|assumption|(and_intros<;>first|omega|assumption),(jg [some 300,some 400,some 600] (by simp only [go_sem,ja,jd,hnx]<;>and_intros<;>first|rfl|assumption|trivial)),by (try dsimp only);omega⟩
  ·have h0':¬0<L:=by have:(L:Int)=0:=by simpa using h0
                     omega
   have hT:jkq p k=⟨2,(L:Int),0,0⟩:=by simp [jkq,hL,h0']
   rw [hT] at hnx;simp only [go_sem,ja,jo,jd,h0,m1,m2,je2,hw];intro η40 η41;exact ⟨(k+1,η41),by (try dsimp only);first|omega|assumption|(and_intros<;>first|omega|assumption),(jg [some 300,some 400,some 600] (by simp only [go_sem,ja,jd,hnx]<;>and_intros<;>first|rfl|assumption|trivial)),by (try dsimp only);omega⟩
 have hlt':¬(k:Int)<p.tasks:=by omega
 obtain rfl:k=n:=by omega
 have hr:jY id p=⟨id,p,1,vN p k⟩:=by rw [jY,hn,Int.toNat_natCast]
 rw [hr];generalize vN p k=M at*;simp only [go_sem,ja,jd,hlt'];refine qh _ _ _ _ _ ?_;simp only [go_sem,ja,jd]
open Go.RowKit Go.Sort Go.Lib
theorem jc9 {P:Program} (w:World) (dT sT ty elem:TypeId) (k b o dLen dCap:Nat) (a:Addr) (sLen sCap:Nat) (cs:List Value)
 (hu:P.underlying dT=some (.slice elem)) (hs:(P.info? elem).map (·.size)=some k) (hn:cs.length=Nat.min sLen dLen*k)
 (hsrc:∀j v,cs[j]?=some v→w.cell? (a.add j)=some v) (hc:∀j,j<cs.length→(w.cell? ⟨b,o+j,none⟩).isSome=true) (hf:∀j,j<cs.length→w.frozen? ⟨b,o+j,none⟩=false) (h1:∀v∈cs,v.oneCell'=true):
 (Builtin.copy_ #[dT,sT] ty #[.slice (some ⟨b,o,none⟩) dLen dCap,.slice (some a) sLen sCap]).run P w=.ok (goInt (Nat.min sLen dLen)) (w.setCells b o cs):=by
 have hl:=run_loadCells_list (P:=P) w a cs hsrc;have hst:=run_storeCells_cells (P:=P) b o cs 0 w (by simpa using hc) (by simpa using hf) h1
 cases hq:P.info? elem with
 |none=>simp [hq] at hs
 |some i=>
  have hi:i.size=k:=by simpa [hq] using hs
  simp [Builtin.copy_,run_underlying hu,Builtin.lenOf,Builtin.firstCells,sizeOf,typeInfo,hq,hi,←hn,hl,hst]
abbrev jzr:FuncId:=176
abbrev tEs:TypeId:=35
set_option maxRecDepth 100000 in
theorem jut (b n c i vb vc:Nat) (cs vs:List Value) (w:World) (hi:i<n) (hroom:n+1≤c) (hc63:c≤9223372036854775807) (hvb:vb≠b)
 (hcl:cs.length=n*4) (hvl:vs.length=4)
 (hcs:∀j v,cs[j]?=some v→w.cell? ⟨b,j,none⟩=some v) (hsp:∀j,j<(n+1)*4→(w.cell? ⟨b,j,none⟩).isSome=true) (hfz:∀j,j<(n+1)*4→w.frozen? ⟨b,j,none⟩=false)
 (hvs:∀j v,vs[j]?=some v→w.cell? ⟨vb,j,none⟩=some v) (h1c:∀v∈cs,v.oneCell'=true) (h1v:∀v∈vs,v.oneCell'=true)
 (tA tB:TypeId) (kA kB:Nat) (hsa:w.shape? vb=some (tA,kA)) (hsb:w.shape? b=some (tB,kB)) (hkB:kB≠0) (hfa:w.frozen? ⟨vb,0,none⟩=false) (hfe:w.frozen? ⟨vb,kA,none⟩=false):
 Calls Tryz.prog jzr #[.slice (some ⟨b,0,none⟩) n c,.int .i64 i,.slice (some ⟨vb,0,none⟩) 1 vc] w fun e w'=>
  e=.returned (.slice (some ⟨b,0,none⟩) (n+1) c)∧w'=(w.drew.setCells b ((i+1)*4) (cs.drop (i*4))).setCells b (i*4) vs:=by
 have hz1:¬((1:Int)=0):=by omega
 have hz2:¬((i:Int)=(n:Int)):=by omega
 have hov:∀lb cb,(callFunc 196 #[.slice (some ⟨vb,0,none⟩) 1 vc,.slice (some ⟨b,(i+1)*4,none⟩) lb cb]).run Tryz.prog w=.ok (.value (.bool false)) w:=fun lb cb=>by
  rw [run_callFunc_extern Tryz.func196 (by kernel_rfl) (by kernel_rfl) (by kernel_rfl) (e:=Extern.SlicesOverlaps.overlaps #[tEs,tEs] #[4]) (by kernel_rfl),
   Lib.run_overlaps_apart w tEs 4 tEn slEn.1 4 Tryz.sizeOf44 ⟨vb,0,none⟩ ⟨b,(i+1)*4,none⟩ 1 vc lb cb hvb tA tB kA kB hsa hsb hkB hfa hfe]
  rfl
 have hu:Tryz.prog.underlying tEs=some (.slice tEn):=slEn.1;have mixed:Tryz.prog.follows .mixedOrders=true:=by kernel_rfl
 have t105:=Tryz.underlying35;have a105:=Tryz.isAgg35;have z105:=Tryz.sizeOf35;have u3:=Tryz.underlying3;have a3:=Tryz.isAgg3;have z3:=Tryz.sizeOf3;have u4:=Tryz.underlying4;have z107:=Tryz.sizeOf44;have hdl:(cs.drop (i*4)).length=(n-i)*4:=by rw [List.length_drop,hcl];omega
 have hw1:IntKind.i64.wrap ((i:Int)+1)=(i:Int)+1:=by rw [IntKind.wrap_i64];omega
 have hwn:IntKind.i64.wrap ((n:Int)+1)=(n:Int)+1:=by rw [IntKind.wrap_i64];omega
 have hb1:(0:Int)≤(i:Int)+1:=by omega
 have hb0:(0:Int)≤(n:Int)+1:=by omega
 have hin:i≤n:=by omega
 have htn:((i:Int)+1).toNat=i+1:=by omega
 have htn2:((n:Int)+1).toNat=n+1:=by omega
 have hb2:¬(c=i+1):=by omega
 have hb3:(i:Int)≤(n:Int)+1:=by omega
 have hb4:¬(c=i):=by omega
 have hgt:¬((n:Int)+1>(c:Int)):=by omega
 have hcp1:∀ty dc sc,(Builtin.copy_ #[tEs,tEs] ty #[.slice (some ⟨b,(i+1)*4,none⟩) (n-i) dc,.slice (some ⟨b,i*4,none⟩) (n+1-i) sc]).run Tryz.prog w.drew=.ok (goInt (Nat.min (n+1-i) (n-i))) (w.drew.setCells b ((i+1)*4) (cs.drop (i*4))):=fun ty dc sc=>
  jc9 w.drew _ _ ty tEn 4 b ((i+1)*4) (n-i) dc ⟨b,i*4,none⟩ (n+1-i) sc (cs.drop (i*4)) hu jB8 (by rw [hdl];congr 1;simp only [Nat.min_def];split<;>omega)
   (fun j v hj=>by rw [Addr.add_lit];exact hcs (i*4+j) v (by rwa [List.getElem?_drop] at hj))
   (fun j hj=>hsp _ (by omega)) (fun j hj=>hfz _ (by omega)) (fun v hv=>h1c v (List.mem_of_mem_drop hv))
 obtain ⟨W1,hW1⟩:∃W1,W1=w.drew.setCells b ((i+1)*4) (cs.drop (i*4)):=⟨_,rfl⟩
 have hsp1:∀k,k<(n+1)*4→(W1.cell? ⟨b,k,none⟩).isSome=true:=fun k hk=>by
  rw [hW1];exact isSome_setCells b (cs.drop (i*4)) ((i+1)*4) w.drew (fun j hj=>hsp _ (by omega)) k (hsp k hk)
 have hcp2:∀(W:World),(∀x,W.cell? x=W1.cell? x)→(∀x,W.frozen? x=W1.frozen? x)→∀ty dc,(Builtin.copy_ #[tEs,tEs] ty #[.slice (some ⟨b,i*4,none⟩) (n+1-i) dc,.slice (some ⟨vb,0,none⟩) 1 vc]).run Tryz.prog W=.ok (goInt (Nat.min 1 (n+1-i))) (W.setCells b (i*4) vs):=fun W hWc hWf ty dc=>
  jc9 W _ _ ty tEn 4 b (i*4) (n+1-i) dc ⟨vb,0,none⟩ 1 vc vs hu jB8 (by rw [hvl];simp only [Nat.min_def];split<;>omega)
   (fun j v hj=>by
    rw [Addr.add_lit,Nat.zero_add,hWc,hW1,World.cell?_setCells_out b _ _ _ _ (fun h _=>absurd h hvb)]
    exact hvs j v hj)
   (fun j hj=>by rw [hWc];exact hsp1 _ (by omega)) (fun j hj=>by rw [hWf,hW1,World.frozen?_setCells];exact hfz _ (by omega)) h1v
 rw [←hW1] at hcp1
 go_enter Tryz.func176,Tryz.ntmps176
 go_wp2_with (simp only [hov])
 go_region_law_o (refine step_copy_runI rfl _ _ tEs tEs rfl _ _ (by simp [Act.eval,Act.put]) (by simp [Act.eval,Act.put]) (hcp1 _ _ _) ?_)
 go_wp2_with (at_builtin;refine wpList_copy_runI _ rfl _ _ tEs tEs rfl _ _ rfl rfl (hcp2 _ (fun _=>rfl) (fun _=>rfl) _ _) ?_)
 go_ret
 first|exact ⟨rfl,rfl⟩|exact ⟨rfl,by rw [hW1]⟩
set_option maxRecDepth 100000 in
theorem jwA (b n c i vb vc:Nat) (cs vs:List Value) (w:World) (hi:i<n) (hnc:n≤c) (hroom:c<n+1) (hbig:(n+1)*32≤140737488355328)
 (hcl:cs.length=n*4) (hvl:vs.length=4)
 (hcs:∀j v,cs[j]?=some v→w.cell? ⟨b,j,none⟩=some v) (hvs:∀j v,vs[j]?=some v→w.cell? ⟨vb,j,none⟩=some v) (h1c:∀v∈cs,v.oneCell'=true) (h1v:∀v∈vs,v.oneCell'=true):
 Calls Tryz.prog jzr #[.slice (some ⟨b,0,none⟩) n c,.int .i64 i,.slice (some ⟨vb,0,none⟩) 1 vc] w fun e w'=>∃(G:Nat) (ROW:Array Value),n+1≤G∧G≤maxLen∧ROW.size=G*4∧(∀j,j<i*4→ROW[j]?=cs[j]?)∧
  e=.returned (.slice (some ⟨w.heap.size,0,none⟩) (n+1) G)∧
  w'=(((w.alloc (.cells ROW tEn)).drew.setCells w.heap.size (i*4) vs).drew).setCells w.heap.size ((i+1)*4) (cs.drop (i*4)):=by
 have hu:Tryz.prog.underlying tEs=some (.slice tEn):=slEn.1;have mixed:Tryz.prog.follows .mixedOrders=true:=by kernel_rfl
 have t105:=Tryz.underlying35;have a105:=Tryz.isAgg35;have z105:=Tryz.sizeOf35;have u3:=Tryz.underlying3;have a3:=Tryz.isAgg3;have z3:=Tryz.sizeOf3;have u4:=Tryz.underlying4;have z107:=Tryz.sizeOf44;obtain ⟨i0,zv,hi0,hz0,hzc,hzs,hzb⟩:=slEn.info;have hz1:¬((1:Int)=0):=by omega
 have hz2:¬((i:Int)=(n:Int)):=by omega
 have hz3:(c:Int)<(n:Int)+1:=by omega
 have hbw:b<w.heap.size:=block_lt_of_cell (hcs 0 _ (List.getElem?_eq_getElem (by omega)))
 have hvw:vb<w.heap.size:=block_lt_of_cell (hvs 0 _ (List.getElem?_eq_getElem (by omega)))
 have hkk:(n:Int)+1-(i:Int)=((n+1-i:Nat):Int):=by omega
 have hik:i+(n+1-i)=n+1:=by omega
 have hold:(Builtin.firstCells i0.size i (.slice (some ⟨b,0,none⟩) i c)).run Tryz.prog w.drew=.ok (cs.take (i*4)).toArray w.drew:=by
  rw [hzs]
  exact run_firstCells_some (w:=w.drew) 4 i ⟨b,0,none⟩ i c (cs.take (i*4)) (by rw [List.length_take];omega) (fun j v hj=>by
   rw [Addr.add_lit,Nat.zero_add];rw [List.getElem?_take] at hj;split at hj
   ·exact hcs j v hj
   ·cases hj)
 have hrz:∀ty,(Builtin.append_ #[tEs,3] ty #[.slice (some ⟨b,0,none⟩) i c,.int .i64 ((n:Int)+1-(i:Int))]).run Tryz.prog w=
  .ok (.slice (some ⟨w.heap.size,0,none⟩) (n+1) (grownCap w (n+1) c tEn)) (w.drew.alloc (.cells ((cs.take (i*4)).toArray++Builtin.zeroCells zv.cells (n+1-i)++Builtin.zeroCells zv.cells (grownCap w (n+1) c tEn-(n+1))) tEn)):=fun ty=>by
  have h:=Lib.run_append_grow_zeros w tEs 3 ty tEn i0 _ .i64 .i64 hu u3 hi0 hz0 (some ⟨b,0,none⟩) i c (cs.take (i*4)) hold (n+1-i) (by omega) (by omega) (by omega) (by omega) (by rw [hzb];omega) (by rw [hzb,hik];exact growslice_fits hroom hbig)
  rw [hik] at h;rw [hkk];exact h
 obtain ⟨G,hG⟩:∃G,G=grownCap w (n+1) c tEn:=⟨_,rfl⟩;obtain ⟨ROW,hROW⟩:∃ROW:Array Value,ROW=(cs.take (i*4)).toArray++Builtin.zeroCells zv.cells (n+1-i)++Builtin.zeroCells zv.cells (G-(n+1)):=⟨_,rfl⟩;rw [←hG] at hrz;rw [←hROW] at hrz;have hzl:zv.cells.size=4:=by rw [hzc];rfl
 have hGn:n+1≤G:=by rw [hG];exact grownCap_ge w _ _ _
 have hGm:G≤maxLen:=by rw [hG];exact grownCap_le_maxLen w (n+1) c tEn (by unfold maxLen;omega)
 have hRs:ROW.size=G*4:=by
  rw [hROW];simp [Builtin.zeroCells,hzl];omega
 have hRt:∀j,j<i*4→ROW[j]?=cs[j]?:=fun j hj=>by
  rw [hROW,Array.append_assoc,Array.getElem?_append_left (by simp;omega)]
  simp [List.getElem?_take,hj]
 have hRl:(n+1)*4≤ROW.size:=by rw [hRs];omega
 obtain ⟨W1,hW1⟩:∃W1,W1=w.drew.alloc (.cells ROW tEn):=⟨_,rfl⟩;rw [←hW1] at hrz
 have hN:∀j,j<(n+1)*4→(W1.cell? ⟨w.heap.size,j,none⟩).isSome=true:=fun j hj=>by
  rw [hW1,World.cell?_alloc_at (w:=w.drew) ROW _ w.heap.size j rfl,Array.getElem?_eq_getElem (by omega)];rfl
 have hNf:∀j,W1.frozen? ⟨w.heap.size,j,none⟩=false:=fun j=>by rw [hW1];exact World.frozen?_alloc_at (w:=w.drew) ROW _ w.heap.size j rfl
 have hOb:∀j v,w.cell? ⟨b,j,none⟩=some v→W1.cell? ⟨b,j,none⟩=some v:=fun j v h=>by rw [hW1,World.cell?_alloc_past (w:=w.drew) _ b j hbw];exact h
 have hOv:∀j v,w.cell? ⟨vb,j,none⟩=some v→W1.cell? ⟨vb,j,none⟩=some v:=fun j v h=>by rw [hW1,World.cell?_alloc_past (w:=w.drew) _ vb j hvw];exact h
 have hcpA:∀(W:World),(∀x,W.cell? x=W1.cell? x)→(∀x,W.frozen? x=W1.frozen? x)→∀ty dc,(Builtin.copy_ #[tEs,tEs] ty #[.slice (some ⟨w.heap.size,i*4,none⟩) (n+1-i) dc,.slice (some ⟨vb,0,none⟩) 1 vc]).run Tryz.prog W=.ok (goInt (Nat.min 1 (n+1-i))) (W.setCells w.heap.size (i*4) vs):=fun W hWc hWf ty dc=>
  jc9 W _ _ ty tEn 4 w.heap.size (i*4) (n+1-i) dc ⟨vb,0,none⟩ 1 vc vs hu jB8 (by rw [hvl];simp only [Nat.min_def];split<;>omega)
   (fun j v hj=>by rw [Addr.add_lit,Nat.zero_add,hWc];exact hOv _ v (hvs j v hj))
   (fun j hj=>by rw [hWc];exact hN _ (by omega)) (fun j hj=>by rw [hWf];exact hNf _) h1v
 have hG63:G≤9223372036854775807:=by
  unfold maxLen at hGm;omega
 have hGi:¬(G=i):=by omega
 have hGim:¬(G=i+1):=by omega
 have hci:¬(c=i):=by omega
 have hbN:b≠w.heap.size:=by omega
 have hdl:(cs.drop (i*4)).length=(n-i)*4:=by rw [List.length_drop,hcl];omega
 have hcpB:∀(W:World),(∀x,W.cell? x=(W1.setCells w.heap.size (i*4) vs).cell? x)→(∀x,W.frozen? x=(W1.setCells w.heap.size (i*4) vs).frozen? x)→∀ty dc sc,(Builtin.copy_ #[tEs,tEs] ty #[.slice (some ⟨w.heap.size,(i+1)*4,none⟩) (n-i) dc,.slice (some ⟨b,i*4,none⟩) (n-i) sc]).run Tryz.prog W=.ok (goInt (Nat.min (n-i) (n-i))) (W.setCells w.heap.size ((i+1)*4) (cs.drop (i*4))):=fun W hWc hWf ty dc sc=>
  jc9 W _ _ ty tEn 4 w.heap.size ((i+1)*4) (n-i) dc ⟨b,i*4,none⟩ (n-i) sc (cs.drop (i*4)) hu jB8 (by rw [hdl];congr 1;simp only [Nat.min_def];split<;>omega)
   (fun j v hj=>by
    rw [Addr.add_lit,hWc,World.cell?_setCells_out _ _ _ _ _ (fun h _=>absurd h hbN)]
    exact hOb _ v (hcs (i*4+j) v (by rwa [List.getElem?_drop] at hj)))
   (fun j hj=>by rw [hWc];exact isSome_setCells w.heap.size vs (i*4) W1 (fun t ht=>hN _ (by omega)) _ (hN _ (by omega)))
   (fun j hj=>by rw [hWf,World.frozen?_setCells];exact hNf _) (fun v hv=>h1c v (List.mem_of_mem_drop hv))
 subst hW1;have hE1:∀x,((w.alloc (.cells ROW tEn)).drew).cell? x=(w.drew.alloc (.cells ROW tEn)).cell? x:=fun x=>rfl
 have hE2:∀x,((w.alloc (.cells ROW tEn)).drew).frozen? x=(w.drew.alloc (.cells ROW tEn)).frozen? x:=fun x=>rfl
 have hF1:∀x,(((w.alloc (.cells ROW tEn)).drew.setCells w.heap.size (i*4) vs).drew).cell? x=((w.drew.alloc (.cells ROW tEn)).setCells w.heap.size (i*4) vs).cell? x:=fun x=>rfl
 have hF2:∀x,(((w.alloc (.cells ROW tEn)).drew.setCells w.heap.size (i*4) vs).drew).frozen? x=((w.drew.alloc (.cells ROW tEn)).setCells w.heap.size (i*4) vs).frozen? x:=fun x=>rfl
 have hw1:IntKind.i64.wrap ((i:Int)+1)=(i:Int)+1:=by rw [IntKind.wrap_i64];omega
 have hwn:IntKind.i64.wrap ((n:Int)+1)=(n:Int)+1:=by rw [IntKind.wrap_i64];omega
 have hwk:IntKind.i64.wrap ((n:Int)+1-(i:Int))=(n:Int)+1-(i:Int):=by rw [IntKind.wrap_i64];omega
 have hb1:(0:Int)≤(i:Int)+1:=by omega
 have hin:i≤n:=by omega
 have htn:((i:Int)+1).toNat=i+1:=by omega
 have hb3:(i:Int)≤(n:Int):=by omega
 clear hkk hik hold hROW hG hRl
 go_enter Tryz.func176,Tryz.ntmps176
 go_wp2_with (first
  |(at_builtin;refine Lib.wpList_append_run _ rfl _ _ _ _ rfl _ _ rfl rfl _ _ (hrz _) ?_)
  |(at_builtin;refine wpList_copy_runI _ rfl _ _ tEs tEs rfl _ _ rfl rfl (hcpA _ hE1 hE2 _ _) ?_)
  |(at_builtin;refine wpList_copy_runI _ rfl _ _ tEs tEs rfl _ _ rfl rfl (hcpB _ (fun _=>rfl) (fun _=>rfl) _ _ _) ?_))
 go_region_law_o (refine step_copy_runI rfl _ _ tEs tEs rfl (.slice (some ⟨w.heap.size,(i+1)*4,none⟩) (n-i) (G-(i+1))) (.slice (some ⟨b,i*4,none⟩) (n-i) (c-i)) (by simp [Act.eval,Act.put]) (by simp [Act.eval,Act.put]) (hcpB _ hF1 hF2 3 (G-(i+1)) (c-i)) ?_)
 go_wp2
 go_ret
 exact ⟨G,ROW,hGn,hGm,hRs,hRt,rfl,rfl⟩
set_option maxRecDepth 100000 in
theorem jzh (A:Option Addr) (n c vb vc:Nat) (w:World) (v':Value) (w':World) (hnc:n≤c) (hc63:c≤9223372036854775807) (hA:A=none→c=0) (hA2:∀a,A=some a→∃b,a=⟨b,0,none⟩)
 (hrun:(Builtin.append_ #[tEs,tEs] tEs #[.slice A n c,.slice (some ⟨vb,0,none⟩) 1 vc]).run Tryz.prog w=.ok v' w'):
 Calls Tryz.prog jzr #[.slice A n c,.int .i64 n,.slice (some ⟨vb,0,none⟩) 1 vc] w fun e w1=>e=.returned v'∧w1=w':=by
 have mixed:Tryz.prog.follows .mixedOrders=true:=by kernel_rfl
 have t105:=Tryz.underlying35;have a105:=Tryz.isAgg35;have z105:=Tryz.sizeOf35;have u3:=Tryz.underlying3;have a3:=Tryz.isAgg3;have z3:=Tryz.sizeOf3;have u4:=Tryz.underlying4;have z107:=Tryz.sizeOf44;have hz1:¬((1:Int)=0):=by omega
 go_enter Tryz.func176,Tryz.ntmps176
 cases A with
 |none=>
  have h0:=hA rfl;subst h0;obtain rfl:n=0:=by omega
  go_wp2_with (at_builtin;refine Lib.wpList_append_run _ rfl _ _ _ _ rfl _ _ rfl rfl _ _ hrun ?_)
  go_ret
  exact ⟨rfl,rfl⟩
 |some a=>
  obtain ⟨b,rfl⟩:=hA2 a rfl
  go_wp2_with (at_builtin;refine Lib.wpList_append_run _ rfl _ _ _ _ rfl _ _ rfl rfl _ _ hrun ?_)
  all_goals (go_ret;exact ⟨rfl,rfl⟩)
def jk8 (l:List En) (i:Nat) (e:En):List En:=l.take i++e::l.drop i
def jM (l:List En):List Value:=l.flatMap fun e=>[.int .i64 e.prio,.int .i64 e.seq,.int .i64 e.run,.int .i64 e.task]
theorem zk (l:List En):(jM l).length=l.length*4:=by
 induction l with
 |nil=>rfl
 |cons a l ih=>simp only [jM,List.flatMap_cons,List.length_append] at ih⊢;simp [ih];omega
theorem jlv {w:World} {own:Bool}:∀{l:List En} {vs:List Value} {S:List Nat},RepL w own (l.flatMap jk) vs S→vs=jM l∧S=[]
 |[],_,_,h=>by obtain ⟨rfl,rfl⟩:=h;exact ⟨rfl,rfl⟩
 |e::l,vs,S,h=>by
  rw [List.flatMap_cons] at h;obtain ⟨v1,v2,S1,S2,rfl,rfl,h1,h2⟩:=RepL.append_inv _ h;obtain ⟨rfl,rfl⟩:=jfx h1;obtain ⟨rfl,rfl⟩:=jlv h2;exact ⟨rfl,rfl⟩
theorem joR (w:World) (own:Bool):∀(l:List En),RepL w own (l.flatMap jk) (jM l) []
 |[]=>⟨rfl,rfl⟩
 |e::l=>by
  have:=RepL.append_ _ (jwT w own e) (joR w own l);simpa [jM] using this
theorem ja3 (l:List En):∀v∈jM l,v.oneCell'=true:=by
 intro v hv;obtain ⟨e,_,h⟩:=List.mem_flatMap.1 hv;simp at h;rcases h with rfl|rfl|rfl|rfl<;>rfl
theorem joS (l:List En) (i:Nat) (hi:i≤l.length):(jM l).take (i*4)=jM (l.take i)∧(jM l).drop (i*4)=jM (l.drop i):=by
 have e1:jM l=jM (l.take i)++jM (l.drop i):=by rw [jM,jM,jM,←List.flatMap_append,List.take_append_drop]
 have h1:(jM (l.take i)).length=i*4:=by rw [zk,List.length_take,Nat.min_eq_left hi]
 rw [e1];exact ⟨List.take_left' h1,List.drop_left' h1⟩
theorem jrq (l:List En) (i:Nat) (e:En):jM (jk8 l i e)=jM (l.take i)++(jM [e]++jM (l.drop i)):=by
 simp [jk8,jM]
theorem jlH {w:World} {b:Nat} {cur:Array Value} {ty:TypeId} (h:w.heap[b]?=some (.cells cur ty (0,0))):w.shape? b=some (ty,cur.size)∧∀j,w.frozen? ⟨b,j,none⟩=false:=by
 refine ⟨by simp [World.shape?,h],fun j=>by simp [World.frozen?,h]⟩
theorem jmG {w:World} {b:Nat} {cur:Array Value} {ty:TypeId} (h:w.heap[b]?=some (.cells cur ty (0,0))) (j:Nat):w.cell? ⟨b,j,none⟩=cur[j]?:=by simp [World.cell?,h]
theorem jlB {α:Type} {us cs:List α} {k:Nat} (h:us.take k=cs) {j:Nat} {v:α} (hj:cs[j]?=some v):us[j]?=some v:=by
 rw [←h,List.getElem?_take] at hj;split at hj
 ·exact hj
 ·cases hj
theorem jxu {w:World} {b n cap:Nat} {us:List Value} {l:List En} (hb:w.heap[b]?=some (.cells us.toArray tEn (0,0))) (hn:n=l.length) (hc:n≤cap) (hm:cap≤maxLen) (hs:us.length=cap*4) (ht:us.take (n*4)=jM l):Rep w true (jm l) (.slice (some ⟨b,0,none⟩) n cap) [b]:=by
 subst hn;exact ⟨jM l,[b],[],⟨l.length,⟨zk l,.inr ⟨b,cap,us.toArray,rfl,Nat.zero_le _,hb,hc,hm,by simpa using hs,by simpa using ht⟩⟩,rfl⟩,joR _ _ _,by simp⟩
theorem jzg (l:List En) (i:Nat) (e:En) (hi:i≤l.length) (hl:l.length≤4000000) {B:Nat} {w:World} {x x2:Value} {S1 S2:List Nat} (r1:Rep w true (jm l) x S1) (r2:Rep w true (jm [e]) x2 S2) (hF:Fresh B (S1++S2)) (hB:B≤w.heap.size):
 Calls Tryz.prog jzr #[x,.int .i64 i,x2] w fun en w'=>∃v S,en=.returned v∧Rep w' true (jm (jk8 l i e)) v S∧Fresh B S∧Only S1 w w'∧∀s∈S,s∈S1∨w.heap.size≤s:=by
 have r1':=r1;obtain ⟨vs1,T1,o1,h1,rfl⟩:=Rep.own (enc:=jk) jqY (by decide) r1
 obtain ⟨rfl,rfl⟩:=jlv h1;obtain ⟨vs2,T2,o2,h2,rfl⟩:=Rep.own (enc:=jk) jqY (by decide) r2
 obtain ⟨rfl,rfl⟩:=jlv h2;rcases o2.2 with ⟨_,hz⟩|⟨vb,vc,cv,rfl,_,hbv,hv1,hv2,hv3,hv4⟩
 ·simp at hz
 simp only [List.length_cons,List.length_nil,Nat.zero_add] at hv4⊢hv1
 have hvs:∀j v,(jM [e])[j]?=some v→w.cell? ⟨vb,j,none⟩=some v:=fun j v hj=>by
  rw [jmG hbv,←Array.getElem?_toList];exact jlB hv4 hj
 rcases Nat.lt_or_ge i l.length with hlt|hge
 ·rcases o1.2 with ⟨_,hz⟩|⟨b,c,cu,rfl,_,hbc,hc1,hc2,hc3,hc4⟩
  ·omega
  have hcs:∀j v,(jM l)[j]?=some v→w.cell? ⟨b,j,none⟩=some v:=fun j v hj=>by
   rw [jmG hbc,←Array.getElem?_toList];exact jlB hc4 hj
  have hbB:B≤b:=hF.2 b (by simp [blk])
  have hne:vb≠b:=fun h=>by subst h;have:=hF.1;simp [blk] at this
  obtain ⟨t1,t2⟩:=joS l i hi;have hfin:=jrq l i e;have hlen:(jk8 l i e).length=l.length+1:=by simp [jk8];omega
  have hl4:=zk l;have hd4:(jM (l.drop i)).length=(l.length-i)*4:=by rw [zk,List.length_drop]
  have ht4:(jM (l.take i)).length=i*4:=by rw [zk,List.length_take,Nat.min_eq_left hi]
  have he4:(jM [e]).length=4:=rfl;by_cases hroom:l.length+1≤c
  ·obtain ⟨sv1,sv2⟩:=jlH hbv
   obtain ⟨sb1,sb2⟩:=jlH hbc;have hcul:cu.toList.length=c*4:=by simpa using hc3
   refine (jut b l.length c i vb vc (jM l) (jM [e]) w hlt hroom (by unfold maxLen at hc2;omega) hne (zk l) rfl hcs (fun j hj=>by rw [jmG hbc,Array.getElem?_eq_getElem (by omega)];rfl) (fun j _=>sb2 j) hvs (ja3 l) (ja3 [e]) _ _ _ _ sv1 sb1 (by omega) (sv2 0) (sv2 _)).mono ?_
   rintro en w' ⟨rfl,rfl⟩;have hcu:w.drew.heap[b]?=some (.cells cu.toList.toArray tEn (0,0)):=by rw [Array.toArray_toList];exact hbc
   obtain ⟨q1,q2⟩:=qo ((jM l).drop (i*4)) w.drew b ((i+1)*4) cu.toList tEn hcu;obtain ⟨q3,q4⟩:=qo (jM [e]) _ b (i*4) _ tEn q1;have s1:=kH ((jM l).drop (i*4)) w.drew b ((i+1)*4);have s2:=kH (jM [e]) (w.drew.setCells b ((i+1)*4) ((jM l).drop (i*4))) b (i*4);refine ⟨_,[b],rfl,jxu q3 hlen.symm hroom hc2 ?_ ?_,Fresh.one _ _ hbB,⟨by rw [s2.1,s1.1];rfl,by rw [s2.2.1,s1.2.1];rfl,by rw [s2.2.2.1,s1.2.2.1];rfl,by rw [s2.2.2.2,s1.2.2.2];exact Nat.le_refl _,fun k hk hkn=>?_⟩,fun s hs=>.inl (by simpa [blk] using hs)⟩
   ·rw [t2,kU _ _ _ (by rw [kU _ _ _ (by omega)];simp only [List.length_append,List.length_take,List.length_drop];omega),kU _ _ _ (by omega)]
    simp only [List.length_append,List.length_take,List.length_drop];omega
   ·rw [t2,kU (jM (l.drop i)) cu.toList _ (by omega)]
    have p1:cu.toList.take ((i+1)*4)=cu.toList.take (i*4)++(cu.toList.drop (i*4)).take 4:=by
     rw [show (i+1)*4=i*4+4 by omega,List.take_add]
    have p2:cu.toList.take (i*4)=jM (l.take i):=by
     rw [←t1,←hc4,List.take_take,Nat.min_eq_left (by omega)]
    have p3:((cu.toList.drop (i*4)).take 4).length=4:=by rw [List.length_take,List.length_drop];omega
    rw [p1,p2];generalize (cu.toList.drop (i*4)).take 4=X at p3;generalize cu.toList.drop ((i+1)*4+(jM (l.drop i)).length)=Y
    have hX0:kD X 0 (jM [e])=jM [e]:=by
     rw [kU _ _ _ (by omega),List.take_zero,List.nil_append,List.drop_eq_nil_of_le (by omega),List.append_nil]
    have hA:jM (l.take i)++X++jM (l.drop i)++Y=jM (l.take i)++(X++(jM (l.drop i)++Y)):=by simp only [List.append_assoc]
    rw [hA,jm6 (j:=0) (by omega) (by omega),hX0,hfin]
    have hB2:jM (l.take i)++(jM [e]++(jM (l.drop i)++Y))=(jM (l.take i)++(jM [e]++jM (l.drop i)))++Y:=by simp only [List.append_assoc]
    rw [hB2];exact List.take_left' (by simp only [List.length_append];omega)
   ·rw [q4 k (by simpa [blk] using hkn),q2 k (by simpa [blk] using hkn)];rfl
  ·refine (jwA b l.length c i vb vc (jM l) (jM [e]) w hlt hc1 (by omega) (by omega) (zk l) rfl hcs hvs (ja3 l) (ja3 [e])).mono ?_
   rintro en w' ⟨G,ROW,g1,g2,g3,g4,rfl,rfl⟩;have hrl:ROW.toList.length=G*4:=by simpa using g3
   have hnew:((w.alloc (.cells ROW tEn)).drew).heap[w.heap.size]?=some (.cells ROW.toList.toArray tEn (0,0)):=by
    rw [Array.toArray_toList];exact heap_alloc_new w (.cells ROW tEn)
   obtain ⟨q1,q2⟩:=qo (jM [e]) ((w.alloc (.cells ROW tEn)).drew) w.heap.size (i*4) ROW.toList tEn hnew;obtain ⟨q3,q4⟩:=qo ((jM l).drop (i*4)) (((w.alloc (.cells ROW tEn)).drew.setCells w.heap.size (i*4) (jM [e])).drew) w.heap.size ((i+1)*4) _ tEn q1;have s1:=kH (jM [e]) ((w.alloc (.cells ROW tEn)).drew) w.heap.size (i*4);have s2:=kH ((jM l).drop (i*4)) (((w.alloc (.cells ROW tEn)).drew.setCells w.heap.size (i*4) (jM [e])).drew) w.heap.size ((i+1)*4);have hal:Below w.heap.size w (w.alloc (.cells ROW tEn)):=(Below.refl _ _).alloc (by simp) _
   refine ⟨_,[w.heap.size],rfl,jxu q3 hlen.symm g1 g2 ?_ ?_,Fresh.one _ _ hB,⟨by rw [s2.1];exact s1.1.trans hal.os,by rw [s2.2.1];exact s1.2.1.trans hal.tape,by rw [s2.2.2.1];exact s1.2.2.1.trans hal.output,?_,fun k hk hkn=>?_⟩,fun s hs=>.inr (by simp at hs;omega)⟩
   ·rw [t2,kU _ _ _ (by rw [kU _ _ _ (by omega)];simp only [List.length_append,List.length_take,List.length_drop];omega),kU _ _ _ (by omega)]
    simp only [List.length_append,List.length_take,List.length_drop];omega
   ·rw [t2,kU (jM [e]) ROW.toList _ (by omega)]
    have p2:ROW.toList.take (i*4)=jM (l.take i):=by
     rw [←t1]
     apply List.ext_getElem?
     intro j;rw [List.getElem?_take,List.getElem?_take];split
     ·rename_i hj;rw [Array.getElem?_toList];exact g4 j hj
     ·rfl
    rw [p2];generalize hY:ROW.toList.drop (i*4+(jM [e]).length)=Y;have hYl:Y.length=G*4-(i*4+4):=by rw [←hY,List.length_drop,hrl,he4]
    have hA:(jM (l.take i)++jM [e]++Y).take ((i+1)*4)=jM (l.take i)++jM [e]:=List.take_left' (by rw [List.length_append,ht4,he4];omega)
    rw [kU _ _ _ (by simp only [List.length_append];omega),hA,hfin,←List.append_assoc (jM (l.take i)) (jM [e])]
    exact List.take_left' (by simp only [List.length_append];omega)
   ·have h5:=hal.size
    have h6:(w.alloc (.cells ROW tEn)).drew.heap.size=(w.alloc (.cells ROW tEn)).heap.size:=rfl;rw [s2.2.2.2];show _≤((w.alloc (.cells ROW tEn)).drew.setCells w.heap.size (i*4) (jM [e])).heap.size;rw [s1.2.2.2,h6];exact h5
   ·rw [q4 k (by omega)]
    show ((w.alloc (.cells ROW tEn)).drew.setCells w.heap.size (i*4) (jM [e])).heap[k]?=_;rw [q2 k (by omega)]
    exact hal.block k hk
 ·obtain rfl:i=l.length:=by omega
  obtain ⟨i0,zv,hi0,hz0,hzc,hzs,hzb⟩:=slEn.info;have hzo:vp Tryz.prog tEn=some [.int .i64 0,.int .i64 0,.int .i64 0,.int .i64 0]:=by kernel_rfl
  have hrep:Rep w true (.sl i0.size tEn (l.flatMap jk)) x (blk x++[]):=by rw [hzs];exact r1'
  obtain ⟨v',w',S',k1,k2,k3,k4,k5⟩:=jlr (P:=Tryz.prog) (B:=B) (ty:=tEs) (t:=tEs) (ys:=[e].flatMap jk) (c:=vc) (m:=1) slEn.1 hi0 hzo (by omega) hrep (joR w true [e]) (by rw [hzs];rfl) (A:=some ⟨vb,0,none⟩) (fun h=>by cases h) (fun ad had j u hj=>by
   cases had;rw [Addr.add_lit,Nat.zero_add];exact hvs j u hj) (ja3 [e]) (by simpa using hF.left) hB (by rw [hzs,jH jqY,jH jqY];simp [maxLen];omega) (by rw [hzs,hzb,jH jqY,jH jqY];simp;omega)
  have hend:jk8 l l.length e=l++[e]:=by simp [jk8]
  rw [hzs,←List.flatMap_append] at k2
  have key:∀(A:Option Addr) (n c:Nat),x=.slice A n c→n=l.length→n≤c→c≤maxLen→(A=none→c=0)→(∀a,A=some a→∃b,a=⟨b,0,none⟩)→Calls Tryz.prog jzr #[x,.int .i64 l.length,.slice (some ⟨vb,0,none⟩) 1 vc] w fun e w1=>e=.returned v'∧w1=w':=fun A n c hx hn hnc hcm hA hA2=>by
   subst hx;subst hn;exact jzh A l.length c vb vc w v' w' hnc (by unfold maxLen at hcm;omega) hA hA2 k1
  have hC:Calls Tryz.prog jzr #[x,.int .i64 l.length,.slice (some ⟨vb,0,none⟩) 1 vc] w fun e w1=>e=.returned v'∧w1=w':=by
   rcases o1.2 with ⟨rfl,h0⟩|⟨b,c,cu,rfl,_,hbc,hc1,hc2,hc3,hc4⟩
   ·exact key none 0 0 rfl h0.symm (Nat.le_refl _) (Nat.zero_le _) (fun _=>rfl) (fun a h=>by cases h)
   ·exact key _ _ c rfl rfl hc1 hc2 (fun h=>by cases h) (fun a h=>by cases h;exact ⟨_,rfl⟩)
  refine hC.mono ?_;rintro en w1 ⟨rfl,rfl⟩;refine ⟨v',S',rfl,by rw [hend];exact k2,k3,k4,fun s hs=>?_⟩
  rcases k5 s hs with h|h|h
  ·exact .inl h
  ·simp at h
  ·exact .inr h
theorem jiw (l:List En) (i:Nat) (e:En) (hi:i≤l.length) (hl:l.length≤4000000) {o:Nat→Ob} {g g2:Nat} {η η2:js} (ho:o g=.loose (jm l) η) (ho2:o g2=.loose (jm [e]) η2) (hne:g2≠g):
 Turns Tryz.prog jzr [.c (.h g 0 [] (η [])),.c (.v (.int .i64 i)),.c (.h g2 0 [] (η2 []))] o (fun rt o'=>rt=.c (jm (jk8 l i e))∧o'=fun k=>if k=g2 then .none else if k=g then .none else o k):=
 ⟨⟨_,Tryz.func176,by kernel_rfl,by kernel_rfl⟩,fun B w F xs hR hxs=>by
   obtain ⟨x,xs1,rfl,⟨rfl,_⟩,_,xs2,rfl,rfl,x2,xs3,rfl,⟨rfl,_⟩,rfl⟩:=hxs;have h1:=hR.ob g;have h2:=hR.ob g2;simp only at h1 h2;rw [ho] at h1;rw [ho2] at h2;obtain ⟨_,u1,r1,e1⟩:=h1;obtain ⟨_,u2,r2,e2⟩:=h2;have q1:η []=u1:=e1 [];have q2:η2 []=u2:=e2 [];rw [q1,q2];have hB:B≤w.heap.size:=Nat.le_trans hR.hB hR.below.size;have hF1:=hR.fr g;have hF2:=hR.fr g2;have hlt:∀k,∀b∈F k,b<w.heap.size:=fun k b hb=>(hR.ob k).lt b hb
   have hF:Fresh B (F g++F g2):=⟨List.nodup_append.2 ⟨hF1.1,hF2.1,fun a ha b hb hab=>hR.dj g g2 (Ne.symm hne) a ha (hab▸hb)⟩,fun b hb=>by
    rcases List.mem_append.1 hb with hb|hb
    ·exact hF1.2 b hb
    ·exact hF2.2 b hb⟩
   refine (jzg l i e hi hl r1 r2 hF hB).mono ?_;rintro en w' ⟨v,S,rfl,hrep,hfr,honly,hS⟩;have t1:=(hR.setO (g:=g) (ob:=.none) (S:=[]) rfl (Fresh.nil _) (by simp)).setO (g:=g2) (ob:=.none) (S:=[]) rfl (Fresh.nil _) (by simp)
   have t2:=t1.world' (honly.below (fun s hs=>hF1.2 s hs) hB) fun k b hb=>by
    split at hb
    ·simp at hb
    ·split at hb
     ·simp at hb
     ·rename_i hk
      exact honly.block b (hlt k b hb) fun h=>hR.dj k g hk b hb h
   refine ⟨v,.c (jm (jk8 l i e)),_,S,_,rfl,t2,hrep,hfr,fun k b hb=>?_,rfl,rfl⟩
   split
   ·simp
   ·split
    ·simp
    ·rename_i hk
     intro hb';rcases hS b hb with h|h
     ·exact hR.dj k g hk b hb' h
     ·have:=hlt k b hb';omega⟩
section
variable {P:Program} {f:FuncId}
theorem jAR {v1 v2 v3 v4:View} {u:Value} (hn:joL P f) (h:∀w a b c d,ViewRel w v1 a→ViewRel w v2 b→ViewRel w v3 c→ViewRel w v4 d→Calls P f #[a,b,c,d] w fun e w'=>e=.returned u∧Below w.heap.size w w'):kj P f [v1,v2,v3,v4] (.c (.val u)):=by
 refine ⟨hn,fun w xs hv=>?_⟩
 obtain ⟨a,_,rfl,h1,b,_,rfl,h2,c,_,rfl,h3,d,_,rfl,h4,h5⟩:=hv;rw [show _=_ from h5]
 exact (h w a b c d h1 h2 h3 h4).mono fun e w' ⟨he,hb⟩=>⟨u,[],he,⟨rfl,rfl⟩,Fresh.nil _,hb⟩
end
theorem jnv (y:Yd) (id task tri:Int):kj Tryz.prog 200 [.agg (jb y),.c (.val (.int .i64 id)),.c (.val (.int .i64 task)),.c (.val (.int .i64 tri))] (.c (.val (.bool (qK y id task tri)))):=
 jAR ⟨_,Tryz.func200,by kernel_rfl,by kernel_rfl⟩ fun w a b c d ⟨S,ha⟩ hb hc hd=>by rw [jaH hb,jaH hc,jaH hd];exact jv0 y id task tri a S w false ha
theorem zH (y:Yd) (id task tri:Int):kj Tryz.prog 53 [.agg (jb y),.c (.val (.int .i64 id)),.c (.val (.int .i64 task)),.c (.val (.int .i64 tri))] (.c (.val (.bool (qK y id task tri)))):=
 jAR ⟨_,Tryz.func53,by kernel_rfl,by kernel_rfl⟩ fun w a b c d ⟨S,ha⟩ hb hc hd=>by rw [jaH hb,jaH hc,jaH hd];exact jwD y id task tri a S w false ha
open Classical in
noncomputable def jaV (y:Yd) (id task tri:Int):Int:=if jD y=false then 8 else if runAt y id<0 then 10 else if qK y id task tri=false then 11 else 0
def jfU:C:=iS [iA 4 (.box 27 4 (.t 0)),iA 8 (iN 0)] (.seq (.blk 0 (iS [iA 10 (iT 4 4),iA 11 (.call 66 [.t 10]),iA 12 (iU 11),iA 9 (iM 12)] (iD 9 (iS [iA 8 (iN 8)] .ret) (iS [iA 14 (iT 4 4),iA 15 (iM 1),iA 16 (.call 26 [.t 14,.t 15]),iA 17 (iQ .lss 3 16 0),iA 13 (iM 17)] (iD 13 (iS [iA 8 (iN 10)] .ret) (iS [iA 19 (iT 4 4),iA 20 (iM 1),iA 21 (iM 2),iA 22 (iM 3),iA 23 (.call 200 [.t 19,.t 20,.t 21,.t 22]),iA 24 (iU 23),iA 18 (iM 24)] (iD 18 (iS [iA 8 (iN 11)] .ret) .skip))))))) (iS [iA 8 (iN 0)] .ret))
theorem jhY:fnC Tryz.prog Tryz.f189=some (jfU,[.t 8],25):=by kernel_rfl
def jjU:C:=iS [iA 4 (.box 27 4 (.t 0)),iA 8 (iN 0)] (.seq (.blk 0 (iS [iA 10 (iT 4 4),iA 11 (.call 18 [.t 10]),iA 12 (iU 11),iA 9 (iM 12)] (iD 9 (iS [iA 8 (iN 8)] .ret) (iS [iA 14 (iT 4 4),iA 15 (iM 1),iA 16 (.call 25 [.t 14,.t 15]),iA 17 (iQ .lss 3 16 0),iA 13 (iM 17)] (iD 13 (iS [iA 8 (iN 10)] .ret) (iS [iA 19 (iT 4 4),iA 20 (iM 1),iA 21 (iM 2),iA 22 (iM 3),iA 23 (.call 53 [.t 19,.t 20,.t 21,.t 22]),iA 24 (iU 23),iA 18 (iM 24)] (iD 18 (iS [iA 8 (iN 11)] .ret) .skip))))))) (iS [iA 8 (iN 0)] .ret))
theorem jkw:fnC Tryz.prog Tryz.f122=some (jjU,[.t 8],25):=by kernel_rfl
theorem jfc (y:Yd) (id task tri:Int) (ht:jJ y≤2000000):kj Tryz.prog 189 [.agg (jb y),.c (.val (.int .i64 id)),.c (.val (.int .i64 task)),.c (.val (.int .i64 tri))] (.c (.val (.int .i64 (jaV y id task tri)))):=by
 refine jq Tryz.func189 jhY (by simp) ?_
 unfold jfU;simp only [go_sem,jb];intro b4;refine jc (qi y ht) (by simp only [go_sem,jb]) fun η=>?_
 simp only [go_sem,jb];cases hok:jD y
 ·have hc:jaV y id task tri=8:=by simp [jaV,hok]
  simp only [go_sem,jb,hok,hc]
 simp only [go_sem,jb,hok];refine jc (qj y id) (by simp only [go_sem,jb]) fun η=>?_
 simp only [go_sem,jb];by_cases hneg:runAt y id<0
 ·have hc:jaV y id task tri=10:=by simp [jaV,hok,hneg]
  simp only [go_sem,jb,hneg,hc]
 simp only [go_sem,jb,hneg];refine jc (jnv y id task tri) (by simp only [go_sem,jb]) fun η=>?_
 simp only [go_sem,jb];cases hh:qK y id task tri
 ·have hc:jaV y id task tri=11:=by simp [jaV,hok,hneg,hh]
  simp only [go_sem,jb,hh,hc]
 ·have hc:jaV y id task tri=0:=by simp [jaV,hok,hneg,hh]
  simp only [go_sem,jb,hh,hc]
theorem jjh (y:Yd) (id task tri:Int) (ht:jJ y≤2000000):kj Tryz.prog 122 [.agg (jb y),.c (.val (.int .i64 id)),.c (.val (.int .i64 task)),.c (.val (.int .i64 tri))] (.c (.val (.int .i64 (jaV y id task tri)))):=by
 refine jq Tryz.func122 jkw (by simp) ?_
 unfold jjU;simp only [go_sem,jb];intro b4;refine jc (kI y ht) (by simp only [go_sem,jb]) fun η=>?_
 simp only [go_sem,jb];cases hok:jD y
 ·have hc:jaV y id task tri=8:=by simp [jaV,hok]
  simp only [go_sem,jb,hok,hc]
 simp only [go_sem,jb,hok];refine jc (ql y id) (by simp only [go_sem,jb]) fun η=>?_
 simp only [go_sem,jb];by_cases hneg:runAt y id<0
 ·have hc:jaV y id task tri=10:=by simp [jaV,hok,hneg]
  simp only [go_sem,jb,hneg,hc]
 simp only [go_sem,jb,hneg];refine jc (zH y id task tri) (by simp only [go_sem,jb]) fun η=>?_
 simp only [go_sem,jb];cases hh:qK y id task tri
 ·have hc:jaV y id task tri=11:=by simp [jaV,hok,hneg,hh]
  simp only [go_sem,jb,hh,hc]
 ·have hc:jaV y id task tri=0:=by simp [jaV,hok,hneg,hh]
  simp only [go_sem,jb,hh,hc]
theorem joG {y:Yd} {id task tri:Int} (h:jaV y id task tri=0):YardOkP y∧¬runAt y id<0:=by
 unfold jaV at h;split at h
 ·cases h
 split at h
 ·cases h
 rename_i h1 h2;exact ⟨yard_iff.1 (by simpa using h1),h2⟩
end Go.Proofs.YtcehjhiglmifjaaGreat
