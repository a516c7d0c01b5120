/- Parts. -/
import Derived.Test.YtmnpailnelmpiaaGreatQYardB
set_option linter.unusedSimpArgs false
set_option linter.unusedVariables false
set_option maxHeartbeats 8000000
set_option maxRecDepth 100000
namespace Go.Proofs.YtmnpailnelmpiaaGreat
open Go.RowKit Go.Sort
section
variable {P:Program} {B:Nat} {w w0:World} {F:Nat→List Nat} {o:Nat→Ob}
theorem ju4 {size:Nat} {ty:TypeId} {cs:List D} {v:Value} {S:List Nat} {m:Nat} (hs:0<size) (h:Rep w true (.sl size ty cs) v S) (hm:m*size≤cs.length):∃S',Rep w true (.sl size ty (cs.take (m*size))) (jie v size 0 m) S'∧(∀b∈S',b∈S)∧(S.Nodup→S'.Nodup)∧(m*size=cs.length→jie v size 0 m=v):=by
 obtain ⟨vs,T,S2,⟨n,⟨h1,h2⟩,rfl⟩,h4,rfl⟩:=h;have hvl:=RepL.length _ h4;have e:cs=cs.take (m*size)++cs.drop (m*size):=(List.take_append_drop _ _).symm;rw [e] at h4;obtain ⟨v1,v2,Sa,Sb,rfl,rfl,h5,h6⟩:=RepL.append_inv _ h4;have hv1:=RepL.length _ h5;rw [List.length_take,Nat.min_eq_left hm] at hv1
 have key:blk (jie v size 0 m)=blk v∧w.ownsRow 0 ty size (jie v size 0 m) m v1∧(m*size=cs.length→jie v size 0 m=v):=by
  rcases h2 with ⟨rfl,rfl⟩|⟨g,cap,cur,rfl,a1,a2,a3,a4,a5,a6⟩
  ·have hm0:m=0:=by
    rcases Nat.eq_zero_or_pos m with h|h
    ·exact h
    ·have:=Nat.mul_pos h hs
     rw [Nat.zero_mul] at h1;omega
   subst hm0;have:v1=[]:=List.eq_nil_of_length_eq_zero (by omega)
   subst this;exact ⟨rfl,⟨by simp,.inl ⟨rfl,rfl⟩⟩,fun _=>rfl⟩
  ·have hmn:m*size≤n*size:=by rw [←h1,hvl];exact hm
   have hmn':m≤n:=Nat.le_of_mul_le_mul_right hmn hs
   have hsub:jie (.slice (some ⟨g,0,none⟩) n cap) size 0 m=.slice (some ⟨g,0,none⟩) m cap:=by
    simp only [jie];split<;>simp [Addr.add_lit]
   rw [hsub];refine ⟨rfl,⟨hv1,.inr ⟨g,cap,cur,rfl,a1,a2,by omega,a4,a5,?_⟩⟩,fun he=>?_⟩
   ·have:=congrArg (List.take (m*size)) a6
    rw [List.take_take,Nat.min_eq_left hmn,←hv1,List.take_left] at this;exact hv1▸this
   ·have:m=n:=Nat.eq_of_mul_eq_mul_right hs (by rw [he,←h1,hvl])
    rw [this]
 refine ⟨blk (jie v size 0 m)++Sa,⟨v1,_,Sa,⟨m,key.2.1,rfl⟩,h5,rfl⟩,?_,?_,key.2.2⟩
 ·rw [key.1];intro b hb
  rcases List.mem_append.1 hb with hb|hb<;>simp [hb]
 ·rw [key.1];intro hn
  have:(blk v++Sa++Sb).Nodup:=by simpa using hn
  exact (List.nodup_append.1 this).1
def jyD (o:Nat→Ob) (g c g2:Nat) (d:D) (η':jq) (d2:D) (η2:jq):Nat→Ob:=fun j=>if j=g2 then .loose d2 η2 else if j=g then (o g).putOwn c d η' else o j
theorem jv0 (h:RelF B w0 0 (.only o) Act.bare w F) {g c k g2 m size ty tyo:Nat} {cs ds0:List D} {η:jq} (ho:(o g).own c=some (.sl 1 tyo ds0,η)) (hk:ds0[k]?=some (.sl size ty cs)) (hg2:o g2=.none) (hne:g2≠g) (hs:0<size) (hm:m*size≤cs.length):
 ∃η2 η' F',RelF B w0 0 (.only (jyD o g c g2 (.sl 1 tyo (ds0.set k (.val (η [k])))) η' (.sl size ty (cs.take (m*size))) η2)) Act.bare w F'∧η2 []=jie (η [k]) size 0 m∧η' []=η []∧(m*size=cs.length→jie (η [k]) size 0 m=η [k]):=by
 obtain ⟨u,SA,Sd,SC,e1,a1,a2,a3,a4⟩:=jkH (h.ob g) ho;obtain ⟨vs,T,S',hrow,hrl,rfl⟩:=a2;obtain ⟨v,SA',Sk,SC',b1,rfl,b3,b4⟩:=jgi hrl hk
 have hv:η [k]=v:=by
  rw [a3];rcases qx hrow with ⟨_,rfl⟩|⟨gg,nn,cc,rfl,_,_,hcell,_⟩
  ·simp at b1
  ·simp only [hdr,hk,Nat.zero_add,hcell k v b1,Option.getD_some]
 rw [hv];obtain ⟨S2,c1,c2,c3,c4⟩:=ju4 hs b3 hm;have hfr:=h.fr g;rw [e1] at hfr;have hnd:=hfr.1;have hrep:Rep w true (.sl 1 tyo (ds0.set k (.val v))) u (T++(SA'++[]++SC')):=⟨vs,T,_,hrow,b4 _ _ ⟨rfl,rfl⟩,rfl⟩;have hob:=a4 (.sl 1 tyo (ds0.set k (.val v))) (fun p=>hdr w p (.sl 1 tyo (ds0.set k (.val v))) u) _ rfl hrep (fun _=>rfl)
 have hSk:Sk.Nodup:=by
  have:Sk.Sublist (SA++(T++(SA'++Sk++SC'))++SC):=by
   refine List.Sublist.trans ?_ (List.sublist_append_left _ _);refine List.Sublist.trans ?_ (List.sublist_append_right _ _);refine List.Sublist.trans ?_ (List.sublist_append_right _ _);refine List.Sublist.trans ?_ (List.sublist_append_left _ _);exact List.sublist_append_right _ _
  exact hnd.sublist this
 have hsub:(SA++(T++(SA'++[]++SC'))++SC).Sublist (SA++(T++(SA'++Sk++SC'))++SC):=by
  refine List.Sublist.append (List.Sublist.append (List.Sublist.refl _) (List.Sublist.append (List.Sublist.refl _) (List.Sublist.append (List.Sublist.append (List.Sublist.refl _) (List.nil_sublist _)) (List.Sublist.refl _)))) (List.Sublist.refl _)
 have hmem:∀b∈SA++(T++(SA'++[]++SC'))++SC,b∉Sk:=by
  intro b hb hbk
  have p1:(SA++(T++(SA'++Sk++SC'))++SC).Perm (Sk++(SA++(T++(SA'++[]++SC'))++SC)):=by
   have:(SA++(T++(SA'++Sk++SC'))++SC)=(SA++(T++SA'))++(Sk++(SC'++SC)):=by simp
   rw [this];have:(SA++(T++(SA'++[]++SC'))++SC)=(SA++(T++SA'))++(SC'++SC):=by simp
   rw [this];exact (List.perm_append_comm_assoc _ _ _)
  have p2:=p1.nodup_iff.1 hnd;exact (List.nodup_append.1 p2).2.2 b hbk b hb rfl
 have hin:∀b∈Sk,b∈F g:=fun b hb=>by rw [e1];simp [hb]
 have r1:=h.setO (g:=g) hob ⟨hnd.sublist hsub,fun b hb=>hfr.2 b (hsub.subset hb)⟩ (fun g' hg' b hb hb'=>h.dj g' g hg' b hb' (by rw [e1];exact hsub.subset hb))
 have hob2:ORel B w (.loose (.sl size ty (cs.take (m*size))) (fun p=>hdr w p (.sl size ty (cs.take (m*size))) (jie v size 0 m))) S2:=⟨rfl,_,c1,fun _=>rfl⟩
 have r2:=r1.setO (g:=g2) hob2 ⟨c3 hSk,fun b hb=>(h.fr g).2 b (hin b (c2 b hb))⟩ (fun g' hg' b hb=>by
  split
  ·exact fun hh=>hmem b hh (c2 b hb)
  ·rename_i hgg
   exact fun hh=>h.dj g' g hgg b hh (hin b (c2 b hb)))
 exact ⟨_,_,_,r2,rfl,(a3 []).symm▸rfl,c4⟩
theorem jtS {f:FuncId} {args:List AV} {R:AV→(Nat→Ob)→Prop} (h:Inl P f args o fun av o'=>∃g c k g2 m size ty tyo cs ds0 η,(av=.c (.hs g c [k] (η [k]) size 0 m)∨av=.c (.h g c [k] (η [k]))∧m*size=cs.length)∧(o' g).own c=some (.sl 1 tyo ds0,η)∧ds0[k]?=some (.sl size ty cs)∧o' g2=.none∧g2≠g∧0<size∧m*size≤cs.length∧
 ∀η2 η',η' []=η []→R (.c (.h g2 0 [] (η2 []))) (jyD o' g c g2 (.sl 1 tyo (ds0.set k (.val (η [k])))) η' (.sl size ty (cs.take (m*size))) η2)):Inl P f args o R:=
 ⟨h.1,fun B w F xs h1 h2=>(h.2 B w F xs h1 h2).mono fun e w' ⟨v,av,o',F',k1,k2,k3,g,c,k,g2,m,size,ty,tyo,cs,ds0,η,e1,e2,e3,e4,e5,e6,e7,e8⟩=>by
  obtain ⟨η2,η',F2,r1,r2,r3,r4⟩:=jv0 k2 e2 e3 e4 e5 e6 e7;refine ⟨v,_,_,F2,k1,r1,?_,e8 η2 η' r3⟩;rcases e1 with rfl|⟨rfl,e1⟩
  ·obtain ⟨k4,k5⟩:=k3
   have k4:=k4.resolve_right fun h=>absurd h.1 (Nat.lt_irrefl 0)
   exact ⟨by rw [k4,r2],by rw [r2,←k4];exact k5⟩
  ·obtain ⟨k4,k5⟩:=k3
   exact ⟨by rw [k4,r2,r4 e1],by rw [r2,r4 e1];exact k5⟩⟩
variable {s:St} {K:St→Prop} {β:Nat} {gd:Option (Nat×Bool)} {d:Option Nat}
theorem is_hp (g c q:Nat) (p:List Nat) (x:Value) (dd:D):Is s (.h g c (q::p) x) dd=jik ((s.o g).own c) fun d0 η=>D.get (q::p) d0=some dd∧η (q::p)=x∧dd.isSl=true:=by
 apply propext
 simp only [Is];cases (s.o g).own c with
 |none=>simp [jik]
 |some z=>
  obtain ⟨d0,η⟩:=z;simp only [jik,Option.some.injEq,Prod.mk.injEq];constructor
  ·rintro ⟨_,_,⟨rfl,rfl⟩,h1,h2,h3⟩;exact ⟨h2,h1,h3⟩
  ·rintro ⟨h1,h2,h3⟩;exact ⟨_,_,⟨rfl,rfl⟩,h2,h1,h3⟩
theorem jAa (g c b:Nat) (ds:List D):Ptr s (.bp g c b) ds=obK (s.o g) b fun _ cs=>Ptr.go s g b ((cs.drop c).take ds.length) c ds:=by
 rw [←jAo]
 apply propext
 simp only [Ptr];constructor
 ·rintro ⟨ty,cs,h1,_,rfl,h3⟩;exact ⟨ty,cs,h1,h3⟩
 ·rintro ⟨ty,cs,h1,h3⟩;exact ⟨ty,cs,h1,_,rfl,h3⟩
theorem go_nil_ (g b c:Nat):Ptr.go s g b [] c []=True:=by simp [Ptr.go]
theorem go_a_ (g b c:Nat) (x:A0) (l:List Cell) (e:D) (ds:List D):Ptr.go s g b (.a x::l) c (e::ds)=(IsP x e∧Ptr.go s g b l (c+1) ds):=(rfl)
theorem isP_v (x:Value):IsP (.v x) (.val x)=True:=eq_true (.inl rfl)
theorem jAy (e e':D):IsP (.ro e) e'=(e'=e):=(rfl)
theorem jrA (g c i:Nat) (p:List Nat) (η:jq) (e:D) (l:List D):jgo g c p η i (e::l)=e.toOwn g c (p++[i]) η::jgo g c p η (i+1) l:=(rfl)
def mkfK (s:St) (K:St→Prop) (d:Option Nat) (f:Nat):AV→Prop
 |.c a=>K (s.put d (.fn f [a]))
 |_=>False
theorem jAs (f:Nat) (a:A0):mkfK s K d f (.c a)=K (s.put d (.fn f [a])):=(rfl)
theorem jxH (f:Nat) (x:X):vg P β ⟨d,gd,.mkf f [x]⟩ s K=mkfK s K d f (s.ev x):=by
 cases hx:s.ev x with
 |c a=>
  refine jw4 (os:=[]) (av:=.fn f [a]) rfl fun rt st av' os'=>?_
  simp [Gen,jbO,hx]
 |_=>
  apply propext
  refine ⟨fun h=>?_,fun h=>h.elim⟩
  have h':∃rt,∀st,∃av os,Gen P s (β+d.getD 0) rt st (.mkf f [x]) av os∧K ((s.addO os).put d av):=h;obtain ⟨rt,h1⟩:=h';obtain ⟨av,os,⟨l,h2,_⟩,_⟩:=h1 ⟨0,fun _ _=>undef⟩
  simp [jbO,hx] at h2
def clrA (s:St) (K:St→Prop) (size:Nat) (zs:List D):AV→Prop
 |.c (.v (.slice none 0 0))=>K s
 |.c (.hs g c p hx sz lo n)=>sz=size∧0<n∧jik ((s.o g).own c) fun d0 η=>η p=hx∧jqb (D.get p d0) fun dd=>dd.isSl=true∧dd.size=sz∧lo+n≤dd.len∧
  stH (ka (List.replicate n zs).flatten&&ka ((dd.cells.drop (lo*sz)).take (n*sz))) p (lo*sz) (n*sz) η fun η'=>K (s.setO g ((s.o g).putOwn c (D.put p (lo*sz) (List.replicate n zs).flatten d0) η'))
 |_=>False
theorem jxP (size:Nat) (zs:List D) (x:X):vg P β ⟨none,gd,.clr size zs x⟩ s K=clrA s K size zs (s.ev x):=by
 apply propext
 show (none=none∧_)↔_;rw [eq_self,true_and];unfold clrA;split
 ·simp_all
 ·rename_i g c p hx sz lo n he
  simp only [he];cases ho:(s.o g).own c with
  |none=>simp [jik]
  |some z=>
   obtain ⟨d0,η⟩:=z;simp only [jik,Option.some.injEq,Prod.mk.injEq];constructor
   ·rintro ⟨a1,a2,_,_,dd,⟨rfl,rfl⟩,a3,a4,a5,a6,a7,a8⟩
    refine ⟨a1,a2,a3,?_⟩;rw [a4];exact ⟨a5,a6,a7,a8⟩
   ·rintro ⟨a1,a2,a3,a4⟩
    cases hg:D.get p d0 with
    |none=>rw [hg] at a4;exact a4.elim
    |some dd=>rw [hg] at a4;obtain ⟨a5,a6,a7,a8⟩:=a4;exact ⟨a1,a2,d0,η,dd,⟨rfl,rfl⟩,a3,hg,a5,a6,a7,a8⟩
 ·simp_all
theorem jyW (size:Nat) (zs:List D) (g c:Nat) (p:List Nat) (hx:Value) (sz lo n:Nat):clrA s K size zs (.c (.hs g c p hx sz lo n))=(sz=size∧0<n∧jik ((s.o g).own c) fun d0 η=>η p=hx∧jqb (D.get p d0) fun dd=>dd.isSl=true∧dd.size=sz∧lo+n≤dd.len∧
 stH (ka (List.replicate n zs).flatten&&ka ((dd.cells.drop (lo*sz)).take (n*sz))) p (lo*sz) (n*sz) η fun η'=>K (s.setO g ((s.o g).putOwn c (D.put p (lo*sz) (List.replicate n zs).flatten d0) η'))):=rfl
theorem jqk (x:En):(jf x).length=4:=rfl
theorem km {sh:List (List En)} {k:Nat} {l:List En} (h:sh[k]?=some l):D.get [k] (kw sh)=some (jm l):=by
 have e:sh.flatMap (fun es=>[jm es])=sh.map jm:=by clear h;induction sh<;>simp_all
 simp [kw,D.get,e,h,jcy]
end
attribute [go_sem] jxH jAs jrA is_hp jAa go_nil_ go_a_ isP_v jAy jxP jyW
section
variable {P:Program} {s:St}
def jvx (s:St) (ds:List D) (d:D) (l:List A0):AV→Prop
 |.c a=>l.length=ds.length∧qA s (l++[a]) fun cs _=>IsD cs (ds++[d])
 |_=>False
def jx2 (s:St) (k:Nat) (ds:List D) (d:D) (b:AV):AV→Prop
 |.c (.bp g c bb)=>ldB (s.o g) g c bb k fun l=>jvx s ds d l b
 |_=>False
theorem qg (n k m:Nat) (ds:List D) (d:D) (h:jx2 s k ds d (s.t m) (s.t n)):jwD [.cell n true k,.t m] (.tup [(true,ds),(false,[d])]) s:=by
 unfold jx2 at h;split at h
 ·rename_i g c bb he
  simp only [ldB] at h;split at h
  ·rename_i b ty cs ho
   obtain ⟨e1,e2,h⟩:=h;unfold jvx at h;split at h
   ·rename_i a ha
    obtain ⟨h1,h2⟩:=h;simp only [jwD,jhv,ha,he];refine ⟨_,⟨ty,cs,by rw [ho,e1],e2,rfl⟩,.inl trivial,?_⟩
    refine ⟨⟨by simp,by simp [h1]⟩,?_⟩
    simpa [RT.flat] using h2
   ·exact h.elim
  ·exact h.elim
 ·exact h.elim
theorem jz0 (ds:List D) (d:D) (l:List A0) (a:A0):jvx s ds d l (.c a)=(l.length=ds.length∧qA s (l++[a]) fun cs _=>IsD cs (ds++[d])):=(rfl)
theorem jzZ (k g c bb:Nat) (ds:List D) (d:D) (b:AV):jx2 s k ds d b (.c (.bp g c bb))=ldB (s.o g) g c bb k fun l=>jvx s ds d l b:=(rfl)
end
attribute [go_sem] jz0 jzZ
theorem joo {l:List Rn} {k j:Nat} {r:Rn} (h:l[k]?=some r) (hj:j<8):(l.flatMap jd)[k*8+j]?=(jd r)[j]?:=by
 rw [ja3 (enc:=jd) h,List.getElem?_append_right (by rw [jic (enc:=jd) (size:=8) (fun _=>rfl) h];omega),jic (enc:=jd) (size:=8) (fun _=>rfl) h,Nat.add_sub_cancel_left,List.getElem?_append_left (by exact hj)]
theorem jbA {l:List Rn} {k:Nat} {r:Rn} (h:l[k]?=some r):D.get [k*8+5] (jO l)=some (jy r.plan.edges):=by
 have:=joo (j:=5) h (by decide)
 simp [jO,D.get,this,jd,ja,jcy]
theorem jZ {l:List Rn} {k:Nat} {r:Rn} (h:l[k]?=some r):D.get [k*8+7] (jO l)=some (jI r.tasks):=by
 have:=joo (j:=7) h (by decide)
 simp [jO,D.get,this,jd,ja,jcy]
theorem kb {l:List Rn} {k:Nat} {r:Rn} (h:l[k]?=some r):D.get [k*8+1+1+1+1+1] (jO l)=some (jy r.plan.edges):=jbA h
theorem kn {l:List Rn} {k:Nat} {r:Rn} (h:l[k]?=some r):D.get [k*8+1+1+1+1+1+1+1] (jO l)=some (jI r.tasks):=jZ h
theorem jow {l:List Rn} {k:Nat} (v:Rn) (hk:k<l.length):D.put [] (k*8) [.val (.int .i64 v.id),.val (.int .i64 v.plan.prio),.val (.int .i64 v.plan.most),.val (.int .i64 v.plan.wait),.val (.int .i64 v.plan.tasks),jy v.plan.edges,.val (.int .i64 v.state),jI v.tasks] (jO l)=jO (l.set k v):=jrg v hk
theorem qN {y:Yd} {id:Int} (h:¬runAt y id<0):∃(k:Nat) (r:Rn),runAt y id=k∧y.runs[k]?=some r∧r.id=id∧y.runs.length≤8:=by
 unfold runAt at h⊢;split at h
 ·omega
 ·rename_i h8
  rw [if_neg h8];rcases jiM y.runs id with ⟨k,x,h1,h2,_,h4⟩|⟨_,h2⟩
  ·exact ⟨k,x,h4,h1,h2,by omega⟩
  ·rw [h2] at h;omega
theorem jg3 {l:List Rn} {k:Nat} {x:Rn} (hx:l[k]?=some x):((l.flatMap jd).drop (k*8)).take 8=jd x:=qv (enc:=jd) (size:=8) (fun _=>rfl) hx (j:=0) (n:=8) (by decide)
theorem jcv {l:List Rn} {k:Nat} {x:Rn} (hx:l[k]?=some x):k*8+8≤(l.flatMap jd).length:=qs (enc:=jd) (size:=8) (fun _=>rfl) hx (j:=0) (n:=8) (by decide)
def jj7 (p:Pl) (t:Nat):Tk:=⟨if 0<(zo p t).length then 1 else 2,((zo p t).length:Int),0,0⟩
def vL (p:Pl) (k:Nat):List Tk:=(List.range k).map (jj7 p)
def jW (id:Int) (p:Pl):Rn:=⟨id,p,1,vL p p.tasks.toNat⟩
theorem jty (p:Pl):vL p 0=[]:=rfl
theorem jtx (p:Pl) (k:Nat):vL p (k+1)=vL p k++[jj7 p k]:=by simp [vL,List.range_succ]
theorem jcs (p:Pl) (k:Nat):(vL p k).length=k:=by simp [vL]
theorem jeP (l:List Tk) (a b c d:Int):D.sl 4 tTk (l.flatMap jn++[.val (.int .i64 a),.val (.int .i64 b),.val (.int .i64 c),.val (.int .i64 d)])=jI (l++[⟨a,b,c,d⟩]):=by simp [jI,jn]
def jfH:C:=iS [iA 3 (.box 71 5 (.t 1)),iA 4 (.alloc 108 [.int .i64 0,.int .i64 0,.int .i64 0,.int .i64 0,.int .i64 0,.slice none 0 0,.int .i64 0,.slice none 0 0]),iA 5 (iO false)] (.seq (iS [iA 9 (iM 0),iA 10 (.call 74 [.t 9,.c (.int .i64 1),.c (.int .i64 9999)]),iA 11 (iU 10),iA 12 (iM 11),iB 13 12 false (iT 5 3),iB 14 12 false (.call 186 [.t 13]),iB 15 12 false (iQ .neq 3 14 0),iA 16 (.pick (.t 12) (.c (.bool true)) (.t 15))] (iD 16 (iS [iA 17 (.bld [.int .i64 0,.int .i64 0,.int .i64 0,.int .i64 0,.int .i64 0,.slice none 0 0,.int .i64 0,.slice none 0 0] []),iC (.st 8 [none,none,none,none,none,some (2,253),none,some (4,172)] (.t 4) (.t 17)),iA 5 (iO false)] .ret) .skip)) (iS [iA 18 (iM 0),iA 19 (iT 5 3),iA 20 (.call 256 [.t 19]),iA 21 (.bld [.int .i64 0,.int .i64 0,.int .i64 0,.int .i64 0,.int .i64 0,.slice none 0 0,.int .i64 0,.slice none 0 0] [(0,1,.t 18),(1,5,.t 20),(6,1,.c (.int .i64 1))]),iA 6 (.alloc 108 [.int .i64 0,.int .i64 0,.int .i64 0,.int .i64 0,.int .i64 0,.slice none 0 0,.int .i64 0,.slice none 0 0]),iC (.st 8 [none,none,none,none,none,some (2,253),none,some (4,172)] (.t 6) (.t 21))] (.seq (iS [iA 7 (iN 0)] (.blk 0 (.loop (.seq (iS [iA 22 (iM 7),iA 23 (iF 3 3),iA 24 (iL 23),iA 25 (iP .lss 3 22 24)] (iD 25 .skip (.exit 0))) (.seq (.blk 1 (iS [iA 28 (iT 5 3),iA 29 (iM 7),iA 30 (.call 259 [.t 28,.t 29]),iA 31 (iG 30),iA 32 (.bld [.int .i64 0,.int .i64 0,.int .i64 0,.int .i64 0] [(0,1,.c (.int .i64 2)),(1,1,.t 31)]),iA 8 (.alloc 172 [.int .i64 0,.int .i64 0,.int .i64 0,.int .i64 0]),iC (.st 4 [none,none,none,none] (.t 8) (.t 32))] (.seq (iS [iA 33 (iF 1 8),iA 34 (iL 33),iA 35 (iQ .gtr 3 34 0)] (iD 35 (.reg [iA 36 (iF 0 8),iC (.st 1 [none] (.t 36) (.c (.int .i64 1)))]) .skip)) (.reg [iA 37 (iF 7 6),iA 38 (iL 37),iA 39 (iT 4 8),iA 40 (.bsl 172 4 1 [none,none,none,none] [(0,4,.t 39)]),iA 41 (.app 172 4 32 (.t 38) (.t 40)),iA 42 (iF 7 6),iC (.st 1 [some (4,172)] (.t 42) (.t 41))])))) (.reg [iA 26 (iM 7),iA 27 (iQ .add 3 26 1),iA 7 (iM 27)])))))) (iS [iA 43 (iT 8 6),iC (.st 8 [none,none,none,none,none,some (2,253),none,some (4,172)] (.t 4) (.t 43)),iA 5 (iO true)] .ret))))
theorem jhK:fnC Tryz.prog Tryz.f188=some (jfH,[.cell 4 true 8,.t 5],44):=by kernel_rfl
def jfW:C:=iS [iA 3 (.box 71 5 (.t 1)),iA 4 (.alloc 108 [.int .i64 0,.int .i64 0,.int .i64 0,.int .i64 0,.int .i64 0,.slice none 0 0,.int .i64 0,.slice none 0 0]),iA 5 (iO false)] (.seq (iS [iA 9 (iM 0),iA 10 (.call 78 [.t 9,.c (.int .i64 1),.c (.int .i64 9999)]),iA 11 (iU 10),iA 12 (iM 11),iB 13 12 false (iT 5 3),iB 14 12 false (.call 210 [.t 13]),iB 15 12 false (iQ .neq 3 14 0),iA 16 (.pick (.t 12) (.c (.bool true)) (.t 15))] (iD 16 (iS [iA 17 (.bld [.int .i64 0,.int .i64 0,.int .i64 0,.int .i64 0,.int .i64 0,.slice none 0 0,.int .i64 0,.slice none 0 0] []),iC (.st 8 [none,none,none,none,none,some (2,253),none,some (4,172)] (.t 4) (.t 17)),iA 5 (iO false)] .ret) .skip)) (iS [iA 18 (iM 0),iA 19 (iT 5 3),iA 20 (.call 270 [.t 19]),iA 21 (.bld [.int .i64 0,.int .i64 0,.int .i64 0,.int .i64 0,.int .i64 0,.slice none 0 0,.int .i64 0,.slice none 0 0] [(0,1,.t 18),(1,5,.t 20),(6,1,.c (.int .i64 1))]),iA 6 (.alloc 108 [.int .i64 0,.int .i64 0,.int .i64 0,.int .i64 0,.int .i64 0,.slice none 0 0,.int .i64 0,.slice none 0 0]),iC (.st 8 [none,none,none,none,none,some (2,253),none,some (4,172)] (.t 6) (.t 21))] (.seq (iS [iA 7 (iN 0)] (.blk 0 (.loop (.seq (iS [iA 22 (iM 7),iA 23 (iF 3 3),iA 24 (iL 23),iA 25 (iP .lss 3 22 24)] (iD 25 .skip (.exit 0))) (.seq (.blk 1 (iS [iA 28 (iT 5 3),iA 29 (iM 7),iA 30 (.call 273 [.t 28,.t 29]),iA 31 (iG 30),iA 32 (.bld [.int .i64 0,.int .i64 0,.int .i64 0,.int .i64 0] [(0,1,.c (.int .i64 1)),(1,1,.t 31)]),iA 8 (.alloc 172 [.int .i64 0,.int .i64 0,.int .i64 0,.int .i64 0]),iC (.st 4 [none,none,none,none] (.t 8) (.t 32))] (.seq (iS [iA 33 (iF 1 8),iA 34 (iL 33),iA 35 (iQ .eql 3 34 0)] (iD 35 (.reg [iA 36 (iF 0 8),iC (.st 1 [none] (.t 36) (.c (.int .i64 2)))]) .skip)) (.reg [iA 37 (iF 7 6),iA 38 (iL 37),iA 39 (iT 4 8),iA 40 (.bsl 172 4 1 [none,none,none,none] [(0,4,.t 39)]),iA 41 (.app 172 4 32 (.t 38) (.t 40)),iA 42 (iF 7 6),iC (.st 1 [some (4,172)] (.t 42) (.t 41))])))) (.reg [iA 26 (iM 7),iA 27 (iQ .add 3 26 1),iA 7 (iM 27)])))))) (iS [iA 43 (iT 8 6),iC (.st 8 [none,none,none,none,none,some (2,253),none,some (4,172)] (.t 4) (.t 43)),iA 5 (iO true)] .ret))))
theorem jhZ:fnC Tryz.prog Tryz.f212=some (jfW,[.cell 4 true 8,.t 5],44):=by kernel_rfl
theorem jlz (id:Int) (p:Pl) (hid:1≤id∧id≤9999) (hp:jw p=0):kp Tryz.prog 188 [.c (.val (.int .i64 id)),.agg (ja p)] (.tup [(true,jd (jW id p)),(false,[.val (.bool true)])]):=by
 refine js Tryz.func188 jhK (by simp) ?_
 unfold jfH;obtain ⟨n,hn,hn1,h12,h30,hes,hnd,-⟩:=jck hp;have hi:decide (1≤id∧id≤9999)=true:=decide_eq_true hid;have hp0:(jw p !=0)=false:=by simp [hp]
 simp only [go_sem,ja];intro b3 b4;refine jc (jJ id 1 9999) (by simp only [go_sem,ja]) fun η=>?_
 simp only [go_sem,ja];simp only [go_sem,ja,hi];refine jc (vD p) (by simp only [go_sem,ja]) fun η=>?_
 simp only [go_sem,ja];simp only [go_sem,ja,hp0];refine jc (jdE p (by omega)) (by simp only [go_sem,ja]) fun ηc=>?_
 simp only [go_sem,ja];intro b6;refine jp (fun i:Nat×jq=>St.of [(3,Bx 300 b3),(4,Bx 400 b4),(6,Bx 600 b6),(7,Ni i.1)] [(300,Bi b3 _ (ja p)),(400,ZRn b4 tRn),(600,jap b6 tRn ⟨id,p,1,vL p i.1⟩ (ηc 4) i.2)]) (fun i=>i.1≤n) (fun i=>n-i.1) (0,jb5) (by (try dsimp only);first|omega|(simp;done)|(and_intros<;>first|omega|simp)) (jj [some 300,some 400,some 600] (by simp only [go_sem,ja,jd,jty]<;>and_intros<;>first|rfl|assumption|trivial)) ?_
 rintro ⟨k,η⟩ hk;dsimp only at hk;by_cases hlt:k<n
 ·have hlt':(k:Int)<p.tasks:=by omega
  have hw:IntKind.i64.wrap ((k:Int)+1)=((k+1:Nat):Int):=jg (by omega) (by omega)
  have hnx:=jtx p k;have hnl:=jcs p k;generalize vL p k=M at*;have m1:M.length+1≤maxLen:=by unfold maxLen;omega
  have m2:(M.length+1)*32≤140737488355328:=by omega
  simp only [go_sem,ja,hlt'];refine jc (jbJ p k n hn h12 h30) (by simp only [go_sem,ja]) fun η=>?_
  simp only [go_sem,ja];generalize hL:(zo p k).length=L at*;intro b8;by_cases h0:0<L
  ·have h0':(0:Int)<(L:Int):=by omega
   have hT:jj7 p k=⟨1,(L:Int),0,0⟩:=by simp [jj7,hL,h0]
   rw [hT] at hnx;simp only [go_sem,ja,jn,jd,h0',m1,m2,jeP,hw];intro η40 η41;exact ⟨(k+1,η41),by (try dsimp only);first|omega|assumption|(and_intros<;>first|omega|assumption),(jj [some 300,some 400,some 600] (by simp only [go_sem,ja,jd,hnx]<;>and_intros<;>first|rfl|assumption|trivial)),by (try dsimp only);omega⟩
  ·have h0':¬(0:Int)<(L:Int):=by omega
   have hT:jj7 p k=⟨2,(L:Int),0,0⟩:=by simp [jj7,hL,h0]
   rw [hT] at hnx;simp only [go_sem,ja,jn,jd,h0',m1,m2,jeP,hw];intro η40 η41;exact ⟨(k+1,η41),by (try dsimp only);first|omega|assumption|(and_intros<;>first|omega|assumption),(jj [some 300,some 400,some 600] (by simp only [go_sem,ja,jd,hnx]<;>and_intros<;>first|rfl|assumption|trivial)),by (try dsimp only);omega⟩
 have hlt':¬(k:Int)<p.tasks:=by omega
 obtain rfl:k=n:=by omega
 have hr:jW id p=⟨id,p,1,vL p k⟩:=by rw [jW,hn,Int.toNat_natCast]
 rw [hr];generalize vL p k=M at*;simp only [go_sem,ja,jd,hlt'];refine qg _ _ _ _ _ ?_;simp only [go_sem,ja,jd]
theorem jlK (id:Int) (p:Pl) (hid:1≤id∧id≤9999) (hp:jw p=0):kp Tryz.prog 212 [.c (.val (.int .i64 id)),.agg (ja p)] (.tup [(true,jd (jW id p)),(false,[.val (.bool true)])]):=by
 refine js Tryz.func212 jhZ (by simp) ?_
 unfold jfW;obtain ⟨n,hn,hn1,h12,h30,hes,hnd,-⟩:=jck hp;have hi:decide (1≤id∧id≤9999)=true:=decide_eq_true hid;have hp0:(jw p !=0)=false:=by simp [hp]
 simp only [go_sem,ja];intro b3 b4;refine jc (jD id 1 9999) (by simp only [go_sem,ja]) fun η=>?_
 simp only [go_sem,ja];simp only [go_sem,ja,hi];refine jc (qe p (by omega)) (by simp only [go_sem,ja]) fun η=>?_
 simp only [go_sem,ja];simp only [go_sem,ja,hp0];refine jc (jcn p (by omega)) (by simp only [go_sem,ja]) fun ηc=>?_
 simp only [go_sem,ja];intro b6;refine jp (fun i:Nat×jq=>St.of [(3,Bx 300 b3),(4,Bx 400 b4),(6,Bx 600 b6),(7,Ni i.1)] [(300,Bi b3 _ (ja p)),(400,ZRn b4 tRn),(600,jap b6 tRn ⟨id,p,1,vL p i.1⟩ (ηc 4) i.2)]) (fun i=>i.1≤n) (fun i=>n-i.1) (0,jb5) (by (try dsimp only);first|omega|(simp;done)|(and_intros<;>first|omega|simp)) (jj [some 300,some 400,some 600] (by simp only [go_sem,ja,jd,jty]<;>and_intros<;>first|rfl|assumption|trivial)) ?_
 rintro ⟨k,η⟩ hk;dsimp only at hk;by_cases hlt:k<n
 ·have hlt':(k:Int)<p.tasks:=by omega
  have hw:IntKind.i64.wrap ((k:Int)+1)=((k+1:Nat):Int):=jg (by omega) (by omega)
  have hnx:=jtx p k;have hnl:=jcs p k;generalize vL p k=M at*;have m1:M.length+1≤maxLen:=by unfold maxLen;omega
  have m2:(M.length+1)*32≤140737488355328:=by omega
  simp only [go_sem,ja,hlt'];refine jc (jcp p k hp) (by simp only [go_sem,ja]) fun η=>?_
  simp only [go_sem,ja];generalize hL:(zo p k).length=L at*;intro b8;cases h0:((L:Int)==0)
  ·have h0':0<L:=by have:¬(L:Int)=0:=by simpa using h0
                    omega
   have hT:jj7 p k=⟨1,(L:Int),0,0⟩:=by simp [jj7,hL,h0']
   rw [hT] at hnx;simp only [go_sem,ja,jn,jd,h0,m1,m2,jeP,hw];intro η40 η41;exact ⟨(k+1,η41),by (try dsimp only);first|omega|assumption|(and_intros<;>first|omega|assumption),(jj [some 300,some 400,some 600] (by simp only [go_sem,ja,jd,hnx]<;>and_intros<;>first|rfl|assumption|trivial)),by (try dsimp only);omega⟩
  ·have h0':¬0<L:=by have:(L:Int)=0:=by simpa using h0
                     omega
   have hT:jj7 p k=⟨2,(L:Int),0,0⟩:=by simp [jj7,hL,h0']
   rw [hT] at hnx;simp only [go_sem,ja,jn,jd,h0,m1,m2,jeP,hw];intro η40 η41;exact ⟨(k+1,η41),by (try dsimp only);first|omega|assumption|(and_intros<;>first|omega|assumption),(jj [some 300,some 400,some 600] (by simp only [go_sem,ja,jd,hnx]<;>and_intros<;>first|rfl|assumption|trivial)),by (try dsimp only);omega⟩
 have hlt':¬(k:Int)<p.tasks:=by omega
 obtain rfl:k=n:=by omega
 have hr:jW id p=⟨id,p,1,vL p k⟩:=by rw [jW,hn,Int.toNat_natCast]
 rw [hr];generalize vL p k=M at*;simp only [go_sem,ja,jd,hlt'];refine qg _ _ _ _ _ ?_;simp only [go_sem,ja,jd]
section
variable {P:Program} {f:FuncId}
theorem jz7 {v1 v2 v3 v4:View} {u:Value} (hn:joa P f) (h:∀w a b c d,ViewRel w v1 a→ViewRel w v2 b→ViewRel w v3 c→ViewRel w v4 d→Calls P f #[a,b,c,d] w fun e w'=>e=.returned u∧Below w.heap.size w w'):kp P f [v1,v2,v3,v4] (.c (.val u)):=by
 refine ⟨hn,fun w xs hv=>?_⟩
 obtain ⟨a,_,rfl,h1,b,_,rfl,h2,c,_,rfl,h3,d,_,rfl,h4,h5⟩:=hv;rw [show _=_ from h5]
 exact (h w a b c d h1 h2 h3 h4).mono fun e w' ⟨he,hb⟩=>⟨u,[],he,⟨rfl,rfl⟩,Fresh.nil _,hb⟩
end
theorem jm7 (y:Yd) (id task tri:Int):kp Tryz.prog 262 [.agg (jb y),.c (.val (.int .i64 id)),.c (.val (.int .i64 task)),.c (.val (.int .i64 tri))] (.c (.val (.bool (qU y id task tri)))):=
 jz7 ⟨_,Tryz.func262,by kernel_rfl,by kernel_rfl⟩ fun w a b c d ⟨S,ha⟩ hb hc hd=>by rw [jaz hb,jaz hc,jaz hd];exact jvn y id task tri a S w false ha
theorem jco (y:Yd) (id task tri:Int):kp Tryz.prog 227 [.agg (jb y),.c (.val (.int .i64 id)),.c (.val (.int .i64 task)),.c (.val (.int .i64 tri))] (.c (.val (.bool (qU y id task tri)))):=
 jz7 ⟨_,Tryz.func227,by kernel_rfl,by kernel_rfl⟩ fun w a b c d ⟨S,ha⟩ hb hc hd=>by rw [jaz hb,jaz hc,jaz hd];exact jvZ y id task tri a S w false ha
open Classical in
noncomputable def jaO (y:Yd) (id task tri:Int):Int:=if jC y=false then 8 else if runAt y id<0 then 10 else if qU y id task tri=false then 11 else 0
def jfC:C:=iS [iA 4 (.box 37 4 (.t 0)),iA 8 (iN 0)] (.seq (.blk 0 (iS [iA 10 (iT 4 4),iA 11 (.call 72 [.t 10]),iA 12 (iU 11),iA 9 (iM 12)] (iD 9 (iS [iA 8 (iN 8)] .ret) (iS [iA 14 (iT 4 4),iA 15 (iM 1),iA 16 (.call 152 [.t 14,.t 15]),iA 17 (iQ .lss 3 16 0),iA 13 (iM 17)] (iD 13 (iS [iA 8 (iN 10)] .ret) (iS [iA 19 (iT 4 4),iA 20 (iM 1),iA 21 (iM 2),iA 22 (iM 3),iA 23 (.call 262 [.t 19,.t 20,.t 21,.t 22]),iA 24 (iU 23),iA 18 (iM 24)] (iD 18 (iS [iA 8 (iN 11)] .ret) .skip))))))) (iS [iA 8 (iN 0)] .ret))
theorem jhF:fnC Tryz.prog Tryz.f196=some (jfC,[.t 8],25):=by kernel_rfl
def jjz:C:=iS [iA 4 (.box 37 4 (.t 0)),iA 8 (iN 0)] (.seq (.blk 0 (iS [iA 10 (iT 4 4),iA 11 (.call 59 [.t 10]),iA 12 (iU 11),iA 9 (iM 12)] (iD 9 (iS [iA 8 (iN 8)] .ret) (iS [iA 14 (iT 4 4),iA 15 (iM 1),iA 16 (.call 56 [.t 14,.t 15]),iA 17 (iQ .lss 3 16 0),iA 13 (iM 17)] (iD 13 (iS [iA 8 (iN 10)] .ret) (iS [iA 19 (iT 4 4),iA 20 (iM 1),iA 21 (iM 2),iA 22 (iM 3),iA 23 (.call 227 [.t 19,.t 20,.t 21,.t 22]),iA 24 (iU 23),iA 18 (iM 24)] (iD 18 (iS [iA 8 (iN 11)] .ret) .skip))))))) (iS [iA 8 (iN 0)] .ret))
theorem jkd:fnC Tryz.prog Tryz.f220=some (jjz,[.t 8],25):=by kernel_rfl
theorem jeZ (y:Yd) (id task tri:Int) (ht:jK y≤2000000):kp Tryz.prog 196 [.agg (jb y),.c (.val (.int .i64 id)),.c (.val (.int .i64 task)),.c (.val (.int .i64 tri))] (.c (.val (.int .i64 (jaO y id task tri)))):=by
 refine js Tryz.func196 jhF (by simp) ?_
 unfold jfC;simp only [go_sem,jb];intro b4;refine jc (qh y ht) (by simp only [go_sem,jb]) fun η=>?_
 simp only [go_sem,jb];cases hok:jC y
 ·have hc:jaO y id task tri=8:=by simp [jaO,hok]
  simp only [go_sem,jb,hok,hc]
 simp only [go_sem,jb,hok];refine jc (qi y id) (by simp only [go_sem,jb]) fun η=>?_
 simp only [go_sem,jb];by_cases hneg:runAt y id<0
 ·have hc:jaO y id task tri=10:=by simp [jaO,hok,hneg]
  simp only [go_sem,jb,hneg,hc]
 simp only [go_sem,jb,hneg];refine jc (jm7 y id task tri) (by simp only [go_sem,jb]) fun η=>?_
 simp only [go_sem,jb];cases hh:qU y id task tri
 ·have hc:jaO y id task tri=11:=by simp [jaO,hok,hneg,hh]
  simp only [go_sem,jb,hh,hc]
 ·have hc:jaO y id task tri=0:=by simp [jaO,hok,hneg,hh]
  simp only [go_sem,jb,hh,hc]
theorem jiT (y:Yd) (id task tri:Int) (ht:jK y≤2000000):kp Tryz.prog 220 [.agg (jb y),.c (.val (.int .i64 id)),.c (.val (.int .i64 task)),.c (.val (.int .i64 tri))] (.c (.val (.int .i64 (jaO y id task tri)))):=by
 refine js Tryz.func220 jkd (by simp) ?_
 unfold jjz;simp only [go_sem,jb];intro b4;refine jc (kI y ht) (by simp only [go_sem,jb]) fun η=>?_
 simp only [go_sem,jb];cases hok:jC y
 ·have hc:jaO y id task tri=8:=by simp [jaO,hok]
  simp only [go_sem,jb,hok,hc]
 simp only [go_sem,jb,hok];refine jc (kW y id) (by simp only [go_sem,jb]) fun η=>?_
 simp only [go_sem,jb];by_cases hneg:runAt y id<0
 ·have hc:jaO y id task tri=10:=by simp [jaO,hok,hneg]
  simp only [go_sem,jb,hneg,hc]
 simp only [go_sem,jb,hneg];refine jc (jco y id task tri) (by simp only [go_sem,jb]) fun η=>?_
 simp only [go_sem,jb];cases hh:qU y id task tri
 ·have hc:jaO y id task tri=11:=by simp [jaO,hok,hneg,hh]
  simp only [go_sem,jb,hh,hc]
 ·have hc:jaO y id task tri=0:=by simp [jaO,hok,hneg,hh]
  simp only [go_sem,jb,hh,hc]
theorem jn6 {y:Yd} {id task tri:Int} (h:jaO y id task tri=0):YardOkP y∧¬runAt y id<0:=by
 unfold jaO at h;split at h
 ·cases h
 split at h
 ·cases h
 rename_i h1 h2;exact ⟨yard_iff.1 (by simpa using h1),h2⟩
end Go.Proofs.YtmnpailnelmpiaaGreat
