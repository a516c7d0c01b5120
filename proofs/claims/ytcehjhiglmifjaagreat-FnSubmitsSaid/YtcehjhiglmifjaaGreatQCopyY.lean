/- Parts. -/
import Derived.Test.YtcehjhiglmifjaaGreatQRunD
import Derived.Shelf.Spec.SlicesInsertGrow
import Derived.Lib.Overlaps
set_option linter.all false
set_option maxHeartbeats 8000000
set_option maxRecDepth 100000
namespace Go.Proofs.YtcehjhiglmifjaaGreat
open Go.RowKit Go.Sort
section
variable {P:Program} {B:Nat} {w w0:World} {F:Nat->List Nat} {o:Nat->Ob}
theorem jyN {size:Nat} {ty:TypeId} {cs:List D} {v:Value} {S:List Nat} {m:Nat} (hs:0<size) (h:Rep w true (.sl size ty cs) v S) (hm:m*size<=cs.length):∃S',Rep w true (.sl size ty (cs.take (m*size))) (jj9 v size 0 m) S'/\(∀b∈S',b∈S)/\(S.Nodup->S'.Nodup)/\(m*size=cs.length->jj9 v size 0 m=v):=by
 obtain ⟨vs,T,S2,⟨n,⟨h1,h2⟩,rfl⟩,h4,rfl⟩:=h;have bO:=RepL.length _ h4;have e:cs=cs.take (m*size)++cs.drop (m*size):=(aQR _ _).symm;rw [e] at h4;obtain ⟨v1,v2,Sa,Sb,rfl,rfl,h5,h6⟩:=RepL.append_inv _ h4;have gQ:=RepL.length _ h5;rw [aOZ,aQL hm] at gQ
 have key:blk (jj9 v size 0 m)=blk v/\w.ownsRow 0 ty size (jj9 v size 0 m) m v1/\(m*size=cs.length->jj9 v size 0 m=v):=by
  rcases h2 with ⟨rfl,rfl⟩|⟨g,cap,cur,rfl,a1,a2,a3,a4,a5,a6⟩
  ·have o0:m=0:=by
    rcases Nat.eq_zero_or_pos m with h|h
    ·exact h
    ·have:=Nat.mul_pos h hs
     rw [Nat.zero_mul] at h1;omega
   subst o0;have:v1=[]:=aPS (by omega)
   subst this;exact ⟨rfl,⟨by simp,.inl ⟨rfl,rfl⟩⟩,λ_=>rfl⟩
  ·have hmn:m*size<=n*size:=by rw [<-h1,bO];exact hm
   have aJT:m<=n:=Nat.le_of_mul_le_mul_right hmn hs
   have bC:jj9 (.slice (some ⟨g,0,none⟩) n cap) size 0 m=.slice (some ⟨g,0,none⟩) m cap:=by
    simp only [jj9];split<;>simp [Addr.add_lit]
   rw [bC];refine ⟨rfl,⟨gQ,.inr ⟨g,cap,cur,rfl,a1,a2,by omega,a4,a5,?_⟩⟩,λhe=>?_⟩
   ·have:=congrArg (List.take (m*size)) a6
    rw [List.take_take,aQL hmn,<-gQ,List.take_left] at this;exact gQ▸this
   ·have:m=n:=Nat.eq_of_mul_eq_mul_right hs (by rw [he,<-h1,bO])
    rw [this]
 refine ⟨blk (jj9 v size 0 m)++Sa,⟨v1,_,Sa,⟨m,key.2.1,rfl⟩,h5,rfl⟩,?_,?_,key.2.2⟩
 ·rw [key.1];intro b hb
  rcases aOX.1 hb with hb|hb<;>simp [hb]
 ·rw [key.1];intro hn
  have:(blk v++Sa++Sb).Nodup:=by simpa using hn
  exact (aPC.1 this).1
def jC1 (o:Nat->Ob) (g c g2:Nat) (d:D) (aH:jg) (d2:D) (aS:jg):Nat->Ob:=λj=>if j=g2 then .loose d2 aS else if j=g then (o g).putOwn c d aH else o j
theorem jzT (h:RelF B w0 0 (.only o) Act.bare w F) {g c k g2 m size ty tyo:Nat} {cs ds0:List D} {η:jg} (ho:(o g).own c=some (.sl 1 tyo ds0,η)) (hk:ds0[k]?=some (.sl size ty cs)) (mD:o g2=.none) (aK:g2≠g) (hs:0<size) (hm:m*size<=cs.length):
 ∃aS aH F',RelF B w0 0 (.only (jC1 o g c g2 (.sl 1 tyo (ds0.set k (.val (η [k])))) aH (.sl size ty (cs.take (m*size))) aS)) Act.bare w F'/\aS []=jj9 (η [k]) size 0 m/\aH []=η []/\(m*size=cs.length->jj9 (η [k]) size 0 m=η [k]):=by
 obtain ⟨u,SA,Sd,SC,e1,a1,a2,a3,a4⟩:=jmZ (h.ob g) ho;obtain ⟨vs,T,S',bD,cH,rfl⟩:=a2;obtain ⟨v,SA',Sk,SC',b1,rfl,b3,b4⟩:=jh7 cH hk
 have hv:η [k]=v:=by
  rw [a3];rcases qM bD with ⟨_,rfl⟩|⟨gg,nn,cc,rfl,_,_,bW,_⟩
  ·simp at b1
  ·simp only [hdr,hk,aQN,bW k v b1,aPA]
 rw [hv];obtain ⟨S2,c1,c2,c3,c4⟩:=jyN hs b3 hm;have fA:=h.fr g;rw [e1] at fA;have aY:=fA.1;have bH:Rep w true (.sl 1 tyo (ds0.set k (.val v))) u (T++(SA'++[]++SC')):=⟨vs,T,_,bD,b4 _ _ ⟨rfl,rfl⟩,rfl⟩;have bT:=a4 (.sl 1 tyo (ds0.set k (.val v))) (λp=>hdr w p (.sl 1 tyo (ds0.set k (.val v))) u) _ rfl bH (λ_=>rfl)
 have hSk:Sk.Nodup:=by
  have:Sk.Sublist (SA++(T++(SA'++Sk++SC'))++SC):=by
   refine List.Sublist.trans ?_ (List.sublist_append_left _ _);refine List.Sublist.trans ?_ (List.sublist_append_right _ _);refine List.Sublist.trans ?_ (List.sublist_append_right _ _);refine List.Sublist.trans ?_ (List.sublist_append_left _ _);exact List.sublist_append_right _ _
  exact aY.sublist this
 have bC:(SA++(T++(SA'++[]++SC'))++SC).Sublist (SA++(T++(SA'++Sk++SC'))++SC):=by
  refine List.Sublist.append (List.Sublist.append (List.Sublist.refl _) (List.Sublist.append (List.Sublist.refl _) (List.Sublist.append (List.Sublist.append (List.Sublist.refl _) (List.nil_sublist _)) (List.Sublist.refl _)))) (List.Sublist.refl _)
 have lC:∀b∈SA++(T++(SA'++[]++SC'))++SC,b∉Sk:=by
  intro b hb hbk
  have p1:(SA++(T++(SA'++Sk++SC'))++SC).Perm (Sk++(SA++(T++(SA'++[]++SC'))++SC)):=by
   have:(SA++(T++(SA'++Sk++SC'))++SC)=(SA++(T++SA'))++(Sk++(SC'++SC)):=by simp
   rw [this];have:(SA++(T++(SA'++[]++SC'))++SC)=(SA++(T++SA'))++(SC'++SC):=by simp
   rw [this];exact (List.perm_append_comm_assoc _ _ _)
  have p2:=p1.nodup_iff.1 aY;exact (aPC.1 p2).2.2 b hbk b hb rfl
 have cJ:∀b∈Sk,b∈F g:=λb hb=>by rw [e1];simp [hb]
 have r1:=h.setO (g:=g) bT ⟨aY.sublist bC,λb hb=>fA.2 b (bC.subset hb)⟩ (λg' dE b hb a9=>h.dj g' g dE b a9 (by rw [e1];exact bC.subset hb))
 have aCV:ORel B w (.loose (.sl size ty (cs.take (m*size))) (λp=>hdr w p (.sl size ty (cs.take (m*size))) (jj9 v size 0 m))) S2:=⟨rfl,_,c1,λ_=>rfl⟩
 have r2:=r1.setO (g:=g2) aCV ⟨c3 hSk,λb hb=>(h.fr g).2 b (cJ b (c2 b hb))⟩ (λg' dE b hb=>by
  split
  ·exact λhh=>lC b hh (c2 b hb)
  ·rename_i yO
   exact λhh=>h.dj g' g yO b hh (cJ b (c2 b hb)))
 exact ⟨_,_,_,r2,rfl,(a3 []).symm▸rfl,c4⟩
theorem jxh {f:FuncId} {args:List AV} {R:AV->(Nat->Ob)->Prop} (h:Inl P f args o λav o'=>∃g c k g2 m size ty tyo cs ds0 η,(av=.c (.hs g c [k] (η [k]) size 0 m)\/av=.c (.h g c [k] (η [k]))/\m*size=cs.length)/\(o' g).own c=some (.sl 1 tyo ds0,η)/\ds0[k]?=some (.sl size ty cs)/\o' g2=.none/\g2≠g/\0<size/\m*size<=cs.length/\
 ∀aS aH,aH []=η []->R (.c (.h g2 0 [] (aS []))) (jC1 o' g c g2 (.sl 1 tyo (ds0.set k (.val (η [k])))) aH (.sl size ty (cs.take (m*size))) aS)):Inl P f args o R:=
 ⟨h.1,λB w F xs h1 h2=>(h.2 B w F xs h1 h2).mono λe w' ⟨v,av,o',F',k1,k2,k3,g,c,k,g2,m,size,ty,tyo,cs,ds0,η,e1,e2,e3,e4,e5,e6,e7,e8⟩=>by
  obtain ⟨aS,aH,F2,r1,r2,r3,r4⟩:=jzT k2 e2 e3 e4 e5 e6 e7;refine ⟨v,_,_,F2,k1,r1,?_,e8 aS aH r3⟩;rcases e1 with rfl|⟨rfl,e1⟩
  ·obtain ⟨k4,k5⟩:=k3
   have k4:=k4.resolve_right λh=>absurd h.1 (Nat.lt_irrefl 0)
   exact ⟨by rw [k4,r2],by rw [r2,<-k4];exact k5⟩
  ·obtain ⟨k4,k5⟩:=k3
   exact ⟨by rw [k4,r2,r4 e1],by rw [r2,r4 e1];exact k5⟩⟩
variable {s:St} {K:St->Prop} {β:Nat} {gd:Option (Nat×Bool)} {d:Option Nat}
theorem is_hp (g c q:Nat) (p:List Nat) (x:Value) (dd:D):Is s (.h g c (q::p) x) dd=jjb ((s.o g).own c) λd0 η=>D.get (q::p) d0=some dd/\η (q::p)=x/\dd.isSl=true:=by
 apply propext
 simp only [Is];cases (s.o g).own c with
 |none=>simp [jjb]
 |some z=>
  obtain ⟨d0,η⟩:=z;simp only [jjb,Option.some.injEq,Prod.mk.injEq];constructor
  ·rintro ⟨_,_,⟨rfl,rfl⟩,h1,h2,h3⟩;exact ⟨h2,h1,h3⟩
  ·rintro ⟨h1,h2,h3⟩;exact ⟨_,_,⟨rfl,rfl⟩,h2,h1,h3⟩
theorem jER (g c b:Nat) (ds:List D):Ptr s (.bp g c b) ds=obK (s.o g) b λ_ cs=>Ptr.go s g b ((cs.drop c).take ds.length) c ds:=by
 rw [<-jE9]
 apply propext
 simp only [Ptr];constructor
 ·rintro ⟨ty,cs,h1,_,rfl,h3⟩;exact ⟨ty,cs,h1,h3⟩
 ·rintro ⟨ty,cs,h1,h3⟩;exact ⟨ty,cs,h1,_,rfl,h3⟩
theorem go_nil_ (g b c:Nat):Ptr.go s g b [] c []=True:=by simp [Ptr.go]
theorem go_a_ (g b c:Nat) (x:A0) (l:List Cell) (e:D) (ds:List D):Ptr.go s g b (.a x::l) c (e::ds)=(IsP x e/\Ptr.go s g b l (c+1) ds):=(rfl)
theorem isP_v (x:Value):IsP (.v x) (.val x)=True:=eq_true (.inl rfl)
theorem jFk (e e':D):IsP (.ro e) e'=(e'=e):=(rfl)
theorem juK (g c i:Nat) (p:List Nat) (η:jg) (e:D) (l:List D):jig g c p η i (e::l)=e.toOwn g c (p++[i]) η::jig g c p η (i+1) l:=(rfl)
def mkfK (s:St) (K:St->Prop) (d:Option Nat) (f:Nat):AV->Prop
 |.c a=>K (s.put d (.fn f [a]))
 |_=>False
theorem jFd (f:Nat) (a:A0):mkfK s K d f (.c a)=K (s.put d (.fn f [a])):=(rfl)
theorem jB2 (f:Nat) (x:X):vp P β ⟨d,gd,.mkf f [x]⟩ s K=mkfK s K d f (s.ev x):=by
 cases hx:s.ev x with
 |c a=>
  refine jBd (os:=[]) (av:=.fn f [a]) rfl λrt st av' os'=>?_
  simp [Gen,jcF,hx]
 |_=>
  apply propext
  refine ⟨λh=>?_,λh=>h.elim⟩
  have h':∃rt,∀st,∃av os,Gen P s (β+d.getD 0) rt st (.mkf f [x]) av os/\K ((s.addO os).put d av):=h;obtain ⟨rt,h1⟩:=h';obtain ⟨av,os,⟨l,h2,_⟩,_⟩:=h1 ⟨0,λ_ _=>undef⟩
  simp [jcF,hx] at h2
def clrA (s:St) (K:St->Prop) (size:Nat) (zs:List D):AV->Prop
 |.c (.v (.slice none 0 0))=>K s
 |.c (.hs g c p hx sz lo n)=>sz=size/\0<n/\jjb ((s.o g).own c) λd0 η=>η p=hx/\joU (D.get p d0) λdd=>dd.isSl=true/\dd.size=sz/\lo+n<=dd.len/\
  stH (ka (List.replicate n zs).flatten&&ka ((dd.cells.drop (lo*sz)).take (n*sz))) p (lo*sz) (n*sz) η λaH=>K (s.setO g ((s.o g).putOwn c (D.put p (lo*sz) (List.replicate n zs).flatten d0) aH))
 |_=>False
theorem jCb (size:Nat) (zs:List D) (x:X):vp P β ⟨none,gd,.clr size zs x⟩ s K=clrA s K size zs (s.ev x):=by
 apply propext
 show (none=none/\_)↔_;rw [eq_self,true_and];unfold clrA;split
 ·simp_all
 ·rename_i g c p hx sz lo n he
  simp only [he];cases ho:(s.o g).own c with
  |none=>simp [jjb]
  |some z=>
   obtain ⟨d0,η⟩:=z;simp only [jjb,Option.some.injEq,Prod.mk.injEq];constructor
   ·rintro ⟨a1,a2,_,_,dd,⟨rfl,rfl⟩,a3,a4,a5,a6,a7,a8⟩
    refine ⟨a1,a2,a3,?_⟩;rw [a4];exact ⟨a5,a6,a7,a8⟩
   ·rintro ⟨a1,a2,a3,a4⟩
    cases hg:D.get p d0 with
    |none=>rw [hg] at a4;exact a4.elim
    |some dd=>rw [hg] at a4;obtain ⟨a5,a6,a7,a8⟩:=a4;exact ⟨a1,a2,d0,η,dd,⟨rfl,rfl⟩,a3,hg,a5,a6,a7,a8⟩
 ·simp_all
theorem jDq (size:Nat) (zs:List D) (g c:Nat) (p:List Nat) (hx:Value) (sz lo n:Nat):clrA s K size zs (.c (.hs g c p hx sz lo n))=(sz=size/\0<n/\jjb ((s.o g).own c) λd0 η=>η p=hx/\joU (D.get p d0) λdd=>dd.isSl=true/\dd.size=sz/\lo+n<=dd.len/\
 stH (ka (List.replicate n zs).flatten&&ka ((dd.cells.drop (lo*sz)).take (n*sz))) p (lo*sz) (n*sz) η λaH=>K (s.setO g ((s.o g).putOwn c (D.put p (lo*sz) (List.replicate n zs).flatten d0) aH))):=rfl
theorem jtr (x:En):(jj x).length=4:=rfl
theorem qn {sh:List (List En)} {k:Nat} {l:List En} (h:sh[k]?=some l):D.get [k] (ke sh)=some (jf l):=by
 have e:sh.flatMap (λes=>[jf es])=sh.map jf:=by clear h;induction sh<;>simp_all
 simp [ke,D.get,e,h]
end
attribute [go_sem] jB2 jFd juK is_hp jER go_nil_ go_a_ isP_v jFk jCb jDq
def jbr:C:=iS [iA 2 (.mov (.c (.slice none 0 0)))] (iS [aM 3 0,iA 4 (.app 44 4 32 (.c (.slice none 0 0)) (.t 3)),aM 2 4] .ret)
theorem jdE:fnC Tryz.prog Tryz.f126=some (jbr,[.t 2],5):=by kernel_rfl
def jdW:C:=iS [iA 1 (.box 27 4 (.t 0)),iA 2 wAL] (iS [aF 8 0 1,aL 9 8,aF 10 1 1,aL 11 10,iA 12 (wAU [(0,1,.t 9),(1,1,.t 11)]),iA 3 wAL,wAA 3 12] (.seq (iS [aF 13 2 1,aL 14 13,aG 15 14,aN 16 0] (.blk 0 (.loop (iS [aP 17 .lss 3 16 15] (.seq (iD 17 .skip (.exit 0)) (.seq (.blk 1 (iS [aI 18 1 14 16,aL 19 18,aM 5 19] (.dreg (tA 0 20 (iF 2 3) (tA 1 21 (iL 20) (tA 2 22 (iM 5) (tC 23 (iK 126 [22]) [1,0] (tC 24 (.bsl 35 1 1 [some (4,44)] [(0,1,.t 23)]) [1,0] (tC 25 (.app 35 1 24 (.t 21) (.t 24)) [] (tA 6 26 (iF 2 3) (.alt (iC (.st 1 [some (1,35)] (.t 26) (.t 25))) [] .done .stop)) .stop) .stop) .stop))))))) (.reg [aQ 27 .add 3 16 1,aM 16 27]))))))) (.seq (iS [aF 28 3 1,aL 29 28,aG 30 29,aN 31 0] (.blk 2 (.loop (iS [aP 32 .lss 3 31 30] (.seq (iD 32 .skip (.exit 2)) (.seq (.blk 3 (iS [aI 33 8 29 31,aT 34 8 33,iA 7 wAM,wAC 7 34] (.dreg (tA 0 35 (iF 3 3) (tA 1 36 (iL 35) (tA 2 37 (iT 8 7) (tC 38 (iK 127 [37]) [1,0] (tC 39 (wA3 [(0,8,.t 38)]) [1,0] (tC 40 (wA9 36 39) [] (tA 6 41 (iF 3 3) (.alt (wAI 41 40) [] .done .stop)) .stop) .stop) .stop))))))) (.reg [aQ 42 .add 3 31 1,aM 31 42]))))))) (iS [aT 43 4 3,wAA 2 43] .ret))))
theorem jha:fnC Tryz.prog Tryz.f61=some (jdW,[.cell 2 true 4],44):=by kernel_rfl
def je2:C:=iS [iA 1 (.box 27 4 (.t 0)),iA 2 wAL] (iS [aF 6 0 1,aL 7 6,aF 8 1 1,aL 9 8,iA 10 (wAU [(0,1,.t 7),(1,1,.t 9)]),iA 3 wAL,wAA 3 10] (.seq (iS [aN 4 0] (.blk 0 (.loop (.seq (iS [aM 11 4,aF 12 2 1,aL 13 12,aG 14 13,aP 15 .lss 3 11 14] (iD 15 .skip (.exit 0))) (.seq (.blk 1 (.dreg (tA 0 18 (iF 2 3) (tA 1 19 (iL 18) (tA 3 21 (iF 2 1) (tA 4 22 (iL 21) (tA 5 23 (iM 4) (tA 6 24 (iI 1 22 23) (tA 7 25 (iL 24) (tC 20 (wAZ []) [7,6,5,4,3,1,0] (tC 26 (wA8 20 25) [1,0] (tC 27 (.bsl 35 1 1 [some (4,44)] [(0,1,.t 26)]) [1,0] (tC 28 (.app 35 1 24 (.t 19) (.t 27)) [] (tA 11 29 (iF 2 3) (.alt (iC (.st 1 [some (1,35)] (.t 29) (.t 28))) [] .done .stop)) .stop) .stop) .stop) .stop)))))))))) (.reg [aM 16 4,aQ 17 .add 3 16 1,aM 4 17])))))) (.seq (iS [aN 5 0] (.blk 2 (.loop (.seq (iS [aM 30 5,aF 31 3 1,aL 32 31,aG 33 32,aP 34 .lss 3 30 33] (iD 34 .skip (.exit 2))) (.seq (.blk 3 (.dreg (tA 0 37 (iF 3 3) (tA 1 38 (iL 37) (tA 2 39 (iF 3 1) (tA 3 40 (iL 39) (tA 4 41 (iM 5) (tA 5 42 (iI 8 40 41) (tA 6 43 (iT 8 42) (tC 44 (iK 133 [43]) [1,0] (tC 45 (wA3 [(0,8,.t 44)]) [1,0] (tC 46 (wA9 38 45) [] (tA 10 47 (iF 3 3) (.alt (wAI 47 46) [] .done .stop)) .stop) .stop) .stop)))))))))) (.reg [aM 35 5,aQ 36 .add 3 35 1,aM 5 36])))))) (iS [aT 48 4 3,wAA 2 48] .ret))))
theorem jir:fnC Tryz.prog Tryz.f67=some (je2,[.cell 2 true 4],49):=by kernel_rfl
abbrev jX (b ty:Nat) (now seq:Int) (sh:List (List En)) (e1:jg) (rn:List Rn) (e2:jg):Ob:=.box b ty [.a (.v (.int .i64 now)),.a (.v (.int .i64 seq)),.own (ke sh) e1,.own (jG rn) e2]
abbrev ZYd (b ty:Nat):Ob:=.box b ty [.a (.v (.int .i64 0)),.a (.v (.int .i64 0)),.a (.v (.slice none 0 0)),.a (.v (.slice none 0 0))]
theorem kE (l:List En):D.sl 4 tEn (l.flatMap jj)=jf l:=rfl
theorem jv2 (l:List (List En)) (x:List En):D.sl 1 jq4 (l.flatMap (λes=>[jf es])++[jf x])=ke (l++[x]):=by simp [ke]
theorem jnO (l:List Rn) (r:Rn):D.sl 8 tRn (l.flatMap jd++[.val (.int .i64 r.id),.val (.int .i64 r.aOF.aOL),.val (.int .i64 r.aOF.aOQ),.val (.int .i64 r.aOF.aOP),.val (.int .i64 r.aOF.aOD),jn r.aOF.aOI,.val (.int .i64 r.aOG),ju r.aOD])=jG (l++[r]):=by simp [jG,jd,je]
theorem jbL {y:Yd} (ht:jB y<=2000000) {l:List En} (h:l∈y.aOE):l.length<=4000000:=by
 obtain ⟨k,hk,rfl⟩:=aPY h;have h1:=aOV hk;have h2:=zp (tot:=zb) h1;have h3:=jaP zb y.aOE (k+1);simp only [jB,jbG,zb] at*;omega
theorem jde {y:Yd} (ht:jB y<=2000000) {r:Rn} (h:r∈y.aOH):r.aOF.aOI.length<=4000000/\r.aOD.length<=4000000:=by
 obtain ⟨k,hk,rfl⟩:=aPY h;have h1:=aOV hk;have h2:=zp (tot:=qH) h1;have h3:=jaP qH y.aOH (k+1);simp only [jB,jaQ,qH,jf9] at*;omega
theorem ki (l:List En) (hl:l.length<=4000000):jZ Tryz.prog 126 [.c (jf l)] (.c (jf l)):=by
 refine pf_ jdE ?_;unfold jbr;have h1:l.length<=maxLen:=vT;have h2:l.length*32<=140737488355328:=by omega
 simp only [go_sem,h1,h2,kE]
theorem kj (y:Yd) (ht:jB y<=2000000):jZ Tryz.prog 61 [.agg (jb y)] (.agg (jb y)):=by
 refine pf_ jha ?_;unfold jdW;have fH:y.aOE.length<=2000000:=by simp only [jB,jbG] at ht;omega
 have cH:=jh1 ht;simp only [go_sem,jb];intro b1 b2 b3;refine qP (λi:Nat×jg=>St.of [(1,Bx 100 b1),(2,Bx 200 b2),(3,Bx 300 b3),(14,Ro (ke y.aOE)),(15,Ni y.aOE.length),(16,Ni i.1)] [(100,Bi b1 _ (jb y)),(200,ZYd b2 _),(300,.box b3 _ [.a (.v (.int .i64 y.now)),.a (.v (.int .i64 y.seq)),.own (ke (y.aOE.take i.1)) i.2,.a (.v (.slice none 0 0))])]) (λi=>i.1<=y.aOE.length) (λi=>y.aOE.length-i.1) (0,jcb) (js [100,200,300] (by simp only [go_sem,jb,aQH]<;>trivial)) ?_
 rintro ⟨k,η⟩ hk;dsimp only at hk;by_cases aB:k<y.aOE.length
 ·have aA:(k:Int)<y.aOE.length:=by omega
  obtain ⟨l,hl⟩:=ja aB;have hw:=kw k;have dU:k+1<=maxLen:=vT;have eG:(k+1)*24<=140737488355328:=by omega
  have dV:(y.aOE.take k).length=k:=by rw [aOZ];omega
  have gJ:y.aOE.take (k+1)=y.aOE.take k++[l]:=by rw [aPE,hl];rfl
  generalize y.aOE.take k=M at*;simp only [go_sem,jb,aB,aA,kC hl];refine jk (ki l (jbL ht (aOT hl))) λη=>?_
  simp only [go_sem];simp only [go_sem,dV,dU,eG,jv2];intro bK mA;simp only [go_sem,hw];exact qc (k+1,mA) (js [100,200,300] (by simp only [go_sem,gJ]<;>trivial))
 have aA:¬(k:Int)<y.aOE.length:=by omega
 rw [aOW (by omega)]
 simp only [go_sem,jb,aA];refine qP (λi:Nat×jg=>St.of [(1,Bx 100 b1),(2,Bx 200 b2),(3,Bx 300 b3),(29,Ro (jG y.aOH)),(30,Ni y.aOH.length),(31,Ni i.1)] [(100,Bi b1 _ (jb y)),(200,ZYd b2 _),(300,jX b3 _ y.now y.seq y.aOE η (y.aOH.take i.1) i.2)]) (λi=>i.1<=y.aOH.length) (λi=>y.aOH.length-i.1) (0,jcb) (js [100,200,300] (by simp only [go_sem,jb,aQH]<;>trivial)) ?_
 rintro ⟨j,aS⟩ hj;dsimp only at hj;by_cases bJ:j<y.aOH.length
 ·have aX:(j:Int)<y.aOH.length:=by omega
  obtain ⟨r,hr⟩:=ja bJ;have hw:=kw j;have dU:j+1<=maxLen:=vT;have eG:(j+1)*96<=140737488355328:=by omega
  have oE:(y.aOH.take j).length=j:=by rw [aOZ];omega
  have yG:y.aOH.take (j+1)=y.aOH.take j++[r]:=by rw [aPE,hr];rfl
  have fQ:=jde ht (aOT hr);generalize y.aOH.take j=M at*;simp only [go_sem,jb,bJ,aX,jR hr,jd,je];intro b7;refine jk (jeR r fQ.1 fQ.2) λη=>?_
  simp only [go_sem,jd,je];simp only [go_sem,oE,dU,eG,jnO];intro bK mA;simp only [go_sem,hw];exact qc (j+1,mA) (js [100,200,300] (by simp only [go_sem,yG]<;>trivial))
 have aX:¬(j:Int)<y.aOH.length:=by omega
 rw [aOW (by omega)]
 simp only [go_sem,jb,aX]
theorem kp (y:Yd) (ht:jB y<=2000000):jZ Tryz.prog 67 [.agg (jb y)] (.agg (jb y)):=by
 refine pf_ jir ?_;unfold je2;have fH:y.aOE.length<=2000000:=by simp only [jB,jbG] at ht;omega
 have cH:=jh1 ht;simp only [go_sem,jb];intro b1 b2 b3;refine qP (λi:Nat×jg=>St.of [(1,Bx 100 b1),(2,Bx 200 b2),(3,Bx 300 b3),(4,Ni i.1)] [(100,Bi b1 _ (jb y)),(200,ZYd b2 _),(300,.box b3 _ [.a (.v (.int .i64 y.now)),.a (.v (.int .i64 y.seq)),.own (ke (y.aOE.take i.1)) i.2,.a (.v (.slice none 0 0))])]) (λi=>i.1<=y.aOE.length) (λi=>y.aOE.length-i.1) (0,jcb) (js [100,200,300] (by simp only [go_sem,jb,aQH]<;>trivial)) ?_
 rintro ⟨k,η⟩ hk;dsimp only at hk;by_cases aB:k<y.aOE.length
 ·have aA:(k:Int)<y.aOE.length:=by omega
  have bL:=qN k;obtain ⟨l,hl⟩:=ja aB;have eR:=jbL ht (aOT hl);have hw:=kw k;have dU:k+1<=maxLen:=vT;have eG:(k+1)*24<=140737488355328:=by omega
  have hm3:l.length<=maxLen:=vT;have hm4:l.length*32<=140737488355328:=by omega
  have dV:(y.aOE.take k).length=k:=by rw [aOZ];omega
  have gJ:y.aOE.take (k+1)=y.aOE.take k++[l]:=by rw [aPE,hl];rfl
  generalize y.aOE.take k=M at*;simp only [go_sem,jb,aB,aA,bL,kC hl,hm3,hm4,kE];intro bR wX;simp only [go_sem,dV,dU,eG,jv2];intro bK mA;simp only [go_sem,hw];exact qc (k+1,mA) (js [100,200,300] (by simp only [go_sem,gJ]<;>trivial))
 have aA:¬(k:Int)<y.aOE.length:=by omega
 rw [aOW (by omega)]
 simp only [go_sem,jb,aA];refine qP (λi:Nat×jg=>St.of [(1,Bx 100 b1),(2,Bx 200 b2),(3,Bx 300 b3),(5,Ni i.1)] [(100,Bi b1 _ (jb y)),(200,ZYd b2 _),(300,jX b3 _ y.now y.seq y.aOE η (y.aOH.take i.1) i.2)]) (λi=>i.1<=y.aOH.length) (λi=>y.aOH.length-i.1) (0,jcb) (js [100,200,300] (by simp only [go_sem,jb,aQH]<;>trivial)) ?_
 rintro ⟨j,aS⟩ hj;dsimp only at hj;by_cases bJ:j<y.aOH.length
 ·have aX:(j:Int)<y.aOH.length:=by omega
  have dK:=qN j;obtain ⟨r,hr⟩:=ja bJ;have hw:=kw j;have dU:j+1<=maxLen:=vT;have eG:(j+1)*96<=140737488355328:=by omega
  have oE:(y.aOH.take j).length=j:=by rw [aOZ];omega
  have yG:y.aOH.take (j+1)=y.aOH.take j++[r]:=by rw [aPE,hr];rfl
  have fQ:=jde ht (aOT hr);generalize y.aOH.take j=M at*;simp only [go_sem,jb,bJ,aX,dK,jR hr,jd,je];refine jk (vL r fQ.1 fQ.2) λη=>?_
  simp only [go_sem,jd,je];simp only [go_sem,oE,dU,eG,jnO];intro bK mA;simp only [go_sem,hw];exact qc (j+1,mA) (js [100,200,300] (by simp only [go_sem,yG]<;>trivial))
 have aX:¬(j:Int)<y.aOH.length:=by omega
 rw [aOW (by omega)]
 simp only [go_sem,jb,aX]
section
variable {P:Program} {s:St}
def jzh (s:St) (ds:List D) (d:D) (l:List A0):AV->Prop
 |.c a=>l.length=ds.length/\qC s (l++[a]) λcs _=>IsD cs (ds++[d])
 |_=>False
def jCq (s:St) (k:Nat) (ds:List D) (d:D) (b:AV):AV->Prop
 |.c (.bp g c bb)=>ldB (s.o g) g c bb k λl=>jzh s ds d l b
 |_=>False
theorem qa (n k m:Nat) (ds:List D) (d:D) (h:jCq s k ds d (s.t m) (s.t n)):jvs [.cell n true k,.t m] (.tup [(true,ds),(false,[d])]) s:=by
 unfold jCq at h;split at h
 ·rename_i g c bb he
  simp only [ldB] at h;split at h
  ·rename_i b ty cs ho
   obtain ⟨e1,e2,h⟩:=h;unfold jzh at h;split at h
   ·rename_i a ha
    obtain ⟨h1,h2⟩:=h;simp only [jvs,jjs,ha,he];refine ⟨_,⟨ty,cs,by rw [ho,e1],e2,rfl⟩,.inl trivial,?_⟩
    refine ⟨⟨by simp,by simp [h1]⟩,?_⟩
    simpa [RT.flat] using h2
   ·exact h.elim
  ·exact h.elim
 ·exact h.elim
theorem jEH (ds:List D) (d:D) (l:List A0) (a:A0):jzh s ds d l (.c a)=(l.length=ds.length/\qC s (l++[a]) λcs _=>IsD cs (ds++[d])):=(rfl)
theorem jEG (k g c bb:Nat) (ds:List D) (d:D) (b:AV):jCq s k ds d b (.c (.bp g c bb))=ldB (s.o g) g c bb k λl=>jzh s ds d l b:=(rfl)
end
attribute [go_sem] jEH jEG
theorem jrd {l:List Rn} {k j:Nat} {r:Rn} (h:l[k]?=some r) (hj:j<8):(l.flatMap jd)[k*8+j]?=(jd r)[j]?:=by
 rw [jbK (enc:=jd) h,aQF (by rw [jj7 (enc:=jd) (size:=8) (λ_=>rfl) h];omega),jj7 (enc:=jd) (size:=8) (λ_=>rfl) h,aQE,aRH (by exact hj)]
theorem jgJ {l:List Rn} {k:Nat} {r:Rn} (h:l[k]?=some r):D.get [k*8+5] (jG l)=some (jn r.aOF.aOI):=by
 have:=jrd (j:=5) h (by decide)
 simp [jG,D.get,this,jd,je]
theorem jY {l:List Rn} {k:Nat} {r:Rn} (h:l[k]?=some r):D.get [k*8+7] (jG l)=some (ju r.aOD):=by
 have:=jrd (j:=7) h (by decide)
 simp [jG,D.get,this,jd,je]
theorem vB {l:List Rn} {k:Nat} {r:Rn} (h:l[k]?=some r):D.get [k*8+1+1+1+1+1] (jG l)=some (jn r.aOF.aOI):=jgJ h
theorem vA {l:List Rn} {k:Nat} {r:Rn} (h:l[k]?=some r):D.get [k*8+1+1+1+1+1+1+1] (jG l)=some (ju r.aOD):=jY h
theorem jrl {l:List Rn} {k:Nat} (v:Rn) (hk:k<l.length):D.put [] (k*8) [.val (.int .i64 v.id),.val (.int .i64 v.aOF.aOL),.val (.int .i64 v.aOF.aOQ),.val (.int .i64 v.aOF.aOP),.val (.int .i64 v.aOF.aOD),jn v.aOF.aOI,.val (.int .i64 v.aOG),ju v.aOD] (jG l)=jG (l.set k v):=jun v hk
theorem qk {y:Yd} {id:Int} (h:¬runAt y id<0):∃(k:Nat) (r:Rn),runAt y id=k/\y.aOH[k]?=some r/\r.id=id/\y.aOH.length<=8:=by
 unfold runAt at h⊢;split at h
 ·omega
 ·rename_i h8
  rw [if_neg h8];rcases jkO y.aOH id with ⟨k,x,h1,h2,_,h4⟩|⟨_,h2⟩
  ·exact ⟨k,x,h4,h1,h2,by omega⟩
  ·rw [h2] at h;omega
theorem jlV {l:List Rn} {k:Nat} {x:Rn} (hx:l[k]?=some x):((l.flatMap jd).drop (k*8)).take 8=jd x:=qK (enc:=jd) (size:=8) (λ_=>rfl) hx (j:=0) (n:=8) (by decide)
theorem jgE {l:List Rn} {k:Nat} {x:Rn} (hx:l[k]?=some x):k*8+8<=(l.flatMap jd).length:=ve (enc:=jd) (size:=8) (λ_=>rfl) hx (j:=0) (n:=8) (by decide)
def jml (p:Pl) (t:Nat):Tk:=⟨if 0<(zK p t).length then 1 else 2,((zK p t).length:Int),0,0⟩
def zl (p:Pl) (k:Nat):List Tk:=(List.range k).map (jml p)
def jO (id:Int) (p:Pl):Rn:=⟨id,p,1,zl p p.aOD.toNat⟩
theorem jwW (p:Pl):zl p 0=[]:=rfl
theorem jwV (p:Pl) (k:Nat):zl p (k+1)=zl p k++[jml p k]:=by simp [zl,List.range_succ]
theorem jbR (p:Pl) (k:Nat):(zl p k).length=k:=by simp [zl]
theorem jga (l:List Tk) (a b c d:Int):D.sl 4 tTk (l.flatMap jz++[.val (.int .i64 a),.val (.int .i64 b),.val (.int .i64 c),.val (.int .i64 d)])=ju (l++[⟨a,b,c,d⟩]):=by simp [ju,jz]
def jhr:C:=iS [iA 3 (.box 49 5 (.t 1)),iA 4 wAM,aO 5 false] (.seq (iS [aM 9 0,iA 10 (.call 68 [.t 9,oI 1,oI 9999]),aU 11 10,aM 12 11,iB 13 12 false (iT 5 3),iB 14 12 false (iK 112 [13]),iB 15 12 false (iQ .neq 3 14 0),iA 16 (iY 12 (oT) (.t 15))] (iD 16 (iS [iA 17 (wAW []),wAC 4 17,aO 5 false] .ret) .skip)) (iS [aM 18 0,aT 19 5 3,iA 20 (iK 168 [19]),iA 21 (wAW [(0,1,.t 18),(1,5,.t 20),(6,1,oI 1)]),iA 6 wAM,wAC 6 21] (.seq (iS [aN 7 0] (.blk 0 (.loop (.seq (iS [aM 22 7,aF 23 3 3,aL 24 23,aP 25 .lss 3 22 24] (iD 25 .skip (.exit 0))) (.seq (.blk 1 (iS [aT 28 5 3,aM 29 7,iA 30 (iK 169 [28,29]),aG 31 30,iA 32 (wAT [(0,1,oI 2),(1,1,.t 31)]),iA 8 wAN,wAB 8 32] (.seq (iS [aF 33 1 8,aL 34 33,aQ 35 .gtr 3 34 0] (iD 35 (.reg [aF 36 0 8,iC (.st 1 [none] (.t 36) (oI 1))]) .skip)) (.reg [aF 37 7 6,aL 38 37,aT 39 4 8,iA 40 (wA6 [(0,4,.t 39)]),iA 41 (.app 46 4 32 (.t 38) (.t 40)),aF 42 7 6,wAJ 42 41])))) (.reg [aM 26 7,aQ 27 .add 3 26 1,aM 7 27])))))) (iS [aT 43 8 6,wAC 4 43,aO 5 true] .ret))))
theorem jjG:fnC Tryz.prog Tryz.f114=some (jhr,[.cell 4 true 8,.t 5],44):=by kernel_rfl
def jhH:C:=iS [iA 3 (.box 49 5 (.t 1)),iA 4 wAM,aO 5 false] (.seq (iS [aM 9 0,iA 10 (.call 62 [.t 9,oI 1,oI 9999]),aU 11 10,aM 12 11,iB 13 12 false (iT 5 3),iB 14 12 false (iK 109 [13]),iB 15 12 false (iQ .neq 3 14 0),iA 16 (iY 12 (oT) (.t 15))] (iD 16 (iS [iA 17 (wAW []),wAC 4 17,aO 5 false] .ret) .skip)) (iS [aM 18 0,aT 19 5 3,iA 20 (iK 163 [19]),iA 21 (wAW [(0,1,.t 18),(1,5,.t 20),(6,1,oI 1)]),iA 6 wAM,wAC 6 21] (.seq (iS [aN 7 0] (.blk 0 (.loop (.seq (iS [aM 22 7,aF 23 3 3,aL 24 23,aP 25 .lss 3 22 24] (iD 25 .skip (.exit 0))) (.seq (.blk 1 (iS [aT 28 5 3,aM 29 7,iA 30 (iK 164 [28,29]),aG 31 30,iA 32 (wAT [(0,1,oI 1),(1,1,.t 31)]),iA 8 wAN,wAB 8 32] (.seq (iS [aF 33 1 8,aL 34 33,aQ 35 .eql 3 34 0] (iD 35 (.reg [aF 36 0 8,iC (.st 1 [none] (.t 36) (oI 2))]) .skip)) (.reg [aF 37 7 6,aL 38 37,aT 39 4 8,iA 40 (wA6 [(0,4,.t 39)]),iA 41 (.app 46 4 32 (.t 38) (.t 40)),aF 42 7 6,wAJ 42 41])))) (.reg [aM 26 7,aQ 27 .add 3 26 1,aM 7 27])))))) (iS [aT 43 8 6,wAC 4 43,aO 5 true] .ret))))
theorem jjW:fnC Tryz.prog Tryz.f110=some (jhH,[.cell 4 true 8,.t 5],44):=by kernel_rfl
theorem jnZ (id:Int) (p:Pl) (hid:1<=id/\id<=9999) (hp:jm p=0):jZ Tryz.prog 114 [.c (.val (.int .i64 id)),.agg (je p)] (.tup [(true,jd (jO id p)),(false,[.val (.bool true)])]):=by
 refine pf_ jjG ?_;unfold jhr;obtain ⟨n,hn,eB,cC,dI,bU,aY,-⟩:=ja8 hp;have hi:decide (1<=id/\id<=9999)=true:=decide_eq_true hid;have tG:(jm p !=0)=false:=by simp [hp]
 simp only [go_sem,je];intro b3 b4;refine jk (jK id 1 9999) λη=>?_
 simp only [go_sem];simp only [go_sem,hi];refine jk (vS p) λη=>?_
 simp only [go_sem];simp only [go_sem,tG];refine jk (jeN p (by omega)) λbI=>?_
 simp only [go_sem,je];intro b6;refine qP (λi:Nat×jg=>St.of [(3,Bx 300 b3),(4,Bx 400 b4),(6,Bx 600 b6),(7,Ni i.1)] [(300,Bi b3 _ (je p)),(400,ZRn b4 tRn),(600,ja7 b6 tRn ⟨id,p,1,zl p i.1⟩ (bI 4) i.2)]) (λi=>i.1<=n) (λi=>n-i.1) (0,jcb) (js [300,400,600] (by simp only [go_sem,je,jwW]<;>trivial)) ?_
 rintro ⟨k,η⟩ hk;dsimp only at hk;by_cases aB:k<n
 ·have aA:(k:Int)<p.aOD:=by omega
  have hw:=kw k;have cE:=jwV p k;have iV:=jbR p k;generalize zl p k=M at*;have m1:M.length+1<=maxLen:=vT;have m2:(M.length+1)*32<=140737488355328:=by omega
  simp only [go_sem,je,aA];refine jk (jcz p k n hn cC dI) λη=>?_
  simp only [go_sem];generalize hL:(zK p k).length=L at*;intro b8;by_cases h0:0<L
  ·have eU:(0:Int)<(L:Int):=by omega
   have hT:jml p k=⟨1,(L:Int),0,0⟩:=by simp [jml,hL,h0]
   rw [hT] at cE;simp only [go_sem,je,jd,eU,m1,m2,jga,hw];intro rK i8;exact qc (k+1,i8) (js [300,400,600] (by simp only [go_sem,cE]<;>trivial))
  ·have eU:¬(0:Int)<(L:Int):=by omega
   have hT:jml p k=⟨2,(L:Int),0,0⟩:=by simp [jml,hL,h0]
   rw [hT] at cE;simp only [go_sem,je,jd,eU,m1,m2,jga,hw];intro rK i8;exact qc (k+1,i8) (js [300,400,600] (by simp only [go_sem,cE]<;>trivial))
 have aA:¬(k:Int)<p.aOD:=by omega
 obtain rfl:k=n:=by omega
 have hr:jO id p=⟨id,p,1,zl p k⟩:=by rw [jO,hn,aPB]
 rw [hr];generalize zl p k=M at*;simp only [go_sem,je,jd,aA]
 apply qa
 simp only [go_sem]
theorem jn9 (id:Int) (p:Pl) (hid:1<=id/\id<=9999) (hp:jm p=0):jZ Tryz.prog 110 [.c (.val (.int .i64 id)),.agg (je p)] (.tup [(true,jd (jO id p)),(false,[.val (.bool true)])]):=by
 refine pf_ jjW ?_;unfold jhH;obtain ⟨n,hn,eB,cC,dI,bU,aY,-⟩:=ja8 hp;have hi:decide (1<=id/\id<=9999)=true:=decide_eq_true hid;have tG:(jm p !=0)=false:=by simp [hp]
 simp only [go_sem,je];intro b3 b4;refine jk (jx id 1 9999) λη=>?_
 simp only [go_sem];simp only [go_sem,hi];refine jk (qw p (by omega)) λη=>?_
 simp only [go_sem];simp only [go_sem,tG];refine jk (jdk p (by omega)) λbI=>?_
 simp only [go_sem,je];intro b6;refine qP (λi:Nat×jg=>St.of [(3,Bx 300 b3),(4,Bx 400 b4),(6,Bx 600 b6),(7,Ni i.1)] [(300,Bi b3 _ (je p)),(400,ZRn b4 tRn),(600,ja7 b6 tRn ⟨id,p,1,zl p i.1⟩ (bI 4) i.2)]) (λi=>i.1<=n) (λi=>n-i.1) (0,jcb) (js [300,400,600] (by simp only [go_sem,je,jwW]<;>trivial)) ?_
 rintro ⟨k,η⟩ hk;dsimp only at hk;by_cases aB:k<n
 ·have aA:(k:Int)<p.aOD:=by omega
  have hw:=kw k;have cE:=jwV p k;have iV:=jbR p k;generalize zl p k=M at*;have m1:M.length+1<=maxLen:=vT;have m2:(M.length+1)*32<=140737488355328:=by omega
  simp only [go_sem,je,aA];refine jk (jdp p k hp) λη=>?_
  simp only [go_sem];generalize hL:(zK p k).length=L at*;intro b8;cases h0:((L:Int)==0)
  ·have eU:0<L:=by have:¬(L:Int)=0:=by simpa using h0
                   omega
   have hT:jml p k=⟨1,(L:Int),0,0⟩:=by simp [jml,hL,eU]
   rw [hT] at cE;simp only [go_sem,je,jd,m1,m2,jga,hw];intro rK i8;exact qc (k+1,i8) (js [300,400,600] (by simp only [go_sem,cE]<;>trivial))
  ·have eU:¬0<L:=by have:(L:Int)=0:=by simpa using h0
                    omega
   have hT:jml p k=⟨2,(L:Int),0,0⟩:=by simp [jml,hL,eU]
   rw [hT] at cE;simp only [go_sem,je,jd,m1,m2,jga,hw];intro rK i8;exact qc (k+1,i8) (js [300,400,600] (by simp only [go_sem,cE]<;>trivial))
 have aA:¬(k:Int)<p.aOD:=by omega
 obtain rfl:k=n:=by omega
 have hr:jO id p=⟨id,p,1,zl p k⟩:=by rw [jO,hn,aPB]
 rw [hr];generalize zl p k=M at*;simp only [go_sem,je,jd,aA]
 apply qa
 simp only [go_sem]
open Go.RowKit Go.Sort Go.Lib
theorem jec {P:Program} (w:World) (dT sT ty elem:TypeId) (k b o dLen dCap:Nat) (a:Addr) (sLen sCap:Nat) (cs:List Value)
 (hu:P.underlying dT=some (.slice elem)) (hs:(P.info? elem).map (·.size)=some k) (hn:cs.length=Nat.min sLen dLen*k)
 (lT:∀j v,cs[j]?=some v->w.cell? (a.add j)=some v) (hc:∀j,j<cs.length->(w.cell? ⟨b,o+j,none⟩).isSome=true) (hf:∀j,j<cs.length->w.frozen? ⟨b,o+j,none⟩=false) (h1:∀v∈cs,v.oneCell'=true):
 (Builtin.copy_ #[dT,sT] ty #[.slice (some ⟨b,o,none⟩) dLen dCap,.slice (some a) sLen sCap]).run P w=.ok (goInt (Nat.min sLen dLen)) (w.setCells b o cs):=by
 have hl:=run_loadCells_list (P:=P) w a cs lT;have aJ:=run_storeCells_cells (P:=P) b o cs 0 w (by simpa using hc) (by simpa using hf) h1
 cases hq:P.info? elem with
 |none=>simp [hq] at hs
 |some i=>
  have hi:i.size=k:=by simpa [hq] using hs
  simp [Builtin.copy_,run_underlying hu,Builtin.lenOf,Builtin.firstCells,sizeOf,typeInfo,hq,hi,<-hn,hl,aJ]
abbrev jC6:FuncId:=176
abbrev tEs:TypeId:=35
set_option maxRecDepth 100000 in
theorem jxe (b n c i vb vc:Nat) (cs vs:List Value) (w:World) (hi:i<n) (bE:n+1<=c) (yZ:c<=9223372036854775807) (p8:vb≠b)
 (dN:cs.length=n*4) (bO:vs.length=4)
 (fI:∀j v,cs[j]?=some v->w.cell? ⟨b,j,none⟩=some v) (gR:∀j,j<(n+1)*4->(w.cell? ⟨b,j,none⟩).isSome=true) (rF:∀j,j<(n+1)*4->w.frozen? ⟨b,j,none⟩=false)
 (mY:∀j v,vs[j]?=some v->w.cell? ⟨vb,j,none⟩=some v) (z7:∀v∈cs,v.oneCell'=true) (h1v:∀v∈vs,v.oneCell'=true)
 (tA tB:TypeId) (kA kB:Nat) (hsa:w.shape? vb=some (tA,kA)) (hsb:w.shape? b=some (tB,kB)) (hkB:kB≠0) (wQ:w.frozen? ⟨vb,0,none⟩=false) (yR:w.frozen? ⟨vb,kA,none⟩=false):
 Calls Tryz.prog jC6 #[.slice (some ⟨b,0,none⟩) n c,.int .i64 i,.slice (some ⟨vb,0,none⟩) 1 vc] w λe w'=>
  e=.returned (.slice (some ⟨b,0,none⟩) (n+1) c)/\w'=(w.drew.setCells b ((i+1)*4) (cs.drop (i*4))).setCells b (i*4) vs:=by
 have xA:¬((1:Int)=0):=by omega
 have hz2:¬((i:Int)=(n:Int)):=by omega
 have hov:∀lb cb,(callFunc 196 #[.slice (some ⟨vb,0,none⟩) 1 vc,.slice (some ⟨b,(i+1)*4,none⟩) lb cb]).run Tryz.prog w=.ok (.value (.bool false)) w:=λlb cb=>by
  rw [run_callFunc_extern Tryz.func196 (by kernel_rfl) (by kernel_rfl) (by kernel_rfl) (e:=Extern.SlicesOverlaps.overlaps #[tEs,tEs] #[4]) (by kernel_rfl),
   Lib.run_overlaps_apart w tEs 4 tEn slEn.1 4 Tryz.sizeOf44 ⟨vb,0,none⟩ ⟨b,(i+1)*4,none⟩ 1 vc lb cb p8 tA tB kA kB hsa hsb hkB wQ yR]
  rfl
 have hu:Tryz.prog.underlying tEs=some (.slice tEn):=slEn.1;have mixed:Tryz.prog.follows .mixedOrders=true:=by kernel_rfl
 have t105:=Tryz.underlying35;have a105:=Tryz.isAgg35;have z105:=Tryz.sizeOf35;have u3:=Tryz.underlying3;have a3:=Tryz.isAgg3;have z3:=Tryz.sizeOf3;have u4:=Tryz.underlying4;have z107:=Tryz.sizeOf44;have fV:(cs.drop (i*4)).length=(n-i)*4:=by rw [aPN,dN];omega
 have fK:IntKind.i64.wrap ((i:Int)+1)=(i:Int)+1:=by rw [IntKind.wrap_i64];omega
 have pZ:IntKind.i64.wrap ((n:Int)+1)=(n:Int)+1:=by rw [IntKind.wrap_i64];omega
 have aZ:(0:Int)<=(i:Int)+1:=by omega
 have tR:(0:Int)<=(n:Int)+1:=by omega
 have cJ:i<=n:=by omega
 have htn:((i:Int)+1).toNat=i+1:=by omega
 have aIV:((n:Int)+1).toNat=n+1:=by omega
 have bF:¬(c=i+1):=by omega
 have hb3:(i:Int)<=(n:Int)+1:=by omega
 have hb4:¬(c=i):=by omega
 have lD:¬((n:Int)+1>(c:Int)):=by omega
 have yW:∀ty dc sc,(Builtin.copy_ #[tEs,tEs] ty #[.slice (some ⟨b,(i+1)*4,none⟩) (n-i) dc,.slice (some ⟨b,i*4,none⟩) (n+1-i) sc]).run Tryz.prog w.drew=.ok (goInt (Nat.min (n+1-i) (n-i))) (w.drew.setCells b ((i+1)*4) (cs.drop (i*4))):=λty dc sc=>
  jec w.drew _ _ ty tEn 4 b ((i+1)*4) (n-i) dc ⟨b,i*4,none⟩ (n+1-i) sc (cs.drop (i*4)) hu jGd (by rw [fV];congr 1;simp only [Nat.min_def];split<;>omega)
   (λj v hj=>by rw [Addr.add_lit];exact fI (i*4+j) v (by rwa [aQU] at hj))
   (λj hj=>gR _ (by omega)) (λj hj=>rF _ (by omega)) (λv hv=>z7 v (aSA hv))
 obtain ⟨W1,l7⟩:∃W1,W1=w.drew.setCells b ((i+1)*4) (cs.drop (i*4)):=⟨_,rfl⟩
 have aCM:∀k,k<(n+1)*4->(W1.cell? ⟨b,k,none⟩).isSome=true:=λk hk=>by
  rw [l7];exact isSome_setCells b (cs.drop (i*4)) ((i+1)*4) w.drew (λj hj=>gR _ (by omega)) k (gR k hk)
 have aEA:∀(W:World),(∀x,W.cell? x=W1.cell? x)->(∀x,W.frozen? x=W1.frozen? x)->∀ty dc,(Builtin.copy_ #[tEs,tEs] ty #[.slice (some ⟨b,i*4,none⟩) (n+1-i) dc,.slice (some ⟨vb,0,none⟩) 1 vc]).run Tryz.prog W=.ok (goInt (Nat.min 1 (n+1-i))) (W.setCells b (i*4) vs):=λW tS y6 ty dc=>
  jec W _ _ ty tEn 4 b (i*4) (n+1-i) dc ⟨vb,0,none⟩ 1 vc vs hu jGd (by rw [bO];simp only [Nat.min_def];split<;>omega)
   (λj v hj=>by
    rw [Addr.add_lit,aQN,tS,l7,World.cell?_setCells_out b _ _ _ _ (λh _=>absurd h p8)]
    exact mY j v hj)
   (λj hj=>by rw [tS];exact aCM _ (by omega)) (λj hj=>by rw [y6,l7,World.frozen?_setCells];exact rF _ (by omega)) h1v
 rw [<-l7] at yW
 go_enter Tryz.func176,Tryz.ntmps176
 go_wp2_with (simp only [hov])
 go_region_law_o (refine step_copy_runI rfl _ _ tEs tEs rfl _ _ (by simp [Act.eval,Act.put]) (by simp [Act.eval,Act.put]) (yW _ _ _) ?_)
 go_wp2_with (at_builtin;refine wpList_copy_runI _ rfl _ _ tEs tEs rfl _ _ rfl rfl (aEA _ (λ_=>rfl) (λ_=>rfl) _ _) ?_)
 go_ret
 first|exact ⟨rfl,rfl⟩|exact ⟨rfl,by rw [l7]⟩
set_option maxRecDepth 100000 in
theorem jzO (b n c i vb vc:Nat) (cs vs:List Value) (w:World) (hi:i<n) (nB:n<=c) (bE:c<n+1) (gZ:(n+1)*32<=140737488355328)
 (dN:cs.length=n*4) (bO:vs.length=4)
 (fI:∀j v,cs[j]?=some v->w.cell? ⟨b,j,none⟩=some v) (mY:∀j v,vs[j]?=some v->w.cell? ⟨vb,j,none⟩=some v) (z7:∀v∈cs,v.oneCell'=true) (h1v:∀v∈vs,v.oneCell'=true):
 Calls Tryz.prog jC6 #[.slice (some ⟨b,0,none⟩) n c,.int .i64 i,.slice (some ⟨vb,0,none⟩) 1 vc] w λe w'=>∃(G:Nat) (ROW:Array Value),n+1<=G/\G<=maxLen/\ROW.size=G*4/\(∀j,j<i*4->ROW[j]?=cs[j]?)/\
  e=.returned (.slice (some ⟨w.heap.size,0,none⟩) (n+1) G)/\
  w'=(((w.alloc (.cells ROW tEn)).drew.setCells w.heap.size (i*4) vs).drew).setCells w.heap.size ((i+1)*4) (cs.drop (i*4)):=by
 have hu:Tryz.prog.underlying tEs=some (.slice tEn):=slEn.1;have mixed:Tryz.prog.follows .mixedOrders=true:=by kernel_rfl
 have t105:=Tryz.underlying35;have a105:=Tryz.isAgg35;have z105:=Tryz.sizeOf35;have u3:=Tryz.underlying3;have a3:=Tryz.isAgg3;have z3:=Tryz.sizeOf3;have u4:=Tryz.underlying4;have z107:=Tryz.sizeOf44;obtain ⟨i0,zv,tO,fX,oN,nM,w8⟩:=slEn.info;have xA:¬((1:Int)=0):=by omega
 have hz2:¬((i:Int)=(n:Int)):=by omega
 have hz3:(c:Int)<(n:Int)+1:=by omega
 have hbw:b<w.heap.size:=block_lt_of_cell (fI 0 _ (aOV (by omega)))
 have hvw:vb<w.heap.size:=block_lt_of_cell (mY 0 _ (aOV (by omega)))
 have hkk:(n:Int)+1-(i:Int)=((n+1-i:Nat):Int):=by omega
 have yI:i+(n+1-i)=n+1:=by omega
 have oY:(Builtin.firstCells i0.size i (.slice (some ⟨b,0,none⟩) i c)).run Tryz.prog w.drew=.ok (cs.take (i*4)).toArray w.drew:=by
  rw [nM]
  exact run_firstCells_some (w:=w.drew) 4 i ⟨b,0,none⟩ i c (cs.take (i*4)) (by rw [aOZ];omega) (λj v hj=>by
   rw [Addr.add_lit,aQN];rw [aQY] at hj;split at hj
   ·exact fI j v hj
   ·cases hj)
 have lA:∀ty,(Builtin.append_ #[tEs,3] ty #[.slice (some ⟨b,0,none⟩) i c,.int .i64 ((n:Int)+1-(i:Int))]).run Tryz.prog w=
  .ok (.slice (some ⟨w.heap.size,0,none⟩) (n+1) (grownCap w (n+1) c tEn)) (w.drew.alloc (.cells ((cs.take (i*4)).toArray++Builtin.zeroCells zv.cells (n+1-i)++Builtin.zeroCells zv.cells (grownCap w (n+1) c tEn-(n+1))) tEn)):=λty=>by
  have h:=Lib.run_append_grow_zeros w tEs 3 ty tEn i0 _ .i64 .i64 hu u3 tO fX (some ⟨b,0,none⟩) i c (cs.take (i*4)) oY (n+1-i) (by omega) (by omega) (by omega) (by omega) (by rw [w8];omega) (by rw [w8,yI];exact growslice_fits bE gZ)
  rw [yI] at h;rw [hkk];exact h
 obtain ⟨G,hG⟩:∃G,G=grownCap w (n+1) c tEn:=⟨_,rfl⟩;obtain ⟨ROW,sF⟩:∃ROW:Array Value,ROW=(cs.take (i*4)).toArray++Builtin.zeroCells zv.cells (n+1-i)++Builtin.zeroCells zv.cells (G-(n+1)):=⟨_,rfl⟩;rw [<-hG] at lA;rw [<-sF] at lA;have oM:zv.cells.size=4:=by rw [oN];rfl
 have hGn:n+1<=G:=by rw [hG];exact grownCap_ge w _ _ _
 have hGm:G<=maxLen:=by rw [hG];exact grownCap_le_maxLen w (n+1) c tEn (by unfold maxLen;omega)
 have hRs:ROW.size=G*4:=by
  rw [sF];simp [Builtin.zeroCells,oM];omega
 have hRt:∀j,j<i*4->ROW[j]?=cs[j]?:=λj hj=>by
  rw [sF,Array.append_assoc,Array.getElem?_append_left (by simp;omega)]
  simp [hj]
 have hRl:(n+1)*4<=ROW.size:=by rw [hRs];omega
 obtain ⟨W1,l7⟩:∃W1,W1=w.drew.alloc (.cells ROW tEn):=⟨_,rfl⟩;rw [<-l7] at lA
 have hN:∀j,j<(n+1)*4->(W1.cell? ⟨w.heap.size,j,none⟩).isSome=true:=λj hj=>by
  rw [l7,World.cell?_alloc_at (w:=w.drew) ROW _ w.heap.size j rfl,Array.getElem?_eq_getElem (by omega)];rfl
 have hNf:∀j,W1.frozen? ⟨w.heap.size,j,none⟩=false:=λj=>by rw [l7];exact World.frozen?_alloc_at (w:=w.drew) ROW _ w.heap.size j rfl
 have hOb:∀j v,w.cell? ⟨b,j,none⟩=some v->W1.cell? ⟨b,j,none⟩=some v:=λj v h=>by rw [l7,World.cell?_alloc_past (w:=w.drew) _ b j hbw];exact h
 have hOv:∀j v,w.cell? ⟨vb,j,none⟩=some v->W1.cell? ⟨vb,j,none⟩=some v:=λj v h=>by rw [l7,World.cell?_alloc_past (w:=w.drew) _ vb j hvw];exact h
 have aDZ:∀(W:World),(∀x,W.cell? x=W1.cell? x)->(∀x,W.frozen? x=W1.frozen? x)->∀ty dc,(Builtin.copy_ #[tEs,tEs] ty #[.slice (some ⟨w.heap.size,i*4,none⟩) (n+1-i) dc,.slice (some ⟨vb,0,none⟩) 1 vc]).run Tryz.prog W=.ok (goInt (Nat.min 1 (n+1-i))) (W.setCells w.heap.size (i*4) vs):=λW tS y6 ty dc=>
  jec W _ _ ty tEn 4 w.heap.size (i*4) (n+1-i) dc ⟨vb,0,none⟩ 1 vc vs hu jGd (by rw [bO];simp only [Nat.min_def];split<;>omega)
   (λj v hj=>by rw [Addr.add_lit,aQN,tS];exact hOv _ v (mY j v hj))
   (λj hj=>by rw [tS];exact hN _ (by omega)) (λj hj=>by rw [y6];exact hNf _) h1v
 have aLX:G<=9223372036854775807:=by
  unfold maxLen at hGm;omega
 have hGi:¬(G=i):=by omega
 have aLW:¬(G=i+1):=by omega
 have hci:¬(c=i):=by omega
 have hbN:b≠w.heap.size:=by omega
 have fV:(cs.drop (i*4)).length=(n-i)*4:=by rw [aPN,dN];omega
 have yV:∀(W:World),(∀x,W.cell? x=(W1.setCells w.heap.size (i*4) vs).cell? x)->(∀x,W.frozen? x=(W1.setCells w.heap.size (i*4) vs).frozen? x)->∀ty dc sc,(Builtin.copy_ #[tEs,tEs] ty #[.slice (some ⟨w.heap.size,(i+1)*4,none⟩) (n-i) dc,.slice (some ⟨b,i*4,none⟩) (n-i) sc]).run Tryz.prog W=.ok (goInt (Nat.min (n-i) (n-i))) (W.setCells w.heap.size ((i+1)*4) (cs.drop (i*4))):=λW tS y6 ty dc sc=>
  jec W _ _ ty tEn 4 w.heap.size ((i+1)*4) (n-i) dc ⟨b,i*4,none⟩ (n-i) sc (cs.drop (i*4)) hu jGd (by rw [fV];congr 1;simp only [Nat.min_def];split<;>omega)
   (λj v hj=>by
    rw [Addr.add_lit,tS,World.cell?_setCells_out _ _ _ _ _ (λh _=>absurd h hbN)]
    exact hOb _ v (fI (i*4+j) v (by rwa [aQU] at hj)))
   (λj hj=>by rw [tS];exact isSome_setCells w.heap.size vs (i*4) W1 (λt ht=>hN _ (by omega)) _ (hN _ (by omega)))
   (λj hj=>by rw [y6,World.frozen?_setCells];exact hNf _) (λv hv=>z7 v (aSA hv))
 subst l7;have hE1:∀x,((w.alloc (.cells ROW tEn)).drew).cell? x=(w.drew.alloc (.cells ROW tEn)).cell? x:=λx=>rfl
 have hE2:∀x,((w.alloc (.cells ROW tEn)).drew).frozen? x=(w.drew.alloc (.cells ROW tEn)).frozen? x:=λx=>rfl
 have lK:∀x,(((w.alloc (.cells ROW tEn)).drew.setCells w.heap.size (i*4) vs).drew).cell? x=((w.drew.alloc (.cells ROW tEn)).setCells w.heap.size (i*4) vs).cell? x:=λx=>rfl
 have hF2:∀x,(((w.alloc (.cells ROW tEn)).drew.setCells w.heap.size (i*4) vs).drew).frozen? x=((w.drew.alloc (.cells ROW tEn)).setCells w.heap.size (i*4) vs).frozen? x:=λx=>rfl
 have fK:IntKind.i64.wrap ((i:Int)+1)=(i:Int)+1:=by rw [IntKind.wrap_i64];omega
 have pZ:IntKind.i64.wrap ((n:Int)+1)=(n:Int)+1:=by rw [IntKind.wrap_i64];omega
 have gP:IntKind.i64.wrap ((n:Int)+1-(i:Int))=(n:Int)+1-(i:Int):=by rw [IntKind.wrap_i64];omega
 have aZ:(0:Int)<=(i:Int)+1:=by omega
 have cJ:i<=n:=by omega
 have htn:((i:Int)+1).toNat=i+1:=by omega
 have hb3:(i:Int)<=(n:Int):=by omega
 clear hkk yI oY sF hG hRl
 go_enter Tryz.func176,Tryz.ntmps176
 go_wp2_with (first
  |(at_builtin;refine Lib.wpList_append_run _ rfl _ _ _ _ rfl _ _ rfl rfl _ _ (lA _) ?_)
  |(at_builtin;refine wpList_copy_runI _ rfl _ _ tEs tEs rfl _ _ rfl rfl (aDZ _ hE1 hE2 _ _) ?_)
  |(at_builtin;refine wpList_copy_runI _ rfl _ _ tEs tEs rfl _ _ rfl rfl (yV _ (λ_=>rfl) (λ_=>rfl) _ _ _) ?_))
 go_region_law_o (refine step_copy_runI rfl _ _ tEs tEs rfl (.slice (some ⟨w.heap.size,(i+1)*4,none⟩) (n-i) (G-(i+1))) (.slice (some ⟨b,i*4,none⟩) (n-i) (c-i)) (by simp [Act.eval,Act.put]) (by simp [Act.eval,Act.put]) (yV _ lK hF2 3 (G-(i+1)) (c-i)) ?_)
 go_wp2
 go_ret
 exact ⟨G,ROW,hGn,hGm,hRs,hRt,rfl,rfl⟩
set_option maxRecDepth 100000 in
theorem jCX (A:Option Addr) (n c vb vc:Nat) (w:World) (v':Value) (w':World) (nB:n<=c) (yZ:c<=9223372036854775807) (hA:A=none->c=0) (nH:∀a,A=some a->∃b,a=⟨b,0,none⟩)
 (aW:(Builtin.append_ #[tEs,tEs] tEs #[.slice A n c,.slice (some ⟨vb,0,none⟩) 1 vc]).run Tryz.prog w=.ok v' w'):
 Calls Tryz.prog jC6 #[.slice A n c,.int .i64 n,.slice (some ⟨vb,0,none⟩) 1 vc] w λe w1=>e=.returned v'/\w1=w':=by
 have mixed:Tryz.prog.follows .mixedOrders=true:=by kernel_rfl
 have t105:=Tryz.underlying35;have a105:=Tryz.isAgg35;have z105:=Tryz.sizeOf35;have u3:=Tryz.underlying3;have a3:=Tryz.isAgg3;have z3:=Tryz.sizeOf3;have u4:=Tryz.underlying4;have z107:=Tryz.sizeOf44;have xA:¬((1:Int)=0):=by omega
 go_enter Tryz.func176,Tryz.ntmps176
 cases A with
 |none=>
  have h0:=hA rfl;subst h0;obtain rfl:n=0:=by omega
  go_wp2_with (at_builtin;refine Lib.wpList_append_run _ rfl _ _ _ _ rfl _ _ rfl rfl _ _ aW ?_)
  go_ret
  exact ⟨rfl,rfl⟩
 |some a=>
  obtain ⟨b,rfl⟩:=nH a rfl
  go_wp2_with (at_builtin;refine Lib.wpList_append_run _ rfl _ _ _ _ rfl _ _ rfl rfl _ _ aW ?_)
  all_goals (go_ret;exact ⟨rfl,rfl⟩)
def jm7 (l:List En) (i:Nat) (e:En):List En:=l.take i++e::l.drop i
def jM (l:List En):List Value:=l.flatMap λe=>[.int .i64 e.aOL,.int .i64 e.seq,.int .i64 e.run,.int .i64 e.aOK]
theorem zO (l:List En):(jM l).length=l.length*4:=by
 induction l with
 |nil=>rfl
 |cons a l ih=>simp only [jM,aPQ,aOU] at ih⊢;simp [ih];omega
theorem jnA {w:World} {own:Bool}:∀{l:List En} {vs:List Value} {S:List Nat},RepL w own (l.flatMap jj) vs S->vs=jM l/\S=[]
 |[],_,_,h=>by obtain ⟨rfl,rfl⟩:=h;exact ⟨rfl,rfl⟩
 |e::l,vs,S,h=>by
  rw [aPQ] at h;obtain ⟨v1,v2,S1,S2,rfl,rfl,h1,h2⟩:=RepL.append_inv _ h;obtain ⟨rfl,rfl⟩:=jco h1;obtain ⟨rfl,rfl⟩:=jnA h2;exact ⟨rfl,rfl⟩
theorem jq1 (w:World) (own:Bool):∀(l:List En),RepL w own (l.flatMap jj) (jM l) []
 |[]=>⟨rfl,rfl⟩
 |e::l=>by
  have:=RepL.append_ _ (jz8 w own e) (jq1 w own l);simpa [jM] using this
theorem jbE (l:List En):∀v∈jM l,v.oneCell'=true:=by
 intro v hv;obtain ⟨e,_,h⟩:=aRR.1 hv;simp at h;rcases h with rfl|rfl|rfl|rfl<;>rfl
theorem jq2 (l:List En) (i:Nat) (hi:i<=l.length):(jM l).take (i*4)=jM (l.take i)/\(jM l).drop (i*4)=jM (l.drop i):=by
 have e1:jM l=jM (l.take i)++jM (l.drop i):=by rw [jM,jM,jM,<-aQO,aQR]
 have h1:(jM (l.take i)).length=i*4:=by rw [zO,aOZ,aQL hi]
 rw [e1];exact ⟨List.take_left' h1,List.drop_left' h1⟩
theorem jtU (l:List En) (i:Nat) (e:En):jM (jm7 l i e)=jM (l.take i)++(jM [e]++jM (l.drop i)):=by
 simp [jm7,jM]
theorem jnI {w:World} {b:Nat} {cur:Array Value} {ty:TypeId} (h:w.heap[b]?=some (.cells cur ty (0,0))):w.shape? b=some (ty,cur.size)/\∀j,w.frozen? ⟨b,j,none⟩=false:=by
 refine ⟨by simp [World.shape?,h],λj=>by simp [World.frozen?,h]⟩
theorem joO {w:World} {b:Nat} {cur:Array Value} {ty:TypeId} (h:w.heap[b]?=some (.cells cur ty (0,0))) (j:Nat):w.cell? ⟨b,j,none⟩=cur[j]?:=by simp [World.cell?,h]
theorem jnE {α:Type} {us cs:List α} {k:Nat} (h:us.take k=cs) {j:Nat} {v:α} (hj:cs[j]?=some v):us[j]?=some v:=by
 rw [<-h,aQY] at hj;split at hj
 ·exact hj
 ·cases hj
theorem jAP {w:World} {b n cap:Nat} {us:List Value} {l:List En} (hb:w.heap[b]?=some (.cells us.toArray tEn (0,0))) (hn:n=l.length) (hc:n<=cap) (hm:cap<=maxLen) (hs:us.length=cap*4) (ht:us.take (n*4)=jM l):Rep w true (jf l) (.slice (some ⟨b,0,none⟩) n cap) [b]:=by
 subst hn;exact ⟨jM l,[b],[],⟨l.length,⟨zO l,.inr ⟨b,cap,us.toArray,rfl,aPP _,hb,hc,hm,by simpa using hs,by simpa using ht⟩⟩,rfl⟩,jq1 _ _ _,by simp⟩
theorem jCW (l:List En) (i:Nat) (e:En) (hi:i<=l.length) (hl:l.length<=4000000) {B:Nat} {w:World} {x x2:Value} {S1 S2:List Nat} (r1:Rep w true (jf l) x S1) (r2:Rep w true (jf [e]) x2 S2) (hF:Fresh B (S1++S2)) (hB:B<=w.heap.size):
 Calls Tryz.prog jC6 #[x,.int .i64 i,x2] w λen w'=>∃v S,en=.returned v/\Rep w' true (jf (jm7 l i e)) v S/\Fresh B S/\Only S1 w w'/\∀s∈S,s∈S1\/w.heap.size<=s:=by
 have r1':=r1;obtain ⟨vs1,T1,o1,h1,rfl⟩:=Rep.own (enc:=jj) jtr (by decide) r1
 obtain ⟨rfl,rfl⟩:=jnA h1;obtain ⟨vs2,T2,o2,h2,rfl⟩:=Rep.own (enc:=jj) jtr (by decide) r2
 obtain ⟨rfl,rfl⟩:=jnA h2;rcases o2.2 with ⟨_,hz⟩|⟨vb,vc,cv,rfl,_,hbv,gQ,n8,hv3,hv4⟩
 ·simp at hz
 simp only [aPI,aPU,aQN] at hv4⊢gQ
 have mY:∀j v,(jM [e])[j]?=some v->w.cell? ⟨vb,j,none⟩=some v:=λj v hj=>by
  rw [joO hbv,<-Array.getElem?_toList];exact jnE hv4 hj
 rcases Nat.lt_or_ge i l.length with aB|tP
 ·rcases o1.2 with ⟨_,hz⟩|⟨b,c,cu,rfl,_,sC,cT,cY,hc3,gB⟩
  ·omega
  have fI:∀j v,(jM l)[j]?=some v->w.cell? ⟨b,j,none⟩=some v:=λj v hj=>by
   rw [joO sC,<-Array.getElem?_toList];exact jnE gB hj
  have hbB:B<=b:=hF.2 b (by simp [blk])
  have aK:vb≠b:=λh=>by subst h;have:=hF.1;simp [blk] at this
  obtain ⟨t1,t2⟩:=jq2 l i hi;have fT:=jtU l i e;have aC:(jm7 l i e).length=l.length+1:=by simp [jm7];omega
  have hl4:=zO l;have hd4:(jM (l.drop i)).length=(l.length-i)*4:=by rw [zO,aPN]
  have ht4:(jM (l.take i)).length=i*4:=by rw [zO,aOZ,aQL hi]
  have he4:(jM [e]).length=4:=rfl;by_cases bE:l.length+1<=c
  ·obtain ⟨sv1,sv2⟩:=jnI hbv
   obtain ⟨sb1,sb2⟩:=jnI sC;have uS:cu.toList.length=c*4:=by simpa using hc3
   refine (jxe b l.length c i vb vc (jM l) (jM [e]) w aB bE (by unfold maxLen at cY;omega) aK (zO l) rfl fI (λj hj=>by rw [joO sC,Array.getElem?_eq_getElem (by omega)];rfl) (λj _=>sb2 j) mY (jbE l) (jbE [e]) _ _ _ _ sv1 sb1 (by omega) (sv2 0) (sv2 _)).mono ?_
   rintro en w' ⟨rfl,rfl⟩;have hcu:w.drew.heap[b]?=some (.cells cu.toList.toArray tEn (0,0)):=by rw [Array.toArray_toList];exact sC
   obtain ⟨q1,q2⟩:=qA ((jM l).drop (i*4)) w.drew b ((i+1)*4) cu.toList tEn hcu;obtain ⟨q3,q4⟩:=qA (jM [e]) _ b (i*4) _ tEn q1;have s1:=kK ((jM l).drop (i*4)) w.drew b ((i+1)*4);have s2:=kK (jM [e]) (w.drew.setCells b ((i+1)*4) ((jM l).drop (i*4))) b (i*4);refine ⟨_,[b],rfl,jAP q3 aC.symm bE cY ?_ ?_,Fresh.one _ _ hbB,⟨by rw [s2.1,s1.1];rfl,by rw [s2.2.1,s1.2.1];rfl,by rw [s2.2.2.1,s1.2.2.1];rfl,by rw [s2.2.2.2,s1.2.2.2];exact aPD _,λk hk hkn=>?_⟩,λs hs=>.inl (by simpa [blk] using hs)⟩
   ·rw [t2,kY _ _ _ (by rw [kY _ _ _ (by omega)];simp only [aOU,aOZ,aPN];omega),kY _ _ _ (by omega)]
    simp only [aOU,aOZ,aPN];omega
   ·rw [t2,kY (jM (l.drop i)) cu.toList _ (by omega)]
    have p1:cu.toList.take ((i+1)*4)=cu.toList.take (i*4)++(cu.toList.drop (i*4)).take 4:=by
     rw [show (i+1)*4=i*4+4 by omega,List.take_add]
    have p2:cu.toList.take (i*4)=jM (l.take i):=by
     rw [<-t1,<-gB,List.take_take,aQL (by omega)]
    have p3:((cu.toList.drop (i*4)).take 4).length=4:=by rw [aOZ,aPN];omega
    rw [p1,p2];generalize (cu.toList.drop (i*4)).take 4=X at p3;generalize cu.toList.drop ((i+1)*4+(jM (l.drop i)).length)=Y
    have hX0:kz X 0 (jM [e])=jM [e]:=by
     rw [kY _ _ _ (by omega),aQH,aQG,List.drop_eq_nil_of_le (by omega),aPR]
    have hA:jM (l.take i)++X++jM (l.drop i)++Y=jM (l.take i)++(X++(jM (l.drop i)++Y)):=by simp only [aPH]
    rw [hA,jph (j:=0) (by omega) (by omega),hX0,fT]
    have d8:jM (l.take i)++(jM [e]++(jM (l.drop i)++Y))=(jM (l.take i)++(jM [e]++jM (l.drop i)))++Y:=by simp only [aPH]
    rw [d8];exact List.take_left' (by simp only [aOU];omega)
   ·rw [q4 k (by simpa [blk] using hkn),q2 k (by simpa [blk] using hkn)];rfl
  ·refine (jzO b l.length c i vb vc (jM l) (jM [e]) w aB cT (by omega) (by omega) (zO l) rfl fI mY (jbE l) (jbE [e])).mono ?_
   rintro en w' ⟨G,ROW,g1,g2,g3,g4,rfl,rfl⟩;have cH:ROW.toList.length=G*4:=by simpa using g3
   have cB:((w.alloc (.cells ROW tEn)).drew).heap[w.heap.size]?=some (.cells ROW.toList.toArray tEn (0,0)):=by
    rw [Array.toArray_toList];exact heap_alloc_new w (.cells ROW tEn)
   obtain ⟨q1,q2⟩:=qA (jM [e]) ((w.alloc (.cells ROW tEn)).drew) w.heap.size (i*4) ROW.toList tEn cB;obtain ⟨q3,q4⟩:=qA ((jM l).drop (i*4)) (((w.alloc (.cells ROW tEn)).drew.setCells w.heap.size (i*4) (jM [e])).drew) w.heap.size ((i+1)*4) _ tEn q1;have s1:=kK (jM [e]) ((w.alloc (.cells ROW tEn)).drew) w.heap.size (i*4);have s2:=kK ((jM l).drop (i*4)) (((w.alloc (.cells ROW tEn)).drew.setCells w.heap.size (i*4) (jM [e])).drew) w.heap.size ((i+1)*4);have nZ:Below w.heap.size w (w.alloc (.cells ROW tEn)):=(Below.refl _ _).alloc (by simp) _
   refine ⟨_,[w.heap.size],rfl,jAP q3 aC.symm g1 g2 ?_ ?_,Fresh.one _ _ hB,⟨by rw [s2.1];exact s1.1.trans nZ.os,by rw [s2.2.1];exact s1.2.1.trans nZ.tape,by rw [s2.2.2.1];exact s1.2.2.1.trans nZ.output,?_,λk hk hkn=>?_⟩,λs hs=>.inr (by simp at hs;omega)⟩
   ·rw [t2,kY _ _ _ (by rw [kY _ _ _ (by omega)];simp only [aOU,aOZ,aPN];omega),kY _ _ _ (by omega)]
    simp only [aOU,aOZ,aPN];omega
   ·rw [t2,kY (jM [e]) ROW.toList _ (by omega)]
    have p2:ROW.toList.take (i*4)=jM (l.take i):=by
     rw [<-t1]
     apply aRB
     intro j;rw [aQY,aQY];split
     ·rename_i hj;rw [Array.getElem?_toList];exact g4 j hj
     ·rfl
    rw [p2];generalize hY:ROW.toList.drop (i*4+(jM [e]).length)=Y;have hYl:Y.length=G*4-(i*4+4):=by rw [<-hY,aPN,cH,he4]
    have hA:(jM (l.take i)++jM [e]++Y).take ((i+1)*4)=jM (l.take i)++jM [e]:=List.take_left' (by rw [aOU,ht4,he4];omega)
    rw [kY _ _ _ (by simp only [aOU];omega),hA,fT,<-aPH (jM (l.take i)) (jM [e])]
    exact List.take_left' (by simp only [aOU];omega)
   ·have h5:=nZ.size
    have h6:(w.alloc (.cells ROW tEn)).drew.heap.size=(w.alloc (.cells ROW tEn)).heap.size:=rfl;rw [s2.2.2.2];show _<=((w.alloc (.cells ROW tEn)).drew.setCells w.heap.size (i*4) (jM [e])).heap.size;rw [s1.2.2.2,h6];exact h5
   ·rw [q4 k (by omega)]
    show ((w.alloc (.cells ROW tEn)).drew.setCells w.heap.size (i*4) (jM [e])).heap[k]?=_;rw [q2 k (by omega)]
    exact nZ.block k hk
 ·obtain rfl:i=l.length:=by omega
  obtain ⟨i0,zv,tO,fX,oN,nM,w8⟩:=slEn.info;have hzo:vJ Tryz.prog tEn=some [.int .i64 0,.int .i64 0,.int .i64 0,.int .i64 0]:=by kernel_rfl
  have bH:Rep w true (.sl i0.size tEn (l.flatMap jj)) x (blk x++[]):=by rw [nM];exact r1'
  obtain ⟨v',w',S',k1,k2,k3,k4,k5⟩:=jns (P:=Tryz.prog) (B:=B) (ty:=tEs) (t:=tEs) (ys:=[e].flatMap jj) (c:=vc) (m:=1) slEn.1 tO hzo (by omega) bH (jq1 w true [e]) (by rw [nM];rfl) (A:=some ⟨vb,0,none⟩) (λh=>by cases h) (λad had j u hj=>by
   cases had;rw [Addr.add_lit,aQN];exact mY j u hj) (jbE [e]) (by simpa using hF.left) hB (by rw [nM,jD jtr,jD jtr];simp [maxLen];omega) (by rw [nM,w8,jD jtr,jD jtr];simp;omega)
  have cP:jm7 l l.length e=l++[e]:=by simp [jm7]
  rw [nM,<-aQO] at k2
  have key:∀(A:Option Addr) (n c:Nat),x=.slice A n c->n=l.length->n<=c->c<=maxLen->(A=none->c=0)->(∀a,A=some a->∃b,a=⟨b,0,none⟩)->Calls Tryz.prog jC6 #[x,.int .i64 l.length,.slice (some ⟨vb,0,none⟩) 1 vc] w λe w1=>e=.returned v'/\w1=w':=λA n c hx hn nB oJ hA nH=>by
   subst hx;subst hn;exact jCX A l.length c vb vc w v' w' nB (by unfold maxLen at oJ;omega) hA nH k1
  have hC:Calls Tryz.prog jC6 #[x,.int .i64 l.length,.slice (some ⟨vb,0,none⟩) 1 vc] w λe w1=>e=.returned v'/\w1=w':=by
   rcases o1.2 with ⟨rfl,h0⟩|⟨b,c,cu,rfl,_,sC,cT,cY,hc3,gB⟩
   ·exact key none 0 0 rfl h0.symm (aPD _) (aPP _) (λ_=>rfl) (λa h=>by cases h)
   ·exact key _ _ c rfl rfl cT cY (λh=>by cases h) (λa h=>by cases h;exact ⟨_,rfl⟩)
  refine hC.mono ?_;rintro en w1 ⟨rfl,rfl⟩;refine ⟨v',S',rfl,by rw [cP];exact k2,k3,k4,λs hs=>?_⟩
  rcases k5 s hs with h|h|h
  ·exact .inl h
  ·simp at h
  ·exact .inr h
theorem jj8 (l:List En) (i:Nat) (e:En) (hi:i<=l.length) (hl:l.length<=4000000) {o:Nat->Ob} {g g2:Nat} {η aS:jg} (ho:o g=.loose (jf l) η) (tH:o g2=.loose (jf [e]) aS) (aK:g2≠g):
 Turns Tryz.prog jC6 [.c (.h g 0 [] (η [])),.c (.v (.int .i64 i)),.c (.h g2 0 [] (aS []))] o (λrt o'=>rt=.c (jf (jm7 l i e))/\o'=λk=>if k=g2 then .none else if k=g then .none else o k):=
 ⟨⟨_,Tryz.func176,by kernel_rfl,by kernel_rfl⟩,λB w F xs hR lN=>by
   obtain ⟨x,xs1,rfl,⟨rfl,_⟩,_,xs2,rfl,rfl,x2,xs3,rfl,⟨rfl,_⟩,rfl⟩:=lN;have h1:=hR.ob g;have h2:=hR.ob g2;simp only at h1 h2;rw [ho] at h1;rw [tH] at h2;obtain ⟨_,u1,r1,e1⟩:=h1;obtain ⟨_,u2,r2,e2⟩:=h2;have q1:η []=u1:=e1 [];have q2:aS []=u2:=e2 [];rw [q1,q2];have hB:B<=w.heap.size:=aQJ hR.hB hR.below.size;have lK:=hR.fr g;have hF2:=hR.fr g2;have aB:∀k,∀b∈F k,b<w.heap.size:=λk b hb=>(hR.ob k).lt b hb
   have hF:Fresh B (F g++F g2):=⟨aPC.2 ⟨lK.1,hF2.1,λa ha b hb n4=>hR.dj g g2 (Ne.symm aK) a ha (n4▸hb)⟩,λb hb=>by
    rcases aOX.1 hb with hb|hb
    ·exact lK.2 b hb
    ·exact hF2.2 b hb⟩
   refine (jCW l i e hi hl r1 r2 hF hB).mono ?_;rintro en w' ⟨v,S,rfl,bH,fA,dL,hS⟩;have t1:=(hR.setO (g:=g) (ob:=.none) (S:=[]) rfl (Fresh.nil _) (by simp)).setO (g:=g2) (ob:=.none) (S:=[]) rfl (Fresh.nil _) (by simp)
   have t2:=t1.world' (dL.below (λs hs=>lK.2 s hs) hB) λk b hb=>by
    split at hb
    ·simp at hb
    ·split at hb
     ·simp at hb
     ·rename_i hk
      exact dL.block b (aB k b hb) λh=>hR.dj k g hk b hb h
   refine ⟨v,.c (jf (jm7 l i e)),_,S,_,rfl,t2,bH,fA,λk b hb=>?_,rfl,rfl⟩
   split
   ·simp
   ·split
    ·simp
    ·rename_i hk
     intro a9;rcases hS b hb with h|h
     ·exact hR.dj k g hk b a9 h
     ·have:=aB k b a9;omega⟩
section
variable {P:Program} {f:FuncId}
theorem jEO {v1 v2 v3 v4:View} {u:Value} (hn:jqT P f) (h:∀w a b c d,ViewRel w v1 a->ViewRel w v2 b->ViewRel w v3 c->ViewRel w v4 d->Calls P f #[a,b,c,d] w λe w'=>e=.returned u/\Below w.heap.size w w'):jZ P f [v1,v2,v3,v4] (.c (.val u)):=by
 refine ⟨hn,λw xs hv=>?_⟩
 obtain ⟨a,_,rfl,h1,b,_,rfl,h2,c,_,rfl,h3,d,_,rfl,h4,h5⟩:=hv;rw [show _=_ from h5]
 exact (h w a b c d h1 h2 h3 h4).mono λe w' ⟨he,hb⟩=>⟨u,[],he,⟨rfl,rfl⟩,Fresh.nil _,hb⟩
end
theorem jpH (y:Yd) (id aOK tri:Int):jZ Tryz.prog 200 [.agg (jb y),.c (.val (.int .i64 id)),.c (.val (.int .i64 aOK)),.c (.val (.int .i64 tri))] (.c (.val (.bool (vu y id aOK tri)))):=
 jEO ⟨_,Tryz.func200,by kernel_rfl,by kernel_rfl⟩ λw a b c d ⟨S,ha⟩ hb hc hd=>by rw [jbf hb,jbf hc,jbf hd];exact jy5 y id aOK tri a S w false ha
theorem jdn (y:Yd) (id aOK tri:Int):jZ Tryz.prog 53 [.agg (jb y),.c (.val (.int .i64 id)),.c (.val (.int .i64 aOK)),.c (.val (.int .i64 tri))] (.c (.val (.bool (vu y id aOK tri)))):=
 jEO ⟨_,Tryz.func53,by kernel_rfl,by kernel_rfl⟩ λw a b c d ⟨S,ha⟩ hb hc hd=>by rw [jbf hb,jbf hc,jbf hd];exact jzS y id aOK tri a S w false ha
open Classical in
noncomputable def jbt (y:Yd) (id aOK tri:Int):Int:=if jt y=false then 8 else if runAt y id<0 then 10 else if vu y id aOK tri=false then 11 else 0
def jhm:C:=iS [iA 4 (.box 27 4 (.t 0)),aN 8 0] (.seq (.blk 0 (iS [aT 10 4 4,iA 11 (iK 66 [10]),aU 12 11,aM 9 12] (iD 9 (iS [aN 8 8] .ret) (iS [aT 14 4 4,aM 15 1,iA 16 (iK 26 [14,15]),aQ 17 .lss 3 16 0,aM 13 17] (iD 13 (iS [aN 8 10] .ret) (iS [aT 19 4 4,aM 20 1,aM 21 2,aM 22 3,iA 23 (iK 200 [19,20,21,22]),aU 24 23,aM 18 24] (iD 18 (iS [aN 8 11] .ret) .skip))))))) (iS [aN 8 0] .ret))
theorem jjB:fnC Tryz.prog Tryz.f189=some (jhm,[.t 8],25):=by kernel_rfl
def jlN:C:=iS [iA 4 (.box 27 4 (.t 0)),aN 8 0] (.seq (.blk 0 (iS [aT 10 4 4,iA 11 (iK 18 [10]),aU 12 11,aM 9 12] (iD 9 (iS [aN 8 8] .ret) (iS [aT 14 4 4,aM 15 1,iA 16 (iK 25 [14,15]),aQ 17 .lss 3 16 0,aM 13 17] (iD 13 (iS [aN 8 10] .ret) (iS [aT 19 4 4,aM 20 1,aM 21 2,aM 22 3,iA 23 (iK 53 [19,20,21,22]),aU 24 23,aM 18 24] (iD 18 (iS [aN 8 11] .ret) .skip))))))) (iS [aN 8 0] .ret))
theorem jmr:fnC Tryz.prog Tryz.f122=some (jlN,[.t 8],25):=by kernel_rfl
theorem jgq (y:Yd) (id aOK tri:Int) (ht:jB y<=2000000):jZ Tryz.prog 189 [.agg (jb y),.c (.val (.int .i64 id)),.c (.val (.int .i64 aOK)),.c (.val (.int .i64 tri))] (.c (.val (.int .i64 (jbt y id aOK tri)))):=by
 refine pf_ jjB ?_;unfold jhm;simp only [go_sem,jb];intro b4;refine jk (qb y ht) λη=>?_
 simp only [go_sem];cases aR:jt y
 ·have hc:jbt y id aOK tri=8:=by simp [jbt,aR]
  simp only [go_sem,hc]
 simp only [go_sem];refine jk (qf y id) λη=>?_
 simp only [go_sem];by_cases aV:runAt y id<0
 ·have hc:jbt y id aOK tri=10:=by simp [jbt,aR,aV]
  simp only [go_sem,aV,hc]
 simp only [go_sem,aV];refine jk (jpH y id aOK tri) λη=>?_
 simp only [go_sem];cases hh:vu y id aOK tri
 ·have hc:jbt y id aOK tri=11:=by simp [jbt,aR,aV,hh]
  simp only [go_sem,hc]
 ·have hc:jbt y id aOK tri=0:=by simp [jbt,aR,aV,hh]
  simp only [go_sem,hc]
theorem jkX (y:Yd) (id aOK tri:Int) (ht:jB y<=2000000):jZ Tryz.prog 122 [.agg (jb y),.c (.val (.int .i64 id)),.c (.val (.int .i64 aOK)),.c (.val (.int .i64 tri))] (.c (.val (.int .i64 (jbt y id aOK tri)))):=by
 refine pf_ jmr ?_;unfold jlN;simp only [go_sem,jb];intro b4;refine jk (kn y ht) λη=>?_
 simp only [go_sem];cases aR:jt y
 ·have hc:jbt y id aOK tri=8:=by simp [jbt,aR]
  simp only [go_sem,hc]
 simp only [go_sem];refine jk (kQ y id) λη=>?_
 simp only [go_sem];by_cases aV:runAt y id<0
 ·have hc:jbt y id aOK tri=10:=by simp [jbt,aR,aV]
  simp only [go_sem,aV,hc]
 simp only [go_sem,aV];refine jk (jdn y id aOK tri) λη=>?_
 simp only [go_sem];cases hh:vu y id aOK tri
 ·have hc:jbt y id aOK tri=11:=by simp [jbt,aR,aV,hh]
  simp only [go_sem,hc]
 ·have hc:jbt y id aOK tri=0:=by simp [jbt,aR,aV,hh]
  simp only [go_sem,hc]
theorem jmx {y:Yd} {id aOK tri:Int} (h:jbt y id aOK tri=0):YardOkP y/\¬runAt y id<0:=by
 unfold jbt at h;split at h
 ·cases h
 split at h
 ·cases h
 rename_i h1 h2;exact ⟨yard_iff.1 (by simpa using h1),h2⟩
