/- Parts. -/
import Derived.Test.YtmnpailnelmpiaaQRunD
import Derived.Test.YtmnpailnelmpiaaRows
import Derived.ProofKit
import Derived.Deep.Slices
import Derived.ChangeSame
import Derived.Deep.RegionWith
import Derived.Shelf.Spec.SlicesInsertGrow
import Derived.Lib.Overlaps
set_option linter.unusedSimpArgs false
set_option linter.unusedVariables false
set_option maxHeartbeats 2000000
namespace Go.Proofs.Ytmnpailnelmpiaa
open Go.RowKit Go.Sort
section
variable {P:Program} {B:Nat} {w w0:World} {F:Nat→List Nat} {o:Nat→Ob}
variable {s:St} {K:St→Prop} {β:Nat} {gd:Option (Nat×Bool)} {d:Option Nat}
theorem is_hp (g c q:Nat) (p:List Nat) (x:Value) (dd:D):Is s (.h g c (q::p) x) dd=jix ((s.o g).own c) fun d0 η=>D.get (q::p) d0=some dd∧η (q::p)=x∧dd.isSl=true:=by
 apply propext
 simp only [Is];cases (s.o g).own c with
 |none=>simp [jix]
 |some z=>
  obtain ⟨d0,η⟩:=z;simp only [jix,Option.some.injEq,Prod.mk.injEq];constructor
  ·rintro ⟨_,_,⟨rfl,rfl⟩,h1,h2,h3⟩;exact ⟨h2,h1,h3⟩
  ·rintro ⟨h1,h2,h3⟩;exact ⟨_,_,⟨rfl,rfl⟩,h2,h1,h3⟩
theorem jpN (g c i:Nat) (p:List Nat) (η:jm) (e:D) (l:List D):jeW g c p η i (e::l)=e.toOwn g c (p++[i]) η::jeW g c p η (i+1) l:=(rfl)
theorem qL {sh:List (List En)} {k:Nat} {l:List En} (h:sh[k]?=some l):D.get [k] (kL sh)=some (jv l):=by
 have e:sh.flatMap (fun es=>[jv es])=sh.map jv:=by clear h;induction sh<;>simp_all
 simp [kL,D.get,e,h,jay]
end
attribute [go_sem] jpN is_hp
theorem jmE {y:Yd} (h:jS y≤2000000):y.runs.length≤2000000:=by
 simp only [jS,jfJ] at h;omega
theorem jt7 {y:Yd} (h:jS y≤2000000):y.shelf.length≤2000000:=by
 simp only [jS,jeJ] at h;omega
theorem flat_le (l:List (List En)):l.flatten.length≤jeJ l:=by
 induction l with
 |nil=>simp
 |cons x l ih=>
  simp only [List.flatten_cons,List.length_append,jeJ,List.length_cons,qE,List.map_cons,List.sum_cons,jaG] at ih⊢;omega
theorem jlQ {l:List (List En)} {k:Nat} {x:List En} (h:l[k]?=some x):(l.take (k+1)).flatten=(l.take k).flatten++x:=by
 rw [List.take_add_one,h];simp
theorem jfX (l:List (List En)) (k:Nat):(l.take k).flatten.length≤l.flatten.length:=by
 have h:l.flatten=(l.take k).flatten++(l.drop k).flatten:=by rw [←List.flatten_append,List.take_append_drop]
 rw [h,List.length_append];omega
theorem zO {y:Yd} (h:jS y≤2000000):y.shelf.flatten.length≤2000000:=by
 have:=flat_le y.shelf;simp only [jS] at h;omega
theorem jng {α:Type} {f:α→Bool} {l:List α} {k:Nat} {x:α} (h:l[k]?=some x):(l.take (k+1)).filter f=if f x=true then (l.take k).filter f++[x] else (l.take k).filter f:=by
 rw [List.take_add_one,h];cases hx:f x<;>simp [List.filter_append,hx]
open Go.RowKit
theorem iEnS:(Try.prog.info? jyd).map (fun i=>(i.zero,i.size,i.bytes))=some (some (.slice none 0 0),1,24):=by kernel_rfl
theorem slEnS:SlT Try.prog tSh jyd 1 24 [.slice none 0 0]:=⟨by kernel_rfl,jxF iEnS,rfl,by decide⟩
theorem jp5:∀(y:List En),∀d∈[jv y],d.one:=by intro y d hd;simp at hd;subst hd;trivial
open Go.RowKit Go.Sort Go.BigFrame
theorem zr (y:Yd) (id:Int) (a:Value) (S:List Nat) (w:World) (own:Bool) (ha:AggRep w own (jc y) a S):
 Calls Try.prog 82 #[a,.int .i64 id] w fun e w'=>e=.returned (.int .i64 (runAt y id))∧Below w.heap.size w w':=by
 obtain ⟨_,rfl,ha⟩:=ha;obtain ⟨sv,rv,S1,S2,rfl,ah0,ah1,rfl⟩:=jag ha;clear ha ah0;obtain ⟨A,c,rfl,hc1,hc2,hca⟩:=Rep.open_ (size:=8) (enc:=jd) (fun _=>rfl) (by decide) ah1
 unfold maxLen at hc2;have hl1:y.runs.length≤9223372036854775807:=by omega
 by_cases h8:8<y.runs.length
 ·clear hca
  have hr:runAt y id=-1:=by simp [runAt,h8]
  rw [hr];clear hr
  go_enter Try.func82,Try.ntmps82
  go_wp2
  go_loop [5] (fun i=>i=.int .i64 0) (fun _=>0)
  case atStart=>rfl
  case round=>
   subst hrel
   go_wp2
   all_goals go_ret
   all_goals exact ⟨rfl,(Below.refl _ _).alloc (by simp) _⟩
 ·have hr:runAt y id=jeN y.runs id:=by simp [runAt,h8]
  rw [hr];clear hr
  go_enter Try.func82,Try.ntmps82
  go_wp2
  go_loop [5] (fun i=>∃k:Nat,k≤y.runs.length∧i=.int .i64 k∧∀j,j<k→∀z,y.runs[j]?=some z→z.id≠id) (fun i=>y.runs.length-(intOf i).toNat)
  case atStart=>exact ⟨0,by omega,rfl,by simp⟩
  case round=>
   obtain ⟨k,hk,rfl,hno⟩:=hrel;have HN:=Lib.hid hno;clear hno;by_cases hlt:k<y.runs.length
   ·obtain ⟨x,hx⟩:=je hlt
    obtain ⟨b1,o1,vk1,T1,rfl,-,hr1,-,-,hb1,hx1⟩:=hca k x hx;clear hca;obtain ⟨v0,v1,U0,U1,rfl,-,-,-⟩:=jao hr1;have HX:=Lib.hid hx;clear hx;have p0:w.cell? ⟨b1,o1+k*8,none⟩=some (.int .i64 x.id):=hx1 0 _ rfl;clear hx1 hr1;by_cases he:x.id=id
    ·have hb:(x.id==id)=true:=by simpa using he
     have HE:=Lib.hid he;clear he
     go_wp2
     go_ret
     exact ⟨jhd (jan HX.out HE.out HN.out).symm,(Below.refl _ _).alloc (by simp) _⟩
    ·have hb:(x.id==id)=false:=by simpa using he
     have HE:=Lib.hid he;clear he
     go_wp2
     go_round
     case rel=>
      refine ⟨k+1,by omega,by go_num,fun j hj z hz=>?_⟩
      by_cases hjk:j=k
      ·subst hjk
       have:=HX.out;rw [hz] at this;cases this;exact HE.out
      ·exact HN.out j (by omega) z hz
     case measure=>simp [intOf];omega
   ·obtain rfl:k=y.runs.length:=by omega
    clear hca
    go_wp2
    go_ret
    exact ⟨jhd (jeM HN.out).symm,(Below.refl _ _).alloc (by simp) _⟩
theorem jlH (x:Rn) (id:Int) (a:Value) (S:List Nat) (g:Nat) (w:World) (own:Bool) (ha:AggRep w own (jd x) a S) (hg:w.cell? ⟨g,0,none⟩=some (.int .i64 id)):
 Calls Try.prog 121 #[a,.pointer (some ⟨g,0,none⟩)] w fun e w'=>e=.returned (.bool (x.id==id))∧Below w.heap.size w w':=by
 obtain ⟨_,rfl,ha⟩:=ha;obtain ⟨v0,v1,U0,U1,rfl,-,-,-⟩:=jao ha;clear ha;have hlt:=World.block_lt_of_cell? w _ hg
 go_enter Try.func121,Try.ntmps121
 go_wp2
 go_ret
 exact ⟨rfl,(Below.refl _ _).alloc (by simp) _⟩
theorem jnb (rs:List Rn) (id:Int) (a:Value) (S:List Nat) (g:Nat) (w:World) (own:Bool) (ha:Rep w own (jN rs) a S) (hg:w.cell? ⟨g,0,none⟩=some (.int .i64 id)):
 Calls Try.prog 120 #[a,.func (.func 121) #[] #[.pointer (some ⟨g,0,none⟩)]] w fun e w'=>e=.returned (.int .i64 (jeN rs id))∧Below w.heap.size w w':=by
 obtain ⟨A,c,rfl,hc1,hc2,hca⟩:=Rep.open_ (size:=8) (enc:=jd) (fun _=>rfl) (by decide) ha
 unfold maxLen at hc2;have hl1:rs.length≤9223372036854775807:=by omega
 have hglt:=World.block_lt_of_cell? w _ hg;clear ha
 go_enter Try.func120,Try.ntmps120
 go_wp2
 go_loopw [5,8] (fun _ i wr=>∃k:Nat,k≤rs.length∧i=.int .i64 k∧(∀j,j<k→∀z,rs[j]?=some z→z.id≠id)∧Below w.heap.size w wr) (fun _ i _=>rs.length-(intOf i).toNat)
 case atStart=>exact ⟨0,by omega,rfl,by simp,Below.refl _ _⟩
 case round=>
  obtain ⟨k,hk,rfl,hno,hbel⟩:=hrel;have HN:=Lib.hid hno;clear hno;have hgr:wr.cell? ⟨g,0,none⟩=some (.int .i64 id):=(hbel.cell (p:=⟨g,0,none⟩) hglt).trans hg;by_cases hlt:k<rs.length
  ·obtain ⟨x,hx⟩:=je hlt
   obtain ⟨b1,o1,vk1,T1,rfl,-,hr1,-,-,hb1,hx1⟩:=hca k x hx;clear hca;obtain ⟨v0,v1,U0,U1,rfl,-,-,-⟩:=jao hr1;have HX:=Lib.hid hx;clear hx;have p0:=(hbel.cell (p:=⟨b1,o1+k*8,none⟩) hb1).trans (hx1 0 _ rfl:w.cell? ⟨b1,o1+k*8,none⟩=_);have p1:=(hbel.cell (p:=⟨b1,o1+k*8+1,none⟩) hb1).trans (hx1 1 _ rfl);have p2:=(hbel.cell (p:=⟨b1,o1+k*8+2,none⟩) hb1).trans (hx1 2 _ rfl);have p3:=(hbel.cell (p:=⟨b1,o1+k*8+3,none⟩) hb1).trans (hx1 3 _ rfl);have p4:=(hbel.cell (p:=⟨b1,o1+k*8+4,none⟩) hb1).trans (hx1 4 _ rfl);have p5:=(hbel.cell (p:=⟨b1,o1+k*8+5,none⟩) hb1).trans (hx1 5 _ rfl);have p6:=(hbel.cell (p:=⟨b1,o1+k*8+6,none⟩) hb1).trans (hx1 6 _ rfl);have p7:=(hbel.cell (p:=⟨b1,o1+k*8+7,none⟩) hb1).trans (hx1 7 _ rfl);clear hx1;by_cases he:x.id=id
   ·have hb:(x.id==id)=true:=by simpa using he
    have HE:=Lib.hid he;clear he
    go_wp2_with (go_at_call 121;refine (jlH x id _ _ _ _ own ⟨_,rfl,hr1.below hbel (Nat.le_refl _)⟩ hgr).mono ?_;rintro e w2 ⟨rfl,hb2⟩)
    go_ret
    exact ⟨jhd (jan HX.out HE.out HN.out).symm,kA hbel hb2⟩
   ·have hb:(x.id==id)=false:=by simpa using he
    have HE:=Lib.hid he;clear he
    go_wp2_with (go_at_call 121;refine (jlH x id _ _ _ _ own ⟨_,rfl,hr1.below hbel (Nat.le_refl _)⟩ hgr).mono ?_;rintro e w2 ⟨rfl,hb2⟩)
    go_roundw
    case rel=>
     refine ⟨k+1,by omega,by go_num,fun j hj z hz=>?_,kA hbel hb2⟩
     by_cases hjk:j=k
     ·subst hjk
      have:=HX.out;rw [hz] at this;cases this;exact HE.out
     ·exact HN.out j (by omega) z hz
    case measure=>simp [intOf];omega
  ·obtain rfl:k=rs.length:=by omega
   clear hca
   go_wp2
   go_ret
   exact ⟨jhd (jeM HN.out).symm,hbel⟩
theorem jkj (y:Yd) (id:Int) (a:Value) (S:List Nat) (w:World) (own:Bool) (ha:AggRep w own (jc y) a S):
 Calls Try.prog 90 #[a,.int .i64 id] w fun e w'=>e=.returned (.int .i64 (runAt y id))∧Below w.heap.size w w':=by
 obtain ⟨_,rfl,ha⟩:=ha;obtain ⟨sv,rv,S1,S2,rfl,ah0,ah1,rfl⟩:=jag ha;clear ha ah0;obtain ⟨A,c,rfl,hc1,hc2,hca⟩:=Rep.open_ (size:=8) (enc:=jd) (fun _=>rfl) (by decide) ah1
 unfold maxLen at hc2;have hl1:y.runs.length≤9223372036854775807:=by omega
 clear hca;by_cases h8:8<y.runs.length
 ·have hr:runAt y id=-1:=by simp [runAt,h8]
  rw [hr];clear hr
  go_enter Try.func90,Try.ntmps90
  go_wp2
  go_ret
  exact ⟨rfl,((Below.refl _ _).alloc (by simp) _).alloc (by simp) _⟩
 ·have hr:runAt y id=jeN y.runs id:=by simp [runAt,h8]
  rw [hr];clear hr
  go_enter Try.func90,Try.ntmps90
  go_wp2_with (go_at_call 120;refine (jnb y.runs id _ _ _ _ own (ah1.below (((Below.refl _ _).alloc (by simp) _).alloc (by simp) _) (Nat.le_refl _)) (by simp [go_sem])).mono ?_;rintro e w2 ⟨rfl,hb2⟩)
  go_ret
  exact ⟨rfl,kA (((Below.refl _ _).alloc (by simp) _).alloc (by simp) _) hb2⟩
open Go.RowKit Go.Sort Go.BigFrame
open Go.RowKit Go.Sort Go.BigFrame
open Go.RowKit Go.Sort Go.BigFrame
open Go.RowKit Go.ChangeShapes Go.WideShapes Go.Deep Go.ChangeAt
def inR (n:Int):Prop:=-9223372036854775808≤n∧n≤9223372036854775807
def ReadsAs (P:Program) (t:TypeId) {α:Type} (E:α→List D) (W:α→Prop):Prop:=
 ∀(H:Type) (enc:TypeId×Value→H) (w:World) (base:Nat) (spare:Nat→Bool) (held:Bool) (n:Nat) (cs:List Value) (y:DataW H×List MemPlace),
  DataW.trod enc P w base spare held n t cs=some y→∃x,W x∧∃S,RepL w false (E x) cs S
section
variable {P:Program} {t e:TypeId} {α β:Type} {E:α→List D} {E':β→List D} {W:α→Prop} {W':β→Prop}
theorem ReadsAs.map (h:ReadsAs P t E W) (g:α→β) (hE:∀a,E' (g a)=E a) (hW:∀a,W a→W' (g a)):ReadsAs P t E' W':=by
 intro H enc w base spare held n cs y hy;obtain ⟨x,hx,S,hr⟩:=h H enc w base spare held n cs y hy;exact ⟨g x,hW x hx,S,by rw [hE];exact hr⟩
theorem js4 {w:World} {a:Addr} {v:Value} (h:w.cell? a=some v):a=⟨a.block,a.off,none⟩:=by
 obtain ⟨b,o,s⟩:=a;cases s with
 |none=>rfl
 |some s=>simp only [World.cell?] at h;split at h<;>simp at h
theorem jum {size:Nat} {ty:TypeId} (ht:P.underlying t=some (.slice e)) (h:ReadsAs P e E W) (hc:P.cellsOf e=size) (hl:∀x,(E x).length=size) (_hs:0<size):
 ReadsAs P t (fun xs:List α=>[.sl size ty (xs.flatMap E)]) (fun xs=>∀x∈xs,W x):=by
 intro H enc w base spare held n cs y hy;rcases open_slice ht hy with ⟨rfl,_⟩|⟨a,len,cap,m,n',D',Pl,rfl,hb,hlc,hcm,hm,_,hi⟩
 ·have hrep:Rep w false (.sl size ty (List.flatMap E [])) (.slice none 0 0) []:=⟨[],[],[],⟨by simp,none,0,0,rfl,by simp,Nat.le_refl _,Nat.zero_le _,fun _=>rfl,by simp⟩,RepL.nil_,rfl⟩
  exact ⟨[],by simp,[],RepL.cons_ hrep RepL.nil_⟩
 ·have hlm:len≤m:=by rw [hm];split<;>omega
  have key:∀k,k≤len→∃(xs:List α) (vs:List Value) (S:List Nat),xs.length=k∧(∀x∈xs,W x)∧RepL w false (xs.flatMap E) vs S∧∀j u,vs[j]?=some u→w.cell? (a.add j)=some u:=by
   intro k
   induction k with
   |zero=>exact fun _=>⟨[],[],[],rfl,by simp,RepL.nil_,by simp⟩
   |succ k ih=>
    intro hk;obtain ⟨xs,vs,S,hxl,hW,hr,hcell⟩:=ih (by omega)
    obtain ⟨cs',hcs,htr⟩:=hi k (by omega)
    obtain ⟨x,hx,S',hr'⟩:=h H enc w base spare held n' cs' _ htr;obtain ⟨_,hcl,hat⟩:=World.cells?_some hcs;rw [hc] at hat hcl;have hvl:vs.length=k*size:=by rw [RepL.length _ hr,jG hl,hxl]
    refine ⟨xs++[x],vs++cs',S++S',by simp [hxl],?_,?_,?_⟩
    ·intro z hz
     rcases List.mem_append.1 hz with hz|hz
     ·exact hW z hz
     ·simp at hz;subst hz;exact hx
    ·rw [List.flatMap_append]
     exact RepL.append_ _ hr (by simpa using hr')
    ·intro j u hu
     by_cases hj:j<vs.length
     ·rw [List.getElem?_append_left hj] at hu
      exact hcell j u hu
     ·rw [List.getElem?_append_right (by omega)] at hu
      have hjl:j-vs.length<cs'.length:=(List.getElem?_eq_some_iff.1 hu).1;have h2:=hat (j-vs.length) (by omega)
      rw [hu,add_add,show k*size+(j-vs.length)=j by omega] at h2
      exact h2
  obtain ⟨xs,vs,S,hxl,hW,hr,hcell⟩:=key len (Nat.le_refl _);have hvl:vs.length=len*size:=by rw [RepL.length _ hr,jG hl,hxl]
  refine ⟨xs,hW,?_⟩;by_cases hne:vs=[]
  ·subst hne
   refine ⟨S,?_⟩;have hrep:Rep w false (.sl size ty (xs.flatMap E)) (.slice (some a) len cap) S:=⟨[],[],S,⟨by simp,some a,len,cap,rfl,hvl,hlc,hcm,(fun e=>nomatch e),by simp⟩,hr,rfl⟩
   have:=RepL.cons_ hrep (RepL.nil_ (w:=w) (own:=false));simpa using this
  ·obtain ⟨u,us,rfl⟩:=List.exists_cons_of_ne_nil hne
   have h0:=hcell 0 u rfl;have ha:a.add 0=a:=by simp [Addr.add]
   rw [ha] at h0;have hsp:=js4 h0;have hlt:=World.block_lt_of_cell? w _ h0;refine ⟨[a.block]++S,?_⟩
   have hrep:Rep w false (.sl size ty (xs.flatMap E)) (.slice (some a) len cap) ([a.block]++S):=by
    refine ⟨u::us,[a.block],S,⟨by simpa using hlt,some a,len,cap,rfl,hvl,hlc,hcm,(fun e=>nomatch e),fun _=>⟨a.block,a.off,by rw [←hsp],rfl,fun j v hv=>?_⟩⟩,hr,rfl⟩
    have:=hcell j v hv;rw [hsp] at this
    rwa [Addr.add_mid] at this
   have:=RepL.cons_ hrep (RepL.nil_ (w:=w) (own:=false));simpa using this
end
open Go.RowKit Go.Sort Go.BigFrame
theorem ci {P:Program} {f:FuncId} {args:Array Value} {w:World} {b b':Int} (h:Calls P f args w fun e w'=>e=.returned (.int .i64 b)∧Below w.heap.size w w') (hb:b=b'):Calls P f args w fun e w'=>e=.returned (.int .i64 b')∧Below w.heap.size w w':=by subst hb;exact h
section
variable {w w':World} {own:Bool} {d:D} {v:Value} {S:List Nat}
theorem upA (h:Rep w own d v S) (o:Obj):Rep (w.alloc o) own d v S:=Rep.keep d h fun b hb=>Below.heap_alloc w o b (Rep.lt d h b hb)
theorem up (h:Rep w own d v S) (hb:Below w.heap.size w w'):Rep w' own d v S:=h.below hb (Nat.le_refl _)
theorem upB {w0:World} (h:Below w0.heap.size w0 w) (o:Obj):Below w0.heap.size w0 (w.alloc o):=h.alloc h.size o
end
open Go.RowKit Go.Sort Go.BigFrame
theorem cto {w w1:World} {b o:Nat} {v:Value} (hB:Below w.heap.size w w1) (h:w.cell? ⟨b,o,none⟩=some v):w1.cell? ⟨b,o,none⟩=some v:=
 (hB.cell (p:=⟨b,o,none⟩) (World.block_lt_of_cell? w _ h)).trans h
@[go_sem high] theorem equalEd (w:World) (x y:Ed):(Op.equalIn 10000 103 (.agg #[.int .i64 x.src,.int .i64 x.dst]) (.agg #[.int .i64 y.src,.int .i64 y.dst])).run Try.prog w=.ok (decide (x=y)) w:=by
  have u3:=Try.underlying3;have a3:=Try.isAgg3;have z3:=Try.sizeOf3;rw [show (10000:Nat)=9999+1 from rfl,run_equalIn_agg w 9999 103 _ _ (by kernel_rfl) (by kernel_rfl)]
  simp only [Program.fieldsOf,Try.underlying103];obtain ⟨xsrc,xdst⟩:=x;obtain ⟨ysrc,ydst⟩:=y
  go_simp
  by_cases h0:xsrc=ysrc<;>by_cases h1:xdst=ydst<;>simp [h0,h1]
theorem jpW (l m:List Ed) (a b:Value) (S S':List Nat) (w:World) (own own':Bool) (ha:Rep w own (jt l) a S) (hb:Rep w own' (jt m) b S'):
 Calls Try.prog 153 #[a,b] w fun e w'=>e=.returned (.bool (decide (l=m)))∧Below w.heap.size w w':=by
 obtain ⟨A,c,rfl,hc1,hc2,hca⟩:=Rep.open_ (size:=2) (enc:=jW) (fun _=>rfl) (by decide) ha
 obtain ⟨B,d,rfl,hd1,hd2,hdb⟩:=Rep.open_ (size:=2) (enc:=jW) (fun _=>rfl) (by decide) hb
 unfold maxLen at hc2 hd2;have hl1:l.length≤9223372036854775807:=by omega
 have hl2:m.length≤9223372036854775807:=by omega
 clear ha hb;by_cases hlen:l.length=m.length
 ·have HL:=Lib.hid hlen
  have hne:((l.length:Int) !=(m.length:Int))=false:=by rw [hlen];simp
  clear hlen
  go_enter Try.func153,Try.ntmps153
  go_wp2
  go_loopw [5,13] (fun _ i wr=>∃k:Nat,k≤l.length∧i=.int .i64 k∧l.take k=m.take k∧Below w.heap.size w wr) (fun _ i _=>l.length-(intOf i).toNat)
  case atStart=>exact ⟨0,by omega,rfl,rfl,Below.refl _ _⟩
  case round=>
   obtain ⟨k,hk,rfl,heq,hbel⟩:=hrel;have HQ:=Lib.hid heq;clear heq;by_cases hlt:k<l.length
   ·have hlt':k<m.length:=by have:=HL.out;omega
    obtain ⟨x,hx⟩:=je hlt;obtain ⟨y,hy⟩:=je hlt';obtain ⟨b1,o1,vk1,T1,rfl,-,hr1,-,-,hb1,hx1⟩:=hca k x hx;obtain ⟨b2,o2,vk2,T2,rfl,-,hr2,-,-,hb2,hx2⟩:=hdb k y hy;clear hca hdb;obtain ⟨rfl,rfl⟩:=jou hr1;obtain ⟨rfl,rfl⟩:=jou hr2;have HX:=Lib.hid hx;have HY:=Lib.hid hy;clear hx hy;have p0:=cell_regrown (cto (b:=b1) (o:=o1+k*2) hbel (hx1 0 _ rfl));have q0:=cell_regrown (cto (b:=b2) (o:=o2+k*2) hbel (hx2 0 _ rfl));have p1:=cell_regrown (cto (b:=b1) (o:=o1+k*2+1) hbel (hx1 1 _ rfl));have q1:=cell_regrown (cto (b:=b2) (o:=o2+k*2+1) hbel (hx2 1 _ rfl));clear hx1 hx2 hr1 hr2;by_cases hxy:x=y
    ·have HXY:=Lib.hid hxy
     have hd:decide (x=y)=true:=decide_eq_true hxy;clear hxy
     go_wp2
     refine wp_region_quiet_below (by kernel_rfl) (by kernel_rfl) ?_
     repeat (go_big_quiet_step (fail))
     refine wpQuiet_nil ?_;intro _ hw';obtain ⟨⟨dq,osq⟩,hw''⟩:=hw';subst hw'';have hbel2:=hbel.trans ((below_regrown wr dq osq).mono hbel.size)
     go_wp2
     go_roundw
     case rel=>exact ⟨k+1,by omega,by go_num,juY HX.out (HXY.out▸HY.out) HQ.out,hbel2⟩
     case measure=>simp [intOf];omega
    ·have HXY:=Lib.hid hxy
     have hd:decide (x=y)=false:=decide_eq_false hxy;clear hxy
     go_wp2
     refine wp_region_quiet_below (by kernel_rfl) (by kernel_rfl) ?_
     repeat (go_big_quiet_step (fail))
     refine wpQuiet_nil ?_;intro _ hw';obtain ⟨⟨dq,osq⟩,hw''⟩:=hw';subst hw'';have hbel2:=hbel.trans ((below_regrown wr dq osq).mono hbel.size)
     go_wp2
     go_ret
     exact ⟨jY (decide_eq_false (jzO HX.out HY.out HXY.out)).symm,hbel2⟩
   ·clear hca hdb
    go_wp2
    go_ret
    exact ⟨jY (decide_eq_true (juZ (k:=k) (by omega) (by have:=HL.out;omega) HQ.out)).symm,hbel⟩
 ·have hne:((l.length:Int) !=(m.length:Int))=true:=bne_iff_ne.2 (by omega)
  clear hca hdb
  go_enter Try.func153,Try.ntmps153
  go_wp2
  go_ret
  exact ⟨jY (decide_eq_false (fun e=>hlen (by rw [e]))).symm,Below.refl _ _⟩
theorem jm9 (x y:Pl) (a b:Value) (S S':List Nat) (w:World) (own own':Bool) (ha:AggRep w own (ja x) a S) (hb:AggRep w own' (ja y) b S'):
 Calls Try.prog 129 #[a,b] w fun e w'=>e=.returned (.bool (decide (x=y)))∧Below w.heap.size w w':=by
 obtain ⟨_,rfl,ha⟩:=ha;obtain ⟨_,rfl,hb⟩:=hb;obtain ⟨av0,rfl,ah0⟩:=jdI ha;obtain ⟨bv0,rfl,bh0⟩:=jdI hb;clear ha hb;obtain ⟨xprio,xmost,xwait,xtasks,xedges⟩:=x;obtain ⟨yprio,ymost,ywait,ytasks,yedges⟩:=y
 go_enter Try.func129,Try.ntmps129
 go_wp2_with (first
  |(go_at_call 153;refine (jpW xedges yedges _ _ _ _ _ _ _ (ah0.below (by repeat (first|exact Below.refl _ _|assumption|refine Below.alloc ?_ (by simp;try omega) _|refine kA ?_ (by assumption))) (Nat.le_refl _)) (bh0.below (by repeat (first|exact Below.refl _ _|assumption|refine Below.alloc ?_ (by simp;try omega) _|refine kA ?_ (by assumption))) (Nat.le_refl _))).mono ?_;rintro e w1 ⟨rfl,hb1⟩;obtain ⟨hc1,hf1⟩:=jcm hb1))
 all_goals go_ret
 all_goals refine ⟨?_,(by repeat (first|exact Below.refl _ _|assumption|refine Below.alloc ?_ (by simp;try omega) _|refine kA ?_ (by assumption)))⟩
 all_goals (simp_all<;>rfl)
theorem jna (x y:Dd) (a b:Value) (S S':List Nat) (w:World) (own own':Bool) (ha:AggRep w own (jf x) a S) (hb:AggRep w own' (jf y) b S'):
 Calls Try.prog 102 #[a,b] w fun e w'=>e=.returned (.bool (decide (x=y)))∧Below w.heap.size w w':=by
 obtain ⟨_,rfl,ha⟩:=ha;obtain ⟨_,rfl,hb⟩:=hb;obtain ⟨av0,rfl,ah0⟩:=jow ha;obtain ⟨bv0,rfl,bh0⟩:=jow hb;clear ha hb;obtain ⟨xkind,xrun,xplan,xtask,xtri,xworker,xdraw⟩:=x;obtain ⟨ykind,yrun,yplan,ytask,ytri,yworker,ydraw⟩:=y
 go_enter Try.func102,Try.ntmps102
 go_wp2_with (first
  |(go_at_call 129;refine (jm9 xplan yplan _ _ _ _ _ own own' ⟨_,rfl,jza (ah0.below (by repeat (first|exact Below.refl _ _|assumption|refine Below.alloc ?_ (by simp;try omega) _|refine kA ?_ (by assumption))) (Nat.le_refl _))⟩ ⟨_,rfl,jza (bh0.below (by repeat (first|exact Below.refl _ _|assumption|refine Below.alloc ?_ (by simp;try omega) _|refine kA ?_ (by assumption))) (Nat.le_refl _))⟩).mono ?_;rintro e w1 ⟨rfl,hb1⟩;obtain ⟨hc1,hf1⟩:=jcm hb1))
 all_goals go_ret
 all_goals refine ⟨?_,(by repeat (first|exact Below.refl _ _|assumption|refine Below.alloc ?_ (by simp;try omega) _|refine kA ?_ (by assumption)))⟩
 all_goals (simp_all<;>rfl)
open Go.RowKit Go.Sort Go.Lib
def jye (l:List En) (i:Nat) (e:En):List En:=l.take i++e::l.drop i
abbrev tIs:TypeId:=51
def qM (l:List (List Int)):D:=.sl 1 tIs (l.flatMap fun es=>[jo es])
section
variable {P:Program} {β:Nat} {s:St}
theorem jpP (l:List (List Int)):(qM l).len=l.length:=vx (enc:=fun es=>[jo es]) (fun _=>rfl) (by decide) _ _
theorem jnk {l:List (List Int)} {k:Nat} {x:List Int} (h:l[k]?=some x):(qM l).elem k=[jo x]:=qz (enc:=fun es=>[jo es]) (fun _=>rfl) h
theorem jqZ (l:List (List Int)):(qM l).isSl=true:=(rfl)
theorem jqN (l:List (List Int)):(qM l).size=1:=(rfl)
theorem jpD (l:List (List Int)) (g:Nat) (η:jm):(qM l).obj g η=[(g,.loose (qM l) η)]:=(rfl)
theorem jpw (l:List (List Int)) (g c:Nat) (p:List Nat) (η:jm):(qM l).toOwn g c p η=.h g c p (η p):=(rfl)
theorem jl8 (l:List (List Int)):(qM l).cells=l.flatMap (fun es=>[jo es]):=(rfl)
theorem jo9 (l:List (List Int)) (e:Nat) (k:List D→Prop):slK (qM l) e 1 k=(tIs=e∧k (l.flatMap (fun es=>[jo es]))):=by rw [show qM l=.sl 1 tIs (l.flatMap (fun es=>[jo es])) from rfl,jq3];simp
theorem jqa (l:List (List Int)):(l.flatMap (fun es=>[jo es])).length/1=l.length:=by rw [jG (enc:=fun es=>[jo es]) (size:=1) (fun _=>rfl)];exact Nat.mul_div_cancel _ (by decide)
theorem jts {l:List (List Int)} {k:Nat} {x:List Int} (h:l[k]?=some x):((l.flatMap (fun es=>[jo es])).drop (k*1)).take 1=[jo x]:=jnk h
theorem jsv {l:List (List Int)} {k:Nat} (h:k<l.length):k*1+1≤(l.flatMap (fun es=>[jo es])).length:=by rw [jG (enc:=fun es=>[jo es]) (size:=1) (fun _=>rfl)];omega
attribute [go_sem] jpP jqZ jqN jpD jpw jl8 jo9 jqa
end
def jce (now id:Int) (t:Tk) (k:Nat):Option (List Int):=if (t.state==3&&decide (t.til≤now∨t.til-1=now))=true then some [id,k,t.tri] else none
def zg (now:Int) (r:Rn):Nat→List Tk→List (List Int)
 |_,[]=>[]
 |k,t::ts=>(jce now r.id t k).toList++zg now r (k+1) ts
def qq (y:Yd):List (List Int):=y.runs.flatMap fun r=>zg y.now r 0 r.tasks
open Go.RowKit Go.Sort Go.BigFrame
open Go.RowKit Go.Sort Go.BigFrame
def c4 (l:List En):Nat:=4*l.length
open Go.RowKit Go.Sort Go.BigFrame
open Go.RowKit Go.Sort Go.BigFrame
theorem jjc (now:Int) (r:Rn) (x:Tk):∀(ts:List Tk) (k:Nat),zg now r k (ts++[x])=zg now r k ts++(jce now r.id x (k+ts.length)).toList
 |[],k=>by simp [zg]
 |t::ts,k=>by
  rw [List.cons_append,zg,zg,jjc now r x ts (k+1),List.append_assoc]
  congr 3
  simp only [List.length_cons];congr 1;omega
theorem jpS {now:Int} {r:Rn} {ts:List Tk} {k:Nat} {x:Tk} (h:ts[k]?=some x):zg now r 0 (ts.take (k+1))=zg now r 0 (ts.take k)++(jce now r.id x k).toList:=by
 have hk:k<ts.length:=(List.getElem?_eq_some_iff.1 h).1;rw [List.take_add_one,h];have:=jjc now r x (ts.take k) 0;rw [List.length_take,Nat.min_eq_left (by omega),Nat.zero_add] at this
 exact this
theorem jgN (now:Int) (r:Rn):∀(ts:List Tk) (k:Nat),(zg now r k ts).length≤ts.length
 |[],k=>by simp [zg]
 |t::ts,k=>by
  have:=jgN now r ts (k+1)
  have h2:(jce now r.id t k).toList.length≤1:=by
   unfold jce;split<;>simp
  rw [zg,List.length_append,List.length_cons];omega
def jlx (now:Int) (r:Rn):List (List Int):=zg now r 0 r.tasks
theorem juE (y:Yd):qq y=y.runs.flatMap (jlx y.now):=rfl
theorem jsd {now:Int} {l:List Rn} {k:Nat} {r:Rn} (h:l[k]?=some r):(l.take (k+1)).flatMap (jlx now)=(l.take k).flatMap (jlx now)++jlx now r:=by
 rw [List.take_add_one,h];simp
theorem jxu (now:Int) (l:List Rn):(l.flatMap (jlx now)).length≤qE za l:=by
 induction l with
 |nil=>simp
 |cons r l ih=>
  have:=jgN now r r.tasks 0;simp only [List.flatMap_cons,List.length_append,jlx,qE,List.map_cons,List.sum_cons,za] at ih⊢;omega
open Go.RowKit Go.Sort Go.BigFrame
def newYd:Yd:=⟨0,1,List.replicate 4 [],[]⟩
theorem ji5 {S:List Nat} {w w1 w':World} (ho:Only S w1 w') (hb:Below w.heap.size w w1) {b:Nat} (h:b<w.heap.size) (hS:b∉S):(∀o,w'.cell? ⟨b,o,none⟩=w.cell? ⟨b,o,none⟩)∧(∀o,w'.frozen? ⟨b,o,none⟩=w.frozen? ⟨b,o,none⟩):=by
 have e:w'.heap[b]?=w.heap[b]?:=(ho.block b (Nat.lt_of_lt_of_le h hb.size) hS).trans (hb.block b h);exact ⟨fun o=>World.cell?_of_block (w:=w) (a:=⟨b,o,none⟩) e,fun o=>World.frozen?_of_block (w:=w) (a:=⟨b,o,none⟩) e⟩
theorem jry (w:World):Rep (w.alloc (.cells #[] tEn)) true (jv []) (.slice (some ⟨w.heap.size,0,none⟩) 0 0) [w.heap.size]:=
 Rep.of_own (size:=4) (enc:=jy) (xs:=[]) (World.ownsRow_made w #[] 0 (Nat.zero_le _) (by unfold maxLen;omega) rfl) RepL.nil_
theorem juu (w:World) {o:Obj} {x:Value} {t:TypeId}:∀ad,(some ⟨w.heap.size+1,0,none⟩:Option Addr)=some ad→∀j u,[x][j]?=some u→((w.alloc o).alloc (.cells #[x] t)).cell? (ad.add j)=some u:=by
 intro ad h j u hu;cases h
 obtain rfl:j=0:=by
  have:=(List.getElem?_eq_some_iff.1 hu).1;simpa using this
 simp at hu;subst hu;simp [go_sem,Addr.add]
set_option maxRecDepth 4000 in
theorem jpg (w:World):Calls Try.prog 125 #[] w (jwb w (jc newYd)):=by
 go_enter Try.func125,Try.ntmps125
 go_wp2
 go_loopw [2] (fun i wr=>∃(k:Nat) (sv:Value) (S:List Nat),k≤4∧i=.int .i64 k∧Rep wr true (kL (List.replicate k [])) sv S∧Fresh (w.heap.size+2) S∧Below w.heap.size w wr∧w.heap.size+2≤wr.heap.size∧
  wr.cell? ⟨w.heap.size+1,0,none⟩=some (.int .i64 0)∧wr.cell? ⟨w.heap.size+1,1,none⟩=some (.int .i64 1)∧wr.cell? ⟨w.heap.size+1,2,none⟩=some sv∧wr.cell? ⟨w.heap.size+1,3,none⟩=some (.slice none 0 0)∧wr.frozen? ⟨w.heap.size+1,2,none⟩=false∧
  (∃u,wr.cell? ⟨w.heap.size,0,none⟩=some u)∧(∃u,wr.cell? ⟨w.heap.size,1,none⟩=some u)∧(∃u,wr.cell? ⟨w.heap.size,2,none⟩=some u)∧(∃u,wr.cell? ⟨w.heap.size,3,none⟩=some u)∧
  wr.frozen? ⟨w.heap.size,0,none⟩=false∧wr.frozen? ⟨w.heap.size,1,none⟩=false∧wr.frozen? ⟨w.heap.size,2,none⟩=false∧wr.frozen? ⟨w.heap.size,3,none⟩=false) (fun i _=>4-(RowKit.intOf i).toNat)
 case atStart=>
  refine ⟨0,_,[],by omega,rfl,Rep.nil_ _ _ _,Fresh.nil _,?_,by simp,?_⟩
  ·repeat (first|(with_reducible exact Below.refl _ _)|(with_reducible assumption)|((with_reducible refine Below.alloc ?_ ?_ _);rotate_left;focus (simp;try omega))|((with_reducible refine Below.setCell ?_ ?_ _);rotate_left;focus (simp;try omega)))
  ·simp [go_sem]
 case round=>
  obtain ⟨k,sv,S,hk,rfl,hrep,hF,hbel,hsz,c0,c1,c2,c3,f2,⟨u0,r0⟩,⟨u1,r1⟩,⟨u2,r2⟩,⟨u3,r3⟩,g0,g1,g2,g3⟩:=hrel;by_cases hlt:k<4
  ·have hbox:w.heap.size+1∉S:=fun h=>by have:=hF.2 _ h;omega
   have hres:w.heap.size∉S:=fun h=>by have:=hF.2 _ h;omega
   obtain ⟨A0,n0,m0,rfl⟩:=Rep.form hrep
   go_wp2_with ((with_reducible refine jtt (.tmp 9) (.tmp 11) ?_);refine jeI (enc:=(fun es=>[jv es])) (xs:=List.replicate k ([]:List En)) (ys:=[[]]) rfl _ _ rfl slEnS (fun _=>rfl) rfl (upA (upA hrep _) _) (some ⟨wr.heap.size+1,0,none⟩) 1 1 [.slice (some ⟨wr.heap.size,0,none⟩) 0 0] rfl (RepL.cons_ (upA (jry wr) _) RepL.nil_) rfl (by simp) (juu wr) jp5 (w.heap.size+2) (by simp;omega) (by simpa using Fresh.join hF (Fresh.one wr.heap.size wr.heap.size (Nat.le_refl _)) hsz (fun s hs=>Rep.lt _ hrep s hs)) (by unfold maxLen;simp;omega) (by simp;omega) ?_;intro v' w' S' hrep' hF' ho' _;obtain ⟨A1,n1,m1,rfl⟩:=Rep.form hrep';obtain ⟨hd,hd'⟩:=ji5 ho' (upB (upB (Below.refl wr.heap.size wr) _) _) (by omega) hbox;obtain ⟨he,he'⟩:=ji5 ho' (upB (upB (Below.refl wr.heap.size wr) _) _) (by omega) hres;(have hz:=ho'.size);simp at hz;(have hz1:=(by omega:w.heap.size+1<w'.heap.size)))
   go_roundw
   case rel=>
    refine ⟨k+1,.slice A1 n1 m1,S',by omega,by go_num,?_,hF',?_,by simp;omega,?_⟩
    ·refine jog ?_ (fun b hb=>by have:=hF'.2 b hb;simp;omega)
     rw [List.replicate_succ'];exact hrep'
    ·exact ((upB (upB hbel _) _).trans (ho'.below (fun s hs=>by have:=hF.2 s hs;omega) (by simp;omega))).setCell (by simp) _
    ·simp [go_sem,hd,hd',he,he',c0,c1,c2,c3,f2,r0,r1,r2,r3,g0,g1,g2,g3]
   case measure=>simp [RowKit.intOf];omega
  ·obtain rfl:k=4:=by omega
   obtain ⟨A0,n0,m0,rfl⟩:=Rep.form hrep
   go_wp2
   refine bodyPost_ret (v:=.agg #[.int .i64 0,.int .i64 1,.slice A0 n0 m0,.slice none 0 0]) (by simp [results,Try.results125,go_sem,r0,r1,r2,r3]) rfl ?_
   refine ⟨_,S++[],rfl,⟨_,rfl,jeH (y:=newYd) ?_ (Rep.nil_ _ _ _)⟩,?_,?_⟩
   ·have hrep4:Rep wr true (kL newYd.shelf) (.slice A0 n0 m0) S:=hrep
    repeat (first|(with_reducible exact hrep4)|((with_reducible refine jog ?_ ?_);rotate_left;focus (intro b hb;have:=hF.2 b hb;simp;try omega)))
   ·rw [List.append_nil];exact hF.mono (by omega)
   ·repeat (first|(with_reducible assumption)|((with_reducible refine Below.setCell ?_ ?_ _);rotate_left;focus (simp;try omega)))
end Go.Proofs.Ytmnpailnelmpiaa
