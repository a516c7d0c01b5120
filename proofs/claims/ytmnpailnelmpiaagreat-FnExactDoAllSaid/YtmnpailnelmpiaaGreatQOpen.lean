/- Parts. -/
import Derived.Test.YtmnpailnelmpiaaGreatQEq
import Derived.Test.YtmnpailnelmpiaaGreatQTo
import Derived.ProofKit
import Derived.Deep.Slices
import Derived.ChangeSame
import Derived.Deep.RegionWith
import Derived.Laws.StructEq
set_option linter.unusedSimpArgs false
set_option linter.unusedVariables false
set_option maxHeartbeats 2000000
namespace Go.Proofs.YtmnpailnelmpiaaGreat
open Go.RowKit Go.ChangeShapes Go.WideShapes Go.Deep Go.ChangeAt
def inR (n:Int):Prop:=-9223372036854775808≤n∧n≤9223372036854775807
def Pl.wf (p:Pl):Prop:=inR p.prio∧inR p.most∧inR p.wait∧inR p.tasks∧∀e∈p.edges,inR e.src∧inR e.dst
def En.wf (e:En):Prop:=inR e.prio∧inR e.seq∧inR e.run∧inR e.task
def Tk.wf (e:Tk):Prop:=inR e.state∧inR e.need∧inR e.tri∧inR e.til
def Rn.wf (r:Rn):Prop:=inR r.id∧r.plan.wf∧inR r.state∧∀t∈r.tasks,t.wf
def Yd.wf (y:Yd):Prop:=inR y.now∧inR y.seq∧(∀l∈y.shelf,∀e∈l,e.wf)∧∀r∈y.runs,r.wf
def Dd.wf (d:Dd):Prop:=inR d.kind∧inR d.run∧d.plan.wf∧inR d.task∧inR d.tri∧inR d.worker∧inR d.draw
def Nt.wf (n:Nt):Prop:=inR n.seq∧n.deed.wf
def ReadsAs (P:Program) (t:TypeId) {α:Type} (E:α→List D) (W:α→Prop):Prop:=
 ∀(H:Type) (enc:TypeId×Value→H) (w:World) (base:Nat) (spare:Nat→Bool) (held:Bool) (n:Nat) (cs:List Value) (y:DataW H×List MemPlace),
  DataW.trod enc P w base spare held n t cs=some y→∃x,W x∧∃S,RepL w false (E x) cs S
def jwv (H:Type) (enc:TypeId×Value→H) (P:Program) (w:World) (base:Nat) (spare:Nat→Bool) (held:Bool) (n:Nat):List Field→List Value→Prop
 |[],cs=>cs=[]
 |f::l,cs=>(∃y,DataW.trod enc P w base spare held n f.type (cs.take (P.cellsOf f.type))=some y)∧jwv H enc P w base spare held n l (cs.drop (P.cellsOf f.type))
def jh4 (P:Program) (l:List Field) {α:Type} (E:α→List D) (W:α→Prop):Prop:=
 ∀(H:Type) (enc:TypeId×Value→H) (w:World) (base:Nat) (spare:Nat→Bool) (held:Bool) (n:Nat) (cs:List Value),jwv H enc P w base spare held n l cs→∃x,W x∧∃S,RepL w false (E x) cs S
def jsr (P:Program):List Field→Nat→Nat→Bool
 |[],off,tot=>off==tot
 |f::l,off,tot=>f.offset==off&&jsr P l (off+P.cellsOf f.type) tot
section
variable {P:Program} {t e:TypeId} {α β:Type} {E:α→List D} {E':β→List D} {W:α→Prop} {W':β→Prop}
theorem ReadsAs.map (h:ReadsAs P t E W) (g:α→β) (hE:∀a,E' (g a)=E a) (hW:∀a,W a→W' (g a)):ReadsAs P t E' W':=by
 intro H enc w base spare held n cs y hy;obtain ⟨x,hx,S,hr⟩:=h H enc w base spare held n cs y hy;exact ⟨g x,hW x hx,S,by rw [hE];exact hr⟩
theorem jz4 (ht:P.underlying t=some (.int .i64)):ReadsAs P t (fun n=>[iv n]) inR:=by
 intro H enc w base spare held n cs y hy;obtain ⟨i,rfl,_,hw⟩:=DataW.trod_int ht hy;refine ⟨i,?_,[],RepL.val_ RepL.nil_⟩;simpa [Lit.wf,IntKind.min,IntKind.max,IntKind.signed,IntKind.bits,inR] using hw
theorem jiK:jh4 P [] (fun _:Unit=>[]) (fun _=>True):=by
 intro H enc w base spare held n cs h;cases cs with
 |nil=>exact ⟨(),trivial,[],RepL.nil_⟩
 |cons c cs=>exact absurd h (by simp [jwv])
theorem kw {f:Field} {l:List Field} (h:ReadsAs P f.type E W) (k:jh4 P l E' W'):jh4 P (f::l) (fun p:α×β=>E p.1++E' p.2) (fun p=>W p.1∧W' p.2):=by
 intro H enc w base spare held n cs hs;obtain ⟨⟨y,hy⟩,hs⟩:=hs;obtain ⟨x,hx,S,hr⟩:=h H enc w base spare held n _ y hy;obtain ⟨x',hx',S',hr'⟩:=k H enc w base spare held n _ hs;refine ⟨(x,x'),⟨hx,hx'⟩,S++S',?_⟩;have:=RepL.append_ _ hr hr'
 rwa [List.take_append_drop] at this
theorem jwF {H:Type} {enc:TypeId×Value→H} {w:World} {base:Nat} {spare:Nat→Bool} {held:Bool} {n:Nat}:∀(l:List Field) (off tot:Nat) (cs:List Value),jsr P l off tot=true→cs.length=tot→
 (∀f∈l,∃y,DataW.trod enc P w base spare held n f.type ((cs.drop f.offset).take (P.cellsOf f.type))=some y)→jwv H enc P w base spare held n l (cs.drop off)
 |[],off,tot,cs,h,hl,_=>by
  simp [jsr] at h;exact List.drop_eq_nil_of_le (by omega)
 |f::l,off,tot,cs,h,hl,hf=>by
  simp only [jsr,Bool.and_eq_true,beq_iff_eq] at h;obtain ⟨y,hy⟩:=hf f (by simp)
  rw [h.1] at hy;refine ⟨⟨y,hy⟩,?_⟩;rw [List.drop_drop];exact jwF l _ tot cs h.2 hl fun g hg=>hf g (by simp [hg])
theorem jaf {fs:Array Field} (ht:P.underlying t=some (.struct fs)) (hs:jsr P fs.toList 0 (P.cellsOf t)=true) (h:jh4 P fs.toList E W):ReadsAs P t E W:=by
 intro H enc w base spare held n cs y hy;obtain ⟨xs,m,_,_,hlen,hxl,hf⟩:=DataW.trod_struct ht hy
 have:=jwF (H:=H) (enc:=enc) (w:=w) (base:=base) (spare:=spare) (held:=held) (n:=m) fs.toList 0 _ cs hs hlen (fun f hf'=>by
  obtain ⟨i,hi,rfl⟩:=List.getElem_of_mem hf';have hi':i<fs.size:=by simpa using hi
  refine ⟨xs[i]'(by omega),?_⟩
  have h1:=hf i fs[i] (Array.getElem?_eq_getElem hi');rw [List.getElem?_eq_getElem (by omega)] at h1
  simpa using h1)
 rw [List.drop_zero] at this;exact h H enc w base spare held m cs this
theorem jua {w:World} {a:Addr} {v:Value} (h:w.cell? a=some v):a=⟨a.block,a.off,none⟩:=by
 obtain ⟨b,o,s⟩:=a;cases s with
 |none=>rfl
 |some s=>simp only [World.cell?] at h;split at h<;>simp at h
theorem jcI {size:Nat} {ty:TypeId} (ht:P.underlying t=some (.slice e)) (h:ReadsAs P e E W) (hc:P.cellsOf e=size) (hl:∀x,(E x).length=size) (_hs:0<size):
 ReadsAs P t (fun xs:List α=>[.sl size ty (xs.flatMap E)]) (fun xs=>∀x∈xs,W x):=by
 intro H enc w base spare held n cs y hy;rcases open_slice ht hy with ⟨rfl,_⟩|⟨a,len,cap,m,n',D',Pl,rfl,hb,hlc,hcm,hm,_,hi⟩
 ·have hrep:Rep w false (.sl size ty (List.flatMap E [])) (.slice none 0 0) []:=⟨[],[],[],⟨by simp,none,0,0,rfl,by simp,Nat.le_refl _,Nat.zero_le _,fun _=>rfl,by simp⟩,RepL.nil_,rfl⟩
  exact ⟨[],by simp,[],RepL.cons_ hrep RepL.nil_⟩
 ·have hlm:len≤m:=by rw [hm];split<;>omega
  have key:∀k,k≤len→∃(xs:List α) (vs:List Value) (S:List Nat),xs.length=k∧(∀x∈xs,W x)∧RepL w false (xs.flatMap E) vs S∧∀j u,vs[j]?=some u→w.cell? (a.add j)=some u:=by
   intro k
   induction k with
   |zero=>exact fun _=>⟨[],[],[],rfl,by simp,RepL.nil_,by simp⟩
   |succ k ih=>
    intro hk;obtain ⟨xs,vs,S,hxl,hW,hr,hcell⟩:=ih (by omega)
    obtain ⟨cs',hcs,htr⟩:=hi k (by omega)
    obtain ⟨x,hx,S',hr'⟩:=h H enc w base spare held n' cs' _ htr;obtain ⟨_,hcl,hat⟩:=World.cells?_some hcs;rw [hc] at hat hcl;have hvl:vs.length=k*size:=by rw [RepL.length _ hr,jG hl,hxl]
    refine ⟨xs++[x],vs++cs',S++S',by simp [hxl],?_,?_,?_⟩
    ·intro z hz
     rcases List.mem_append.1 hz with hz|hz
     ·exact hW z hz
     ·simp at hz;subst hz;exact hx
    ·rw [List.flatMap_append]
     exact RepL.append_ _ hr (by simpa using hr')
    ·intro j u hu
     by_cases hj:j<vs.length
     ·rw [List.getElem?_append_left hj] at hu
      exact hcell j u hu
     ·rw [List.getElem?_append_right (by omega)] at hu
      have hjl:j-vs.length<cs'.length:=(List.getElem?_eq_some_iff.1 hu).1;have h2:=hat (j-vs.length) (by omega)
      rw [hu,add_add,show k*size+(j-vs.length)=j by omega] at h2
      exact h2
  obtain ⟨xs,vs,S,hxl,hW,hr,hcell⟩:=key len (Nat.le_refl _);have hvl:vs.length=len*size:=by rw [RepL.length _ hr,jG hl,hxl]
  refine ⟨xs,hW,?_⟩;by_cases hne:vs=[]
  ·subst hne
   refine ⟨S,?_⟩;have hrep:Rep w false (.sl size ty (xs.flatMap E)) (.slice (some a) len cap) S:=⟨[],[],S,⟨by simp,some a,len,cap,rfl,hvl,hlc,hcm,(fun e=>nomatch e),by simp⟩,hr,rfl⟩
   have:=RepL.cons_ hrep (RepL.nil_ (w:=w) (own:=false));simpa using this
  ·obtain ⟨u,us,rfl⟩:=List.exists_cons_of_ne_nil hne
   have h0:=hcell 0 u rfl;have ha:a.add 0=a:=by simp [Addr.add]
   rw [ha] at h0;have hsp:=jua h0;have hlt:=World.block_lt_of_cell? w _ h0;refine ⟨[a.block]++S,?_⟩
   have hrep:Rep w false (.sl size ty (xs.flatMap E)) (.slice (some a) len cap) ([a.block]++S):=by
    refine ⟨u::us,[a.block],S,⟨by simpa using hlt,some a,len,cap,rfl,hvl,hlc,hcm,(fun e=>nomatch e),fun _=>⟨a.block,a.off,by rw [←hsp],rfl,fun j v hv=>?_⟩⟩,hr,rfl⟩
    have:=hcell j v hv;rw [hsp] at this
    rwa [Addr.add_mid] at this
   have:=RepL.cons_ hrep (RepL.nil_ (w:=w) (own:=false));simpa using this
end
theorem jhP:ReadsAs Tryz.prog 3 (fun n=>[iv n]) inR:=jz4 (by kernel_rfl)
theorem rEdge:ReadsAs Tryz.prog 289 jI (fun e=>inR e.src∧inR e.dst):=
 (jaf Tryz.underlying289 (by kernel_rfl) (kw jhP (kw jhP jiK))).map (fun p=>⟨p.1,p.2.1⟩) (fun _=>rfl) (fun _ h=>⟨h.1,h.2.1⟩)
theorem jAc:ReadsAs Tryz.prog 57 (fun l=>[jB l]) (fun l=>∀e∈l,inR e.src∧inR e.dst):=
 jcI (size:=2) (ty:=tEd) Tryz.underlying57 rEdge (by kernel_rfl) (fun _=>rfl) (by decide)
theorem jAa:ReadsAs Tryz.prog 59 ja Pl.wf:=
 (jaf Tryz.underlying59 (by kernel_rfl) (kw jhP (kw jhP (kw jhP (kw jhP (kw jAc jiK)))))).map (fun p=>⟨p.1,p.2.1,p.2.2.1,p.2.2.2.1,p.2.2.2.2.1⟩) (fun _=>rfl) (fun _ h=>⟨h.1,h.2.1,h.2.2.1,h.2.2.2.1,h.2.2.2.2.1⟩)
theorem jAb:ReadsAs Tryz.prog 286 jf En.wf:=
 (jaf Tryz.underlying286 (by kernel_rfl) (kw jhP (kw jhP (kw jhP (kw jhP jiK))))).map (fun p=>⟨p.1,p.2.1,p.2.2.1,p.2.2.2.1⟩) (fun _=>rfl) (fun _ h=>⟨h.1,h.2.1,h.2.2.1,h.2.2.2.1⟩)
theorem jxS:ReadsAs Tryz.prog 212 (fun l=>[ji l]) (fun l=>∀e∈l,En.wf e):=
 jcI (size:=4) (ty:=tEn) Tryz.underlying212 jAb (by kernel_rfl) (fun _=>rfl) (by decide)
theorem jvq:ReadsAs Tryz.prog 22 (fun l=>[kt l]) (fun l=>∀es∈l,∀e∈es,En.wf e):=
 jcI (size:=1) (ty:=jnB) Tryz.underlying22 jxS (by kernel_rfl) (fun _=>rfl) (by decide)
theorem rTask:ReadsAs Tryz.prog 297 jn Tk.wf:=
 (jaf Tryz.underlying297 (by kernel_rfl) (kw jhP (kw jhP (kw jhP (kw jhP jiK))))).map (fun p=>⟨p.1,p.2.1,p.2.2.1,p.2.2.2.1⟩) (fun _=>rfl) (fun _ h=>⟨h.1,h.2.1,h.2.2.1,h.2.2.2.1⟩)
theorem jz9:ReadsAs Tryz.prog 214 (fun l=>[jw l]) (fun l=>∀e∈l,Tk.wf e):=
 jcI (size:=4) (ty:=tTk) Tryz.underlying214 rTask (by kernel_rfl) (fun _=>rfl) (by decide)
theorem rRun:ReadsAs Tryz.prog 216 jd Rn.wf:=
 (jaf Tryz.underlying216 (by kernel_rfl) (kw jhP (kw jAa (kw jhP (kw jz9 jiK))))).map (fun p=>⟨p.1,p.2.1,p.2.2.1,p.2.2.2.1⟩) (fun _=>rfl) (fun _ h=>⟨h.1,h.2.1,h.2.2.1,h.2.2.2.1⟩)
theorem rRunS:ReadsAs Tryz.prog 23 (fun l=>[jM l]) (fun l=>∀e∈l,Rn.wf e):=
 jcI (size:=8) (ty:=tRn) Tryz.underlying23 rRun (by kernel_rfl) jtS (by decide)
theorem rYard:ReadsAs Tryz.prog 25 jb Yd.wf:=
 (jaf Tryz.underlying25 (by kernel_rfl) (kw jhP (kw jhP (kw jvq (kw rRunS jiK))))).map (fun p=>⟨p.1,p.2.1,p.2.2.1,p.2.2.2.1⟩) (fun _=>rfl) (fun _ h=>⟨h.1,h.2.1,h.2.2.1,h.2.2.2.1⟩)
theorem rDeed:ReadsAs Tryz.prog 61 jg Dd.wf:=
 (jaf Tryz.underlying61 (by kernel_rfl) (kw jhP (kw jhP (kw jAa (kw jhP (kw jhP (kw jhP (kw jhP jiK)))))))).map (fun p=>⟨p.1,p.2.1,p.2.2.1,p.2.2.2.1,p.2.2.2.2.1,p.2.2.2.2.2.1,p.2.2.2.2.2.2.1⟩) (fun _=>rfl) (fun _ h=>⟨h.1,h.2.1,h.2.2.1,h.2.2.2.1,h.2.2.2.2.1,h.2.2.2.2.2.1,h.2.2.2.2.2.2.1⟩)
theorem jAd:ReadsAs Tryz.prog 79 (fun l=>[qb l]) (fun l=>∀e∈l,Dd.wf e):=
 jcI (size:=11) (ty:=tDd) Tryz.underlying79 rDeed (by kernel_rfl) jtV (by decide)
open Go.RowKit Go.Sort Go.BigFrame
theorem ci {P:Program} {f:FuncId} {args:Array Value} {w:World} {b b':Int} (h:Calls P f args w fun e w'=>e=.returned (.int .i64 b)∧Below w.heap.size w w') (hb:b=b'):Calls P f args w fun e w'=>e=.returned (.int .i64 b')∧Below w.heap.size w w':=by subst hb;exact h
section
variable {w w':World} {own:Bool} {d:D} {v:Value} {S:List Nat}
theorem upA (h:Rep w own d v S) (o:Obj):Rep (w.alloc o) own d v S:=Rep.keep d h fun b hb=>Below.heap_alloc w o b (Rep.lt d h b hb)
theorem up (h:Rep w own d v S) (hb:Below w.heap.size w w'):Rep w' own d v S:=h.below hb (Nat.le_refl _)
theorem upB {w0:World} (h:Below w0.heap.size w0 w) (o:Obj):Below w0.heap.size w0 (w.alloc o):=h.alloc h.size o
end
open Go.RowKit Go.Sort Go.BigFrame
theorem jgu {w w1:World} {b o:Nat} {v:Value} (hB:Below w.heap.size w w1) (h:w.cell? ⟨b,o,none⟩=some v) (d:Nat) (os:Array Obj):(grow (redrawn w1 d) os).cell? ⟨b,o,none⟩=some v:=
 cell_regrown ((hB.cell (p:=⟨b,o,none⟩) (World.block_lt_of_cell? w _ h)).trans h) d os
theorem ju {w w1:World} {b o:Nat} {v:Value} (hB:Below w.heap.size w w1) (h:w.cell? ⟨b,o,none⟩=some v):w1.cell? ⟨b,o,none⟩=some v:=
 (hB.cell (p:=⟨b,o,none⟩) (World.block_lt_of_cell? w _ h)).trans h
def inb (n low high:Int):Bool:=decide (low≤n∧n≤high)
theorem jaC {n low high:Int} (h:low≤n∧n≤high):inb n low high=true:=decide_eq_true h
theorem vx {n low high:Int} (h:¬(low≤n∧n≤high)):inb n low high=false:=decide_eq_false h
theorem vv (a b c:Int) (w:World):Calls Tryz.prog 78 #[.int .i64 a,.int .i64 b,.int .i64 c] w fun e w'=>e=.returned (.bool (inb a b c))∧Below w.heap.size w w':=by
 by_cases h1:b≤a
 ·by_cases h2:a≤c
  ·have H:Hid (inb a b c=true):=jaC ⟨h1,h2⟩
   go_enter Tryz.func78,Tryz.ntmps78
   go_wp2
   go_ret
   exact ⟨jx H.out.symm,Below.refl _ _⟩
  ·have H:Hid (inb a b c=false):=vx fun h=>h2 h.2
   go_enter Tryz.func78,Tryz.ntmps78
   go_wp2
   go_ret
   exact ⟨jx H.out.symm,Below.refl _ _⟩
 ·have H:Hid (inb a b c=false):=vx fun h=>h1 h.1
  go_enter Tryz.func78,Tryz.ntmps78
  go_wp2
  go_ret
  exact ⟨jx H.out.symm,Below.refl _ _⟩
theorem zr (a b c:Int) (w:World):Calls Tryz.prog 74 #[.int .i64 a,.int .i64 b,.int .i64 c] w fun e w'=>e=.returned (.bool (inb a b c))∧Below w.heap.size w w':=by
 by_cases h1:b≤a
 ·by_cases h2:a≤c
  ·have H:Hid (inb a b c=true):=jaC ⟨h1,h2⟩
   go_enter Tryz.func74,Tryz.ntmps74
   go_wp2
   go_ret
   exact ⟨jx H.out.symm,Below.refl _ _⟩
  ·have H:Hid (inb a b c=false):=vx fun h=>h2 h.2
   go_enter Tryz.func74,Tryz.ntmps74
   go_wp2
   go_ret
   exact ⟨jx H.out.symm,Below.refl _ _⟩
 ·have H:Hid (inb a b c=false):=vx fun h=>h1 h.1
  go_enter Tryz.func74,Tryz.ntmps74
  go_wp2
  go_ret
  exact ⟨jx H.out.symm,Below.refl _ _⟩
theorem jlq (y:Yd) (e:En) (a b:Value) (S S':List Nat) (w:World) (own own':Bool) (ha:AggRep w own (jb y) a S) (hb:AggRep w own' (jf e) b S'):
 Calls Tryz.prog 57 #[a,b] w fun e1 w'=>e1=.returned (.bool (kr y e))∧Below w.heap.size w w':=by
 obtain ⟨_,rfl,ha⟩:=ha;obtain ⟨_,rfl,hb⟩:=hb;obtain ⟨rfl,rfl⟩:=qu hb;obtain ⟨sv,rv,S1,S2,rfl,ah0,ah1,rfl⟩:=qf ha;clear ha hb;rcases vI y e.run e.task with ⟨hr,ht⟩|⟨k,r,hr,hx,⟨hno,ht⟩|⟨j,t,hj,htx,ht⟩⟩
 ·have HR:=Lib.hid hr
  have HF:Hid (kr y e=false):=by unfold kr;rw [ht];rfl
  clear hr ht
  go_enter Tryz.func57,Tryz.ntmps57
  go_wp2_with (go_at_call 56;refine (ci (jaE y e.run _ _ _ own ⟨_,rfl,jas (upA (upA ah0 _) _) (upA (upA ah1 _) _)⟩) HR.out).mono ?_;rintro e1 w1 ⟨rfl,hb1⟩;obtain ⟨hc1,hf1⟩:=qa hb1)
  refine wp_region_quiet_below (by kernel_rfl) (by kernel_rfl) ?_
  repeat (go_big_quiet_step (fail))
  refine wpQuiet_nil ?_;intro _ hw';obtain ⟨⟨dq,osq⟩,hw''⟩:=hw';subst hw''
  go_wp2
  go_ret
  exact ⟨jx (by rw [HF.out]),jy (jy (((Below.refl _ _).alloc (by simp) _).alloc (by simp) _) hb1) (below_regrown w1 dq osq)⟩
 all_goals
  have HR:=Lib.hid hr;obtain ⟨A,c,rfl,hc1,hc2,hca⟩:=Rep.open_ (size:=8) (enc:=jd) (fun _=>rfl) (by decide) ah1
  have hk:k<y.runs.length:=(List.getElem?_eq_some_iff.1 hx).1;unfold maxLen at hc2;have hl1:y.runs.length≤9223372036854775807:=by omega
  obtain ⟨b1,o1,vk1,T1,rfl,-,hr1,-,-,hbl,hx1⟩:=hca k r hx;clear hca;obtain ⟨v0,v1,U0,U1,rfl,-,hts,-⟩:=kh hr1;have p7:=hx1 7 _ rfl;clear hx1 hr1;obtain ⟨B,d,rfl,hd1,hd2,hdb⟩:=Rep.open_ (size:=4) (enc:=jn) (fun _=>rfl) (by decide) hts
  unfold maxLen at hd2;have hl2:r.tasks.length≤9223372036854775807:=by omega
  have hk0:decide ((k:Int)≥0)=true:=by simp
  have hk1:decide ((k:Int)<0)=false:=by simp
  clear hr hx
 ·clear hdb
  have HF:Hid (kr y e=false):=by unfold kr;rw [ht];rfl
  have HW:Hid (inb e.task 0 ((r.tasks.length:Int)-1)=false):=vx hno;clear ht hno
  go_enter Tryz.func57,Tryz.ntmps57
  go_wp2_with (go_at_call 56;refine (ci (jaE y e.run _ _ _ own ⟨_,rfl,jas (upA (upA ah0 _) _) (upA (upA ah1 _) _)⟩) HR.out).mono ?_;rintro e1 w1 ⟨rfl,hb1⟩;obtain ⟨hc1,hf1⟩:=qa hb1)
  have hBw:Below w.heap.size w w1:=jy (((Below.refl _ _).alloc (by simp) _).alloc (by simp) _) hb1
  have p7':=jgu hBw p7;have q3:∀(d:Nat) (os:Array Obj),(grow (redrawn w1 d) os).cell? ⟨w.heap.size,3,none⟩=some (.slice (some ⟨b1,o1,none⟩) y.runs.length c):=fun d os=>cell_regrown ((hc1 _ _ (by simp;try omega)).trans (by simp [go_sem])) d os
  have r3:∀(d:Nat) (os:Array Obj),(grow (redrawn w1 d) os).cell? ⟨w.heap.size+1,3,none⟩=some (.int .i64 e.task):=fun d os=>cell_regrown ((hc1 _ _ (by simp;try omega)).trans (by simp [go_sem])) d os
  refine wp_region_quiet_below (by kernel_rfl) (by kernel_rfl) ?_
  repeat (go_big_quiet_step (exact Calls.regrown_of (cb (vv _ _ _ _) HW.out)))
  refine wpQuiet_nil ?_;intro _ hw';obtain ⟨⟨dq,osq⟩,hw''⟩:=hw';subst hw''
  go_wp2
  go_ret
  exact ⟨jx (by rw [HF.out]),jy hBw (below_regrown w1 dq osq)⟩
 ·obtain ⟨b2,o2,vk2,T2,rfl,-,hr2,-,-,hbl2,hx2⟩:=hdb j t htx
  clear hdb;obtain ⟨rfl,rfl⟩:=qF hr2;have p0:w.cell? ⟨b2,o2+j*4,none⟩=some (.int .i64 t.state):=hx2 0 _ rfl;have hjl:j<r.tasks.length:=(List.getElem?_eq_some_iff.1 htx).1;clear hx2 hr2 htx;obtain ⟨e1,e2,e3,e4⟩:=e;simp only at hj HR ht;subst hj;have HW:Hid (inb (j:Int) 0 ((r.tasks.length:Int)-1)=true):=jaC (by omega)
  by_cases hst:t.state=2
  all_goals
   first|(have hs:(t.state==2)=true:=by simpa using hst)|(have hs:(t.state==2)=false:=by simpa using hst)
   have HF:=Lib.hid (show kr y ⟨e1,e2,e3,j⟩=(t.state==2) by unfold kr;rw [ht])
   clear ht hst
   go_enter Tryz.func57,Tryz.ntmps57
   go_wp2_with (go_at_call 56;refine (ci (jaE y e3 _ _ _ own ⟨_,rfl,jas (upA (upA ah0 _) _) (upA (upA ah1 _) _)⟩) HR.out).mono ?_;rintro e1 w1 ⟨rfl,hb1⟩;obtain ⟨hc1,hf1⟩:=qa hb1)
   have hBw:Below w.heap.size w w1:=jy (((Below.refl _ _).alloc (by simp) _).alloc (by simp) _) hb1
   have p7':=jgu hBw p7;have q3:∀(d:Nat) (os:Array Obj),(grow (redrawn w1 d) os).cell? ⟨w.heap.size,3,none⟩=some (.slice (some ⟨b1,o1,none⟩) y.runs.length c):=fun d os=>cell_regrown ((hc1 _ _ (by simp;try omega)).trans (by simp [go_sem])) d os
   have r3:∀(d:Nat) (os:Array Obj),(grow (redrawn w1 d) os).cell? ⟨w.heap.size+1,3,none⟩=some (.int .i64 j):=fun d os=>cell_regrown ((hc1 _ _ (by simp;try omega)).trans (by simp [go_sem])) d os
   have p0':=jgu hBw p0;refine wp_region_quiet_below (by kernel_rfl) (by kernel_rfl) ?_
   repeat (go_big_quiet_step (exact Calls.regrown_of (cb (vv _ _ _ _) HW.out)))
   refine wpQuiet_nil ?_;intro _ hw';obtain ⟨⟨dq,osq⟩,hw''⟩:=hw';subst hw''
   go_wp2
   go_ret
   exact ⟨jx (by rw [HF.out,hs]),jy hBw (below_regrown w1 dq osq)⟩
theorem joY (y:Yd) (e:En) (a b:Value) (S S':List Nat) (w:World) (own own':Bool) (ha:AggRep w own (jb y) a S) (hb:AggRep w own' (jf e) b S'):
 Calls Tryz.prog 141 #[a,b] w fun e1 w'=>e1=.returned (.bool (kr y e))∧Below w.heap.size w w':=by
 obtain ⟨_,rfl,ha⟩:=ha;obtain ⟨_,rfl,hb⟩:=hb;obtain ⟨rfl,rfl⟩:=qu hb;obtain ⟨sv,rv,S1,S2,rfl,ah0,ah1,rfl⟩:=qf ha;clear ha hb;rcases vI y e.run e.task with ⟨hr,ht⟩|⟨k,r,hr,hx,⟨hno,ht⟩|⟨j,t,hj,htx,ht⟩⟩
 ·have HR:=Lib.hid hr
  have HF:Hid (kr y e=false):=by unfold kr;rw [ht];rfl
  clear hr ht
  go_enter Tryz.func141,Tryz.ntmps141
  go_wp2_with (go_at_call 152;refine (ci (jaA y e.run _ _ _ own ⟨_,rfl,jas (upA (upA ah0 _) _) (upA (upA ah1 _) _)⟩) HR.out).mono ?_;rintro e1 w1 ⟨rfl,hb1⟩;obtain ⟨hc1,hf1⟩:=qa hb1)
  refine wp_region_quiet_below (by kernel_rfl) (by kernel_rfl) ?_
  repeat (go_big_quiet_step (fail))
  refine wpQuiet_nil ?_;intro _ hw';obtain ⟨⟨dq,osq⟩,hw''⟩:=hw';subst hw''
  go_wp2
  go_ret
  exact ⟨jx (by rw [HF.out]),jy (jy (((Below.refl _ _).alloc (by simp) _).alloc (by simp) _) hb1) (below_regrown w1 dq osq)⟩
 all_goals
  have HR:=Lib.hid hr;obtain ⟨A,c,rfl,hc1,hc2,hca⟩:=Rep.open_ (size:=8) (enc:=jd) (fun _=>rfl) (by decide) ah1
  have hk:k<y.runs.length:=(List.getElem?_eq_some_iff.1 hx).1;unfold maxLen at hc2;have hl1:y.runs.length≤9223372036854775807:=by omega
  obtain ⟨b1,o1,vk1,T1,rfl,-,hr1,-,-,hbl,hx1⟩:=hca k r hx;clear hca;obtain ⟨v0,v1,U0,U1,rfl,-,hts,-⟩:=kh hr1;have p7:=hx1 7 _ rfl;clear hx1 hr1;obtain ⟨B,d,rfl,hd1,hd2,hdb⟩:=Rep.open_ (size:=4) (enc:=jn) (fun _=>rfl) (by decide) hts
  unfold maxLen at hd2;have hl2:r.tasks.length≤9223372036854775807:=by omega
  have hk0:decide ((k:Int)≥0)=true:=by simp
  have hk1:decide ((k:Int)<0)=false:=by simp
  clear hr hx
 ·clear hdb
  have HF:Hid (kr y e=false):=by unfold kr;rw [ht];rfl
  have HW:Hid (inb e.task 0 ((r.tasks.length:Int)-1)=false):=vx hno;clear ht hno
  go_enter Tryz.func141,Tryz.ntmps141
  go_wp2_with (go_at_call 152;refine (ci (jaA y e.run _ _ _ own ⟨_,rfl,jas (upA (upA ah0 _) _) (upA (upA ah1 _) _)⟩) HR.out).mono ?_;rintro e1 w1 ⟨rfl,hb1⟩;obtain ⟨hc1,hf1⟩:=qa hb1)
  have hBw:Below w.heap.size w w1:=jy (((Below.refl _ _).alloc (by simp) _).alloc (by simp) _) hb1
  have p7':=jgu hBw p7;have q3:∀(d:Nat) (os:Array Obj),(grow (redrawn w1 d) os).cell? ⟨w.heap.size,3,none⟩=some (.slice (some ⟨b1,o1,none⟩) y.runs.length c):=fun d os=>cell_regrown ((hc1 _ _ (by simp;try omega)).trans (by simp [go_sem])) d os
  have r3:∀(d:Nat) (os:Array Obj),(grow (redrawn w1 d) os).cell? ⟨w.heap.size+1,3,none⟩=some (.int .i64 e.task):=fun d os=>cell_regrown ((hc1 _ _ (by simp;try omega)).trans (by simp [go_sem])) d os
  refine wp_region_quiet_below (by kernel_rfl) (by kernel_rfl) ?_
  repeat (go_big_quiet_step (exact Calls.regrown_of (cb (zr _ _ _ _) HW.out)))
  refine wpQuiet_nil ?_;intro _ hw';obtain ⟨⟨dq,osq⟩,hw''⟩:=hw';subst hw''
  go_wp2
  go_ret
  exact ⟨jx (by rw [HF.out]),jy hBw (below_regrown w1 dq osq)⟩
 ·obtain ⟨b2,o2,vk2,T2,rfl,-,hr2,-,-,hbl2,hx2⟩:=hdb j t htx
  clear hdb;obtain ⟨rfl,rfl⟩:=qF hr2;have p0:w.cell? ⟨b2,o2+j*4,none⟩=some (.int .i64 t.state):=hx2 0 _ rfl;have hjl:j<r.tasks.length:=(List.getElem?_eq_some_iff.1 htx).1;clear hx2 hr2 htx;obtain ⟨e1,e2,e3,e4⟩:=e;simp only at hj HR ht;subst hj;have HW:Hid (inb (j:Int) 0 ((r.tasks.length:Int)-1)=true):=jaC (by omega)
  by_cases hst:t.state=2
  all_goals
   first|(have hs:(t.state==2)=true:=by simpa using hst)|(have hs:(t.state==2)=false:=by simpa using hst)
   have HF:=Lib.hid (show kr y ⟨e1,e2,e3,j⟩=(t.state==2) by unfold kr;rw [ht])
   clear ht hst
   go_enter Tryz.func141,Tryz.ntmps141
   go_wp2_with (go_at_call 152;refine (ci (jaA y e3 _ _ _ own ⟨_,rfl,jas (upA (upA ah0 _) _) (upA (upA ah1 _) _)⟩) HR.out).mono ?_;rintro e1 w1 ⟨rfl,hb1⟩;obtain ⟨hc1,hf1⟩:=qa hb1)
   have hBw:Below w.heap.size w w1:=jy (((Below.refl _ _).alloc (by simp) _).alloc (by simp) _) hb1
   have p7':=jgu hBw p7;have q3:∀(d:Nat) (os:Array Obj),(grow (redrawn w1 d) os).cell? ⟨w.heap.size,3,none⟩=some (.slice (some ⟨b1,o1,none⟩) y.runs.length c):=fun d os=>cell_regrown ((hc1 _ _ (by simp;try omega)).trans (by simp [go_sem])) d os
   have r3:∀(d:Nat) (os:Array Obj),(grow (redrawn w1 d) os).cell? ⟨w.heap.size+1,3,none⟩=some (.int .i64 j):=fun d os=>cell_regrown ((hc1 _ _ (by simp;try omega)).trans (by simp [go_sem])) d os
   have p0':=jgu hBw p0;refine wp_region_quiet_below (by kernel_rfl) (by kernel_rfl) ?_
   repeat (go_big_quiet_step (exact Calls.regrown_of (cb (zr _ _ _ _) HW.out)))
   refine wpQuiet_nil ?_;intro _ hw';obtain ⟨⟨dq,osq⟩,hw''⟩:=hw';subst hw''
   go_wp2
   go_ret
   exact ⟨jx (by rw [HF.out,hs]),jy hBw (below_regrown w1 dq osq)⟩
open Go.RowKit Go.Sort Go.BigFrame
theorem cto {w w1:World} {b o:Nat} {v:Value} (hB:Below w.heap.size w w1) (h:w.cell? ⟨b,o,none⟩=some v):w1.cell? ⟨b,o,none⟩=some v:=
 (hB.cell (p:=⟨b,o,none⟩) (World.block_lt_of_cell? w _ h)).trans h
@[go_sem high] theorem equalEd (w:World) (x y:Ed):(Op.equalIn 10000 253 (.agg #[.int .i64 x.src,.int .i64 x.dst]) (.agg #[.int .i64 y.src,.int .i64 y.dst])).run Tryz.prog w=.ok (decide (x=y)) w:=by
  have u3:=Tryz.underlying3;have a3:=Tryz.isAgg3;have z3:=Tryz.sizeOf3;rw [show (10000:Nat)=9999+1 from rfl,run_equalIn_agg w 9999 253 _ _ (by kernel_rfl) (by kernel_rfl)]
  simp only [Program.fieldsOf,Tryz.underlying253];obtain ⟨xsrc,xdst⟩:=x;obtain ⟨ysrc,ydst⟩:=y
  go_simp
  by_cases h0:xsrc=ysrc<;>by_cases h1:xdst=ydst<;>simp [h0,h1]
theorem jq4 (l m:List Ed) (a b:Value) (S S':List Nat) (w:World) (own own':Bool) (ha:Rep w own (jB l) a S) (hb:Rep w own' (jB m) b S'):
 Calls Tryz.prog 286 #[a,b] w fun e w'=>e=.returned (.bool (decide (l=m)))∧Below w.heap.size w w':=by
 obtain ⟨A,c,rfl,hc1,hc2,hca⟩:=Rep.open_ (size:=2) (enc:=jI) (fun _=>rfl) (by decide) ha
 obtain ⟨B,d,rfl,hd1,hd2,hdb⟩:=Rep.open_ (size:=2) (enc:=jI) (fun _=>rfl) (by decide) hb
 unfold maxLen at hc2 hd2;have hl1:l.length≤9223372036854775807:=by omega
 have hl2:m.length≤9223372036854775807:=by omega
 clear ha hb;by_cases hlen:l.length=m.length
 ·have HL:=Lib.hid hlen
  have hne:((l.length:Int) !=(m.length:Int))=false:=by rw [hlen];simp
  clear hlen
  go_enter Tryz.func286,Tryz.ntmps286
  go_wp2
  go_loopw [5,13] (fun _ i wr=>∃k:Nat,k≤l.length∧i=.int .i64 k∧l.take k=m.take k∧Below w.heap.size w wr) (fun _ i _=>l.length-(intOf i).toNat)
  case atStart=>exact ⟨0,by omega,rfl,rfl,Below.refl _ _⟩
  case round=>
   obtain ⟨k,hk,rfl,heq,hbel⟩:=hrel;have HQ:=Lib.hid heq;clear heq;by_cases hlt:k<l.length
   ·have hlt':k<m.length:=by have:=HL.out;omega
    obtain ⟨x,hx⟩:=je hlt;obtain ⟨y,hy⟩:=je hlt';obtain ⟨b1,o1,vk1,T1,rfl,-,hr1,-,-,hb1,hx1⟩:=hca k x hx;obtain ⟨b2,o2,vk2,T2,rfl,-,hr2,-,-,hb2,hx2⟩:=hdb k y hy;clear hca hdb;obtain ⟨rfl,rfl⟩:=za hr1;obtain ⟨rfl,rfl⟩:=za hr2;have HX:=Lib.hid hx;have HY:=Lib.hid hy;clear hx hy;have p0:=cell_regrown (cto (b:=b1) (o:=o1+k*2) hbel (hx1 0 _ rfl));have q0:=cell_regrown (cto (b:=b2) (o:=o2+k*2) hbel (hx2 0 _ rfl));have p1:=cell_regrown (cto (b:=b1) (o:=o1+k*2+1) hbel (hx1 1 _ rfl));have q1:=cell_regrown (cto (b:=b2) (o:=o2+k*2+1) hbel (hx2 1 _ rfl));clear hx1 hx2 hr1 hr2;by_cases hxy:x=y
    ·have HXY:=Lib.hid hxy
     have hd:decide (x=y)=true:=decide_eq_true hxy;clear hxy
     go_wp2
     refine wp_region_quiet_below (by kernel_rfl) (by kernel_rfl) ?_
     repeat (go_big_quiet_step (fail))
     refine wpQuiet_nil ?_;intro _ hw';obtain ⟨⟨dq,osq⟩,hw''⟩:=hw';subst hw'';have hbel2:=hbel.trans ((below_regrown wr dq osq).mono hbel.size)
     go_wp2
     go_roundw
     case rel=>exact ⟨k+1,by omega,by go_num,jbl HX.out (HXY.out▸HY.out) HQ.out,hbel2⟩
     case measure=>simp [intOf];omega
    ·have HXY:=Lib.hid hxy
     have hd:decide (x=y)=false:=decide_eq_false hxy;clear hxy
     go_wp2
     refine wp_region_quiet_below (by kernel_rfl) (by kernel_rfl) ?_
     repeat (go_big_quiet_step (fail))
     refine wpQuiet_nil ?_;intro _ hw';obtain ⟨⟨dq,osq⟩,hw''⟩:=hw';subst hw'';have hbel2:=hbel.trans ((below_regrown wr dq osq).mono hbel.size)
     go_wp2
     go_ret
     exact ⟨jx (decide_eq_false (jiL HX.out HY.out HXY.out)).symm,hbel2⟩
   ·clear hca hdb
    go_wp2
    go_ret
    exact ⟨jx (decide_eq_true (jbm (k:=k) (by omega) (by have:=HL.out;omega) HQ.out)).symm,hbel⟩
 ·have hne:((l.length:Int) !=(m.length:Int))=true:=bne_iff_ne.2 (by omega)
  clear hca hdb
  go_enter Tryz.func286,Tryz.ntmps286
  go_wp2
  go_ret
  exact ⟨jx (decide_eq_false (fun e=>hlen (by rw [e]))).symm,Below.refl _ _⟩
theorem joi (x y:Pl) (a b:Value) (S S':List Nat) (w:World) (own own':Bool) (ha:AggRep w own (ja x) a S) (hb:AggRep w own' (ja y) b S'):
 Calls Tryz.prog 269 #[a,b] w fun e w'=>e=.returned (.bool (decide (x=y)))∧Below w.heap.size w w':=by
 obtain ⟨_,rfl,ha⟩:=ha;obtain ⟨_,rfl,hb⟩:=hb;obtain ⟨av0,rfl,ah0⟩:=vF ha;obtain ⟨bv0,rfl,bh0⟩:=vF hb;clear ha hb;obtain ⟨xprio,xmost,xwait,xtasks,xedges⟩:=x;obtain ⟨yprio,ymost,ywait,ytasks,yedges⟩:=y
 go_enter Tryz.func269,Tryz.ntmps269
 go_wp2_with (first
  |(go_at_call 286;refine (jq4 xedges yedges _ _ _ _ _ _ _ (ah0.below (by repeat (first|exact Below.refl _ _|assumption|refine Below.alloc ?_ (by simp;try omega) _|refine jy ?_ (by assumption))) (Nat.le_refl _)) (bh0.below (by repeat (first|exact Below.refl _ _|assumption|refine Below.alloc ?_ (by simp;try omega) _|refine jy ?_ (by assumption))) (Nat.le_refl _))).mono ?_;rintro e w1 ⟨rfl,hb1⟩;obtain ⟨hc1,hf1⟩:=qa hb1))
 all_goals go_ret
 all_goals refine ⟨?_,(by repeat (first|exact Below.refl _ _|assumption|refine Below.alloc ?_ (by simp;try omega) _|refine jy ?_ (by assumption)))⟩
 all_goals (simp_all<;>rfl)
theorem joj (x y:Dd) (a b:Value) (S S':List Nat) (w:World) (own own':Bool) (ha:AggRep w own (jg x) a S) (hb:AggRep w own' (jg y) b S'):
 Calls Tryz.prog 205 #[a,b] w fun e w'=>e=.returned (.bool (decide (x=y)))∧Below w.heap.size w w':=by
 obtain ⟨_,rfl,ha⟩:=ha;obtain ⟨_,rfl,hb⟩:=hb;obtain ⟨av0,rfl,ah0⟩:=kE ha;obtain ⟨bv0,rfl,bh0⟩:=kE hb;clear ha hb;obtain ⟨xkind,xrun,xplan,xtask,xtri,xworker,xdraw⟩:=x;obtain ⟨ykind,yrun,yplan,ytask,ytri,yworker,ydraw⟩:=y
 go_enter Tryz.func205,Tryz.ntmps205
 go_wp2_with (first
  |(go_at_call 269;refine (joi xplan yplan _ _ _ _ _ own own' ⟨_,rfl,jfS (ah0.below (by repeat (first|exact Below.refl _ _|assumption|refine Below.alloc ?_ (by simp;try omega) _|refine jy ?_ (by assumption))) (Nat.le_refl _))⟩ ⟨_,rfl,jfS (bh0.below (by repeat (first|exact Below.refl _ _|assumption|refine Below.alloc ?_ (by simp;try omega) _|refine jy ?_ (by assumption))) (Nat.le_refl _))⟩).mono ?_;rintro e w1 ⟨rfl,hb1⟩;obtain ⟨hc1,hf1⟩:=qa hb1))
 all_goals go_ret
 all_goals refine ⟨?_,(by repeat (first|exact Below.refl _ _|assumption|refine Below.alloc ?_ (by simp;try omega) _|refine jy ?_ (by assumption)))⟩
 all_goals (simp_all<;>rfl)
open Go.RowKit Go.Sort Go.BigFrame
theorem jvW (y:Yd) (id task tri:Int) (a:Value) (S:List Nat) (w:World) (own:Bool) (ha:AggRep w own (jb y) a S):
 Calls Tryz.prog 227 #[a,.int .i64 id,.int .i64 task,.int .i64 tri] w fun e1 w'=>e1=.returned (.bool (vS y id task tri))∧Below w.heap.size w w':=by
 obtain ⟨_,rfl,ha⟩:=ha;obtain ⟨sv,rv,S1,S2,rfl,ah0,ah1,rfl⟩:=qf ha;clear ha;rcases vI y id task with ⟨hr,ht⟩|⟨k,r,hr,hx,⟨hno,ht⟩|⟨j,t,hj,htx,ht⟩⟩
 ·have HR:=Lib.hid hr
  have HF:Hid (vS y id task tri=false):=by unfold vS;rw [ht];rfl
  clear hr ht
  go_enter Tryz.func227,Tryz.ntmps227
  go_wp2_with (go_at_call 56;refine (ci (jaE y id _ _ _ own ⟨_,rfl,jas (upA ah0 _) (upA ah1 _)⟩) HR.out).mono ?_;rintro e1 w1 ⟨rfl,hb1⟩;obtain ⟨hc1,hf1⟩:=qa hb1)
  go_ret
  exact ⟨jx (by rw [HF.out]),jy ((Below.refl _ _).alloc (by simp) _) hb1⟩
 all_goals
  have HR:=Lib.hid hr;obtain ⟨A,c,rfl,hc1,hc2,hca⟩:=Rep.open_ (size:=8) (enc:=jd) (fun _=>rfl) (by decide) ah1
  have hk:k<y.runs.length:=(List.getElem?_eq_some_iff.1 hx).1;unfold maxLen at hc2;have hl1:y.runs.length≤9223372036854775807:=by omega
  obtain ⟨b1,o1,vk1,T1,rfl,-,hr1,-,-,hbl,hx1⟩:=hca k r hx;clear hca;obtain ⟨v0,v1,U0,U1,rfl,-,hts,-⟩:=kh hr1;have p7:=hx1 7 _ rfl;clear hx1 hr1;obtain ⟨B,d,rfl,hd1,hd2,hdb⟩:=Rep.open_ (size:=4) (enc:=jn) (fun _=>rfl) (by decide) hts
  unfold maxLen at hd2;have hl2:r.tasks.length≤9223372036854775807:=by omega
  have hk0:decide ((k:Int)≥0)=true:=by simp
  have hk1:decide ((k:Int)<0)=false:=by simp
  clear hr hx
 ·clear hdb
  have HF:Hid (vS y id task tri=false):=by unfold vS;rw [ht];rfl
  have HW:Hid (inb task 0 ((r.tasks.length:Int)-1)=false):=vx hno;clear ht hno
  go_enter Tryz.func227,Tryz.ntmps227
  go_wp2_with fail
  refine (ci (jaE y id _ _ _ own ⟨_,rfl,jas (upA ah0 _) (upA ah1 _)⟩) HR.out).mono ?_;rintro e1 w1 ⟨rfl,hb1⟩;obtain ⟨hc1,hf1⟩:=qa hb1;have hBw:Below w.heap.size w w1:=jy ((Below.refl _ _).alloc (by simp) _) hb1
  have p7':=ju hBw p7;have q3:w1.cell? ⟨w.heap.size,3,none⟩=some (.slice (some ⟨b1,o1,none⟩) y.runs.length c):=(hc1 _ _ (by simp)).trans (by simp [go_sem])
  go_wp2_with (go_at_call 78;refine (cb (vv _ _ _ _) HW.out).mono ?_;rintro e2 w2 ⟨rfl,hb2⟩;obtain ⟨hc2,hf2⟩:=qa hb2)
  go_ret
  exact ⟨jx (by rw [HF.out]),jy hBw hb2⟩
 ·obtain ⟨b2,o2,vk2,T2,rfl,-,hr2,-,-,hbl2,hx2⟩:=hdb j t htx
  clear hdb;obtain ⟨rfl,rfl⟩:=qF hr2;have p0:w.cell? ⟨b2,o2+j*4,none⟩=some (.int .i64 t.state):=hx2 0 _ rfl;have p1:=hx2 1 _ rfl;have p2:=hx2 2 _ rfl;have p3:=hx2 3 _ rfl;have hjl:j<r.tasks.length:=(List.getElem?_eq_some_iff.1 htx).1;clear hx2 hr2 htx;subst hj;have HW:Hid (inb (j:Int) 0 ((r.tasks.length:Int)-1)=true):=jaC (by omega)
  by_cases hst:t.state=3
  ·have hs:(t.state==3)=true:=by simpa using hst
   by_cases htr:t.tri=tri
   all_goals
    first|(have hs2:(t.tri==tri)=true:=by simpa using htr)|(have hs2:(t.tri==tri)=false:=by simpa using htr)
    have HF:=Lib.hid (show vS y id j tri=(t.tri==tri) by unfold vS;rw [ht];simp [hs])
    clear ht hst htr
    go_enter Tryz.func227,Tryz.ntmps227
    go_wp2_with fail
    refine (ci (jaE y id _ _ _ own ⟨_,rfl,jas (upA ah0 _) (upA ah1 _)⟩) HR.out).mono ?_;rintro e1 w1 ⟨rfl,hb1⟩;obtain ⟨hc1,hf1⟩:=qa hb1;have hBw:Below w.heap.size w w1:=jy ((Below.refl _ _).alloc (by simp) _) hb1
    have p7':=ju hBw p7;have q3:w1.cell? ⟨w.heap.size,3,none⟩=some (.slice (some ⟨b1,o1,none⟩) y.runs.length c):=(hc1 _ _ (by simp)).trans (by simp [go_sem])
    go_wp2_with fail
    refine (cb (vv _ _ _ _) HW.out).mono ?_;rintro e2 w2 ⟨rfl,hb2⟩;obtain ⟨hc2,hf2⟩:=qa hb2
    replace p7':=ju hb2 p7'
    replace q3:=ju hb2 q3
    have p0':=ju hb2 (ju hBw p0);have p1':=ju hb2 (ju hBw p1);have p2':=ju hb2 (ju hBw p2);have p3':=ju hb2 (ju hBw p3)
    go_wp2
    go_ret
    exact ⟨jx (by rw [HF.out,hs2]),by repeat (first|(with_reducible exact jy hBw hb2)|((with_reducible refine Below.alloc ?_ ?_ _);rotate_left;focus (exact (jy hBw hb2).size)))⟩
  ·have hs:(t.state==3)=false:=by simpa using hst
   have HF:=Lib.hid (show vS y id j tri=false by unfold vS;rw [ht];simp [hs])
   clear ht hst
   go_enter Tryz.func227,Tryz.ntmps227
   go_wp2_with fail
   refine (ci (jaE y id _ _ _ own ⟨_,rfl,jas (upA ah0 _) (upA ah1 _)⟩) HR.out).mono ?_;rintro e1 w1 ⟨rfl,hb1⟩;obtain ⟨hc1,hf1⟩:=qa hb1;have hBw:Below w.heap.size w w1:=jy ((Below.refl _ _).alloc (by simp) _) hb1
   have p7':=ju hBw p7;have q3:w1.cell? ⟨w.heap.size,3,none⟩=some (.slice (some ⟨b1,o1,none⟩) y.runs.length c):=(hc1 _ _ (by simp)).trans (by simp [go_sem])
   go_wp2_with fail
   refine (cb (vv _ _ _ _) HW.out).mono ?_;rintro e2 w2 ⟨rfl,hb2⟩;obtain ⟨hc2,hf2⟩:=qa hb2
   replace p7':=ju hb2 p7'
   replace q3:=ju hb2 q3
   have p0':=ju hb2 (ju hBw p0);have p1':=ju hb2 (ju hBw p1);have p2':=ju hb2 (ju hBw p2);have p3':=ju hb2 (ju hBw p3)
   go_wp2
   go_ret
   exact ⟨jx (by rw [HF.out]),by repeat (first|(with_reducible exact jy hBw hb2)|((with_reducible refine Below.alloc ?_ ?_ _);rotate_left;focus (exact (jy hBw hb2).size)))⟩
theorem jvc (y:Yd) (id task tri:Int) (a:Value) (S:List Nat) (w:World) (own:Bool) (ha:AggRep w own (jb y) a S):
 Calls Tryz.prog 262 #[a,.int .i64 id,.int .i64 task,.int .i64 tri] w fun e1 w'=>e1=.returned (.bool (vS y id task tri))∧Below w.heap.size w w':=by
 obtain ⟨_,rfl,ha⟩:=ha;obtain ⟨sv,rv,S1,S2,rfl,ah0,ah1,rfl⟩:=qf ha;clear ha;rcases vI y id task with ⟨hr,ht⟩|⟨k,r,hr,hx,⟨hno,ht⟩|⟨j,t,hj,htx,ht⟩⟩
 ·have HR:=Lib.hid hr
  have HF:Hid (vS y id task tri=false):=by unfold vS;rw [ht];rfl
  clear hr ht
  go_enter Tryz.func262,Tryz.ntmps262
  go_wp2_with (go_at_call 152;refine (ci (jaA y id _ _ _ own ⟨_,rfl,jas (upA ah0 _) (upA ah1 _)⟩) HR.out).mono ?_;rintro e1 w1 ⟨rfl,hb1⟩;obtain ⟨hc1,hf1⟩:=qa hb1)
  go_ret
  exact ⟨jx (by rw [HF.out]),jy ((Below.refl _ _).alloc (by simp) _) hb1⟩
 all_goals
  have HR:=Lib.hid hr;obtain ⟨A,c,rfl,hc1,hc2,hca⟩:=Rep.open_ (size:=8) (enc:=jd) (fun _=>rfl) (by decide) ah1
  have hk:k<y.runs.length:=(List.getElem?_eq_some_iff.1 hx).1;unfold maxLen at hc2;have hl1:y.runs.length≤9223372036854775807:=by omega
  obtain ⟨b1,o1,vk1,T1,rfl,-,hr1,-,-,hbl,hx1⟩:=hca k r hx;clear hca;obtain ⟨v0,v1,U0,U1,rfl,-,hts,-⟩:=kh hr1;have p7:=hx1 7 _ rfl;clear hx1 hr1;obtain ⟨B,d,rfl,hd1,hd2,hdb⟩:=Rep.open_ (size:=4) (enc:=jn) (fun _=>rfl) (by decide) hts
  unfold maxLen at hd2;have hl2:r.tasks.length≤9223372036854775807:=by omega
  have hk0:decide ((k:Int)≥0)=true:=by simp
  have hk1:decide ((k:Int)<0)=false:=by simp
  clear hr hx
 ·clear hdb
  have HF:Hid (vS y id task tri=false):=by unfold vS;rw [ht];rfl
  have HW:Hid (inb task 0 ((r.tasks.length:Int)-1)=false):=vx hno;clear ht hno
  go_enter Tryz.func262,Tryz.ntmps262
  go_wp2_with fail
  refine (ci (jaA y id _ _ _ own ⟨_,rfl,jas (upA ah0 _) (upA ah1 _)⟩) HR.out).mono ?_;rintro e1 w1 ⟨rfl,hb1⟩;obtain ⟨hc1,hf1⟩:=qa hb1;have hBw:Below w.heap.size w w1:=jy ((Below.refl _ _).alloc (by simp) _) hb1
  have p7':=ju hBw p7;have q3:w1.cell? ⟨w.heap.size,3,none⟩=some (.slice (some ⟨b1,o1,none⟩) y.runs.length c):=(hc1 _ _ (by simp)).trans (by simp [go_sem])
  go_wp2_with (go_at_call 74;refine (cb (zr _ _ _ _) HW.out).mono ?_;rintro e2 w2 ⟨rfl,hb2⟩;obtain ⟨hc2,hf2⟩:=qa hb2)
  go_ret
  exact ⟨jx (by rw [HF.out]),jy hBw hb2⟩
 ·obtain ⟨b2,o2,vk2,T2,rfl,-,hr2,-,-,hbl2,hx2⟩:=hdb j t htx
  clear hdb;obtain ⟨rfl,rfl⟩:=qF hr2;have p0:w.cell? ⟨b2,o2+j*4,none⟩=some (.int .i64 t.state):=hx2 0 _ rfl;have p1:=hx2 1 _ rfl;have p2:=hx2 2 _ rfl;have p3:=hx2 3 _ rfl;have hjl:j<r.tasks.length:=(List.getElem?_eq_some_iff.1 htx).1;clear hx2 hr2 htx;subst hj;have HW:Hid (inb (j:Int) 0 ((r.tasks.length:Int)-1)=true):=jaC (by omega)
  by_cases hst:t.state=3
  ·have hs:(t.state==3)=true:=by simpa using hst
   by_cases htr:t.tri=tri
   all_goals
    first|(have hs2:(t.tri==tri)=true:=by simpa using htr)|(have hs2:(t.tri==tri)=false:=by simpa using htr)
    have HF:=Lib.hid (show vS y id j tri=(t.tri==tri) by unfold vS;rw [ht];simp [hs])
    clear ht hst htr
    go_enter Tryz.func262,Tryz.ntmps262
    go_wp2_with fail
    refine (ci (jaA y id _ _ _ own ⟨_,rfl,jas (upA ah0 _) (upA ah1 _)⟩) HR.out).mono ?_;rintro e1 w1 ⟨rfl,hb1⟩;obtain ⟨hc1,hf1⟩:=qa hb1;have hBw:Below w.heap.size w w1:=jy ((Below.refl _ _).alloc (by simp) _) hb1
    have p7':=ju hBw p7;have q3:w1.cell? ⟨w.heap.size,3,none⟩=some (.slice (some ⟨b1,o1,none⟩) y.runs.length c):=(hc1 _ _ (by simp)).trans (by simp [go_sem])
    go_wp2_with fail
    refine (cb (zr _ _ _ _) HW.out).mono ?_;rintro e2 w2 ⟨rfl,hb2⟩;obtain ⟨hc2,hf2⟩:=qa hb2
    replace p7':=ju hb2 p7'
    replace q3:=ju hb2 q3
    have p0':=ju hb2 (ju hBw p0);have p1':=ju hb2 (ju hBw p1);have p2':=ju hb2 (ju hBw p2);have p3':=ju hb2 (ju hBw p3)
    go_wp2
    go_ret
    exact ⟨jx (by rw [HF.out,hs2]),by repeat (first|(with_reducible exact jy hBw hb2)|((with_reducible refine Below.alloc ?_ ?_ _);rotate_left;focus (exact (jy hBw hb2).size)))⟩
  ·have hs:(t.state==3)=false:=by simpa using hst
   have HF:=Lib.hid (show vS y id j tri=false by unfold vS;rw [ht];simp [hs])
   clear ht hst
   go_enter Tryz.func262,Tryz.ntmps262
   go_wp2_with fail
   refine (ci (jaA y id _ _ _ own ⟨_,rfl,jas (upA ah0 _) (upA ah1 _)⟩) HR.out).mono ?_;rintro e1 w1 ⟨rfl,hb1⟩;obtain ⟨hc1,hf1⟩:=qa hb1;have hBw:Below w.heap.size w w1:=jy ((Below.refl _ _).alloc (by simp) _) hb1
   have p7':=ju hBw p7;have q3:w1.cell? ⟨w.heap.size,3,none⟩=some (.slice (some ⟨b1,o1,none⟩) y.runs.length c):=(hc1 _ _ (by simp)).trans (by simp [go_sem])
   go_wp2_with fail
   refine (cb (zr _ _ _ _) HW.out).mono ?_;rintro e2 w2 ⟨rfl,hb2⟩;obtain ⟨hc2,hf2⟩:=qa hb2
   replace p7':=ju hb2 p7'
   replace q3:=ju hb2 q3
   have p0':=ju hb2 (ju hBw p0);have p1':=ju hb2 (ju hBw p1);have p2':=ju hb2 (ju hBw p2);have p3':=ju hb2 (ju hBw p3)
   go_wp2
   go_ret
   exact ⟨jx (by rw [HF.out]),by repeat (first|(with_reducible exact jy hBw hb2)|((with_reducible refine Below.alloc ?_ ?_ _);rotate_left;focus (exact (jy hBw hb2).size)))⟩
end Go.Proofs.YtmnpailnelmpiaaGreat
