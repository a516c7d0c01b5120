/- Parts. -/
import Derived.Test.YtmnpailnelmpiaaGreatQData
import Derived.Test.YtmnpailnelmpiaaGreatQEq
import Derived.Test.YtmnpailnelmpiaaGreatQSz
import Derived.Test.YtmnpailnelmpiaaGreatQTo
import Derived.ProofKit
import Derived.Deep.Slices
import Derived.ChangeSame
import Derived.Deep.RegionWith
import Derived.Laws.StructEq
set_option linter.unusedSimpArgs false
set_option linter.unusedVariables false
set_option maxHeartbeats 2000000
namespace Go.Proofs.YtmnpailnelmpiaaGreat
open Go.RowKit Go.ChangeShapes Go.WideShapes Go.Deep Go.ChangeAt
def inR (n:Int):Prop:=-9223372036854775808≤n∧n≤9223372036854775807
def Pl.wf (p:Pl):Prop:=inR p.prio∧inR p.most∧inR p.wait∧inR p.tasks∧∀e∈p.edges,inR e.src∧inR e.dst
def En.wf (e:En):Prop:=inR e.prio∧inR e.seq∧inR e.run∧inR e.task
def Tk.wf (e:Tk):Prop:=inR e.state∧inR e.need∧inR e.tri∧inR e.til
def Rn.wf (r:Rn):Prop:=inR r.id∧r.plan.wf∧inR r.state∧∀t∈r.tasks,t.wf
def Yd.wf (y:Yd):Prop:=inR y.now∧inR y.seq∧(∀l∈y.shelf,∀e∈l,e.wf)∧∀r∈y.runs,r.wf
def Dd.wf (d:Dd):Prop:=inR d.kind∧inR d.run∧d.plan.wf∧inR d.task∧inR d.tri∧inR d.worker∧inR d.draw
def Nt.wf (n:Nt):Prop:=inR n.seq∧n.deed.wf
def ReadsAs (P:Program) (t:TypeId) {α:Type} (E:α→List D) (W:α→Prop):Prop:=
 ∀(H:Type) (enc:TypeId×Value→H) (w:World) (base:Nat) (spare:Nat→Bool) (held:Bool) (n:Nat) (cs:List Value) (y:DataW H×List MemPlace),
  DataW.trod enc P w base spare held n t cs=some y→∃x,W x∧∃S,RepL w false (E x) cs S
def jwb (H:Type) (enc:TypeId×Value→H) (P:Program) (w:World) (base:Nat) (spare:Nat→Bool) (held:Bool) (n:Nat):List Field→List Value→Prop
 |[],cs=>cs=[]
 |f::l,cs=>(∃y,DataW.trod enc P w base spare held n f.type (cs.take (P.cellsOf f.type))=some y)∧jwb H enc P w base spare held n l (cs.drop (P.cellsOf f.type))
def jhY (P:Program) (l:List Field) {α:Type} (E:α→List D) (W:α→Prop):Prop:=
 ∀(H:Type) (enc:TypeId×Value→H) (w:World) (base:Nat) (spare:Nat→Bool) (held:Bool) (n:Nat) (cs:List Value),jwb H enc P w base spare held n l cs→∃x,W x∧∃S,RepL w false (E x) cs S
def jr8 (P:Program):List Field→Nat→Nat→Bool
 |[],off,tot=>off==tot
 |f::l,off,tot=>f.offset==off&&jr8 P l (off+P.cellsOf f.type) tot
section
variable {P:Program} {t e:TypeId} {α β:Type} {E:α→List D} {E':β→List D} {W:α→Prop} {W':β→Prop}
theorem ReadsAs.map (h:ReadsAs P t E W) (g:α→β) (hE:∀a,E' (g a)=E a) (hW:∀a,W a→W' (g a)):ReadsAs P t E' W':=by
 intro H enc w base spare held n cs y hy;obtain ⟨x,hx,S,hr⟩:=h H enc w base spare held n cs y hy;exact ⟨g x,hW x hx,S,by rw [hE];exact hr⟩
theorem jzJ (ht:P.underlying t=some (.int .i64)):ReadsAs P t (fun n=>[iv n]) inR:=by
 intro H enc w base spare held n cs y hy;obtain ⟨i,rfl,_,hw⟩:=DataW.trod_int ht hy;refine ⟨i,?_,[],RepL.val_ RepL.nil_⟩;simpa [Lit.wf,IntKind.min,IntKind.max,IntKind.signed,IntKind.bits,inR] using hw
theorem jgH:jhY P [] (fun _:Unit=>[]) (fun _=>True):=by
 intro H enc w base spare held n cs h;cases cs with
 |nil=>exact ⟨(),trivial,[],RepL.nil_⟩
 |cons c cs=>exact absurd h (by simp [jwb])
theorem kp {f:Field} {l:List Field} (h:ReadsAs P f.type E W) (k:jhY P l E' W'):jhY P (f::l) (fun p:α×β=>E p.1++E' p.2) (fun p=>W p.1∧W' p.2):=by
 intro H enc w base spare held n cs hs;obtain ⟨⟨y,hy⟩,hs⟩:=hs;obtain ⟨x,hx,S,hr⟩:=h H enc w base spare held n _ y hy;obtain ⟨x',hx',S',hr'⟩:=k H enc w base spare held n _ hs;refine ⟨(x,x'),⟨hx,hx'⟩,S++S',?_⟩;have:=RepL.append_ _ hr hr'
 rwa [List.take_append_drop] at this
theorem jwk {H:Type} {enc:TypeId×Value→H} {w:World} {base:Nat} {spare:Nat→Bool} {held:Bool} {n:Nat}:∀(l:List Field) (off tot:Nat) (cs:List Value),jr8 P l off tot=true→cs.length=tot→
 (∀f∈l,∃y,DataW.trod enc P w base spare held n f.type ((cs.drop f.offset).take (P.cellsOf f.type))=some y)→jwb H enc P w base spare held n l (cs.drop off)
 |[],off,tot,cs,h,hl,_=>by
  simp [jr8] at h;exact List.drop_eq_nil_of_le (by omega)
 |f::l,off,tot,cs,h,hl,hf=>by
  simp only [jr8,Bool.and_eq_true,beq_iff_eq] at h;obtain ⟨y,hy⟩:=hf f (by simp)
  rw [h.1] at hy;refine ⟨⟨y,hy⟩,?_⟩;rw [List.drop_drop];exact jwk l _ tot cs h.2 hl fun g hg=>hf g (by simp [hg])
theorem zy {fs:Array Field} (ht:P.underlying t=some (.struct fs)) (hs:jr8 P fs.toList 0 (P.cellsOf t)=true) (h:jhY P fs.toList E W):ReadsAs P t E W:=by
 intro H enc w base spare held n cs y hy;obtain ⟨xs,m,_,_,hlen,hxl,hf⟩:=DataW.trod_struct ht hy
 have:=jwk (H:=H) (enc:=enc) (w:=w) (base:=base) (spare:=spare) (held:=held) (n:=m) fs.toList 0 _ cs hs hlen (fun f hf'=>by
  obtain ⟨i,hi,rfl⟩:=List.getElem_of_mem hf';have hi':i<fs.size:=by simpa using hi
  refine ⟨xs[i]'(by omega),?_⟩
  have h1:=hf i fs[i] (Array.getElem?_eq_getElem hi');rw [List.getElem?_eq_getElem (by omega)] at h1
  simpa using h1)
 rw [List.drop_zero] at this;exact h H enc w base spare held m cs this
theorem jtN {w:World} {a:Addr} {v:Value} (h:w.cell? a=some v):a=⟨a.block,a.off,none⟩:=by
 obtain ⟨b,o,s⟩:=a;cases s with
 |none=>rfl
 |some s=>simp only [World.cell?] at h;split at h<;>simp at h
theorem jcI {size:Nat} {ty:TypeId} (ht:P.underlying t=some (.slice e)) (h:ReadsAs P e E W) (hc:P.cellsOf e=size) (hl:∀x,(E x).length=size) (_hs:0<size):
 ReadsAs P t (fun xs:List α=>[.sl size ty (xs.flatMap E)]) (fun xs=>∀x∈xs,W x):=by
 intro H enc w base spare held n cs y hy;rcases open_slice ht hy with ⟨rfl,_⟩|⟨a,len,cap,m,n',D',Pl,rfl,hb,hlc,hcm,hm,_,hi⟩
 ·have hrep:Rep w false (.sl size ty (List.flatMap E [])) (.slice none 0 0) []:=⟨[],[],[],⟨by simp,none,0,0,rfl,by simp,Nat.le_refl _,Nat.zero_le _,fun _=>rfl,by simp⟩,RepL.nil_,rfl⟩
  exact ⟨[],by simp,[],RepL.cons_ hrep RepL.nil_⟩
 ·have hlm:len≤m:=by rw [hm];split<;>omega
  have key:∀k,k≤len→∃(xs:List α) (vs:List Value) (S:List Nat),xs.length=k∧(∀x∈xs,W x)∧RepL w false (xs.flatMap E) vs S∧∀j u,vs[j]?=some u→w.cell? (a.add j)=some u:=by
   intro k
   induction k with
   |zero=>exact fun _=>⟨[],[],[],rfl,by simp,RepL.nil_,by simp⟩
   |succ k ih=>
    intro hk;obtain ⟨xs,vs,S,hxl,hW,hr,hcell⟩:=ih (by omega)
    obtain ⟨cs',hcs,htr⟩:=hi k (by omega)
    obtain ⟨x,hx,S',hr'⟩:=h H enc w base spare held n' cs' _ htr;obtain ⟨_,hcl,hat⟩:=World.cells?_some hcs;rw [hc] at hat hcl;have hvl:vs.length=k*size:=by rw [RepL.length _ hr,jJ hl,hxl]
    refine ⟨xs++[x],vs++cs',S++S',by simp [hxl],?_,?_,?_⟩
    ·intro z hz
     rcases List.mem_append.1 hz with hz|hz
     ·exact hW z hz
     ·simp at hz;subst hz;exact hx
    ·rw [List.flatMap_append]
     exact RepL.append_ _ hr (by simpa using hr')
    ·intro j u hu
     by_cases hj:j<vs.length
     ·rw [List.getElem?_append_left hj] at hu
      exact hcell j u hu
     ·rw [List.getElem?_append_right (by omega)] at hu
      have hjl:j-vs.length<cs'.length:=(List.getElem?_eq_some_iff.1 hu).1;have h2:=hat (j-vs.length) (by omega)
      rw [hu,add_add,show k*size+(j-vs.length)=j by omega] at h2
      exact h2
  obtain ⟨xs,vs,S,hxl,hW,hr,hcell⟩:=key len (Nat.le_refl _);have hvl:vs.length=len*size:=by rw [RepL.length _ hr,jJ hl,hxl]
  refine ⟨xs,hW,?_⟩;by_cases hne:vs=[]
  ·subst hne
   refine ⟨S,?_⟩;have hrep:Rep w false (.sl size ty (xs.flatMap E)) (.slice (some a) len cap) S:=⟨[],[],S,⟨by simp,some a,len,cap,rfl,hvl,hlc,hcm,(fun e=>nomatch e),by simp⟩,hr,rfl⟩
   have:=RepL.cons_ hrep (RepL.nil_ (w:=w) (own:=false));simpa using this
  ·obtain ⟨u,us,rfl⟩:=List.exists_cons_of_ne_nil hne
   have h0:=hcell 0 u rfl;have ha:a.add 0=a:=by simp [Addr.add]
   rw [ha] at h0;have hsp:=jtN h0;have hlt:=World.block_lt_of_cell? w _ h0;refine ⟨[a.block]++S,?_⟩
   have hrep:Rep w false (.sl size ty (xs.flatMap E)) (.slice (some a) len cap) ([a.block]++S):=by
    refine ⟨u::us,[a.block],S,⟨by simpa using hlt,some a,len,cap,rfl,hvl,hlc,hcm,(fun e=>nomatch e),fun _=>⟨a.block,a.off,by rw [←hsp],rfl,fun j v hv=>?_⟩⟩,hr,rfl⟩
    have:=hcell j v hv;rw [hsp] at this
    rwa [Addr.add_mid] at this
   have:=RepL.cons_ hrep (RepL.nil_ (w:=w) (own:=false));simpa using this
end
theorem jgW:ReadsAs Tryz.prog 3 (fun n=>[iv n]) inR:=jzJ (by kernel_rfl)
theorem rEdge:ReadsAs Tryz.prog 289 jH (fun e=>inR e.src∧inR e.dst):=
 (zy Tryz.underlying289 (by kernel_rfl) (kp jgW (kp jgW jgH))).map (fun p=>⟨p.1,p.2.1⟩) (fun _=>rfl) (fun _ h=>⟨h.1,h.2.1⟩)
theorem jzS:ReadsAs Tryz.prog 57 (fun l=>[jA l]) (fun l=>∀e∈l,inR e.src∧inR e.dst):=
 jcI (size:=2) (ty:=tEd) Tryz.underlying57 rEdge (by kernel_rfl) (fun _=>rfl) (by decide)
theorem jzP:ReadsAs Tryz.prog 59 ja Pl.wf:=
 (zy Tryz.underlying59 (by kernel_rfl) (kp jgW (kp jgW (kp jgW (kp jgW (kp jzS jgH)))))).map (fun p=>⟨p.1,p.2.1,p.2.2.1,p.2.2.2.1,p.2.2.2.2.1⟩) (fun _=>rfl) (fun _ h=>⟨h.1,h.2.1,h.2.2.1,h.2.2.2.1,h.2.2.2.2.1⟩)
theorem jzR:ReadsAs Tryz.prog 286 jf En.wf:=
 (zy Tryz.underlying286 (by kernel_rfl) (kp jgW (kp jgW (kp jgW (kp jgW jgH))))).map (fun p=>⟨p.1,p.2.1,p.2.2.1,p.2.2.2.1⟩) (fun _=>rfl) (fun _ h=>⟨h.1,h.2.1,h.2.2.1,h.2.2.2.1⟩)
theorem jxy:ReadsAs Tryz.prog 212 (fun l=>[ji l]) (fun l=>∀e∈l,En.wf e):=
 jcI (size:=4) (ty:=tEn) Tryz.underlying212 jzR (by kernel_rfl) (fun _=>rfl) (by decide)
theorem ju4:ReadsAs Tryz.prog 22 (fun l=>[kt l]) (fun l=>∀es∈l,∀e∈es,En.wf e):=
 jcI (size:=1) (ty:=jno) Tryz.underlying22 jxy (by kernel_rfl) (fun _=>rfl) (by decide)
theorem rTask:ReadsAs Tryz.prog 297 jn Tk.wf:=
 (zy Tryz.underlying297 (by kernel_rfl) (kp jgW (kp jgW (kp jgW (kp jgW jgH))))).map (fun p=>⟨p.1,p.2.1,p.2.2.1,p.2.2.2.1⟩) (fun _=>rfl) (fun _ h=>⟨h.1,h.2.1,h.2.2.1,h.2.2.2.1⟩)
theorem jzO:ReadsAs Tryz.prog 214 (fun l=>[jx l]) (fun l=>∀e∈l,Tk.wf e):=
 jcI (size:=4) (ty:=tTk) Tryz.underlying214 rTask (by kernel_rfl) (fun _=>rfl) (by decide)
theorem rRun:ReadsAs Tryz.prog 216 jd Rn.wf:=
 (zy Tryz.underlying216 (by kernel_rfl) (kp jgW (kp jzP (kp jgW (kp jzO jgH))))).map (fun p=>⟨p.1,p.2.1,p.2.2.1,p.2.2.2.1⟩) (fun _=>rfl) (fun _ h=>⟨h.1,h.2.1,h.2.2.1,h.2.2.2.1⟩)
theorem rRunS:ReadsAs Tryz.prog 23 (fun l=>[jM l]) (fun l=>∀e∈l,Rn.wf e):=
 jcI (size:=8) (ty:=tRn) Tryz.underlying23 rRun (by kernel_rfl) jtw (by decide)
theorem rYard:ReadsAs Tryz.prog 25 jb Yd.wf:=
 (zy Tryz.underlying25 (by kernel_rfl) (kp jgW (kp jgW (kp ju4 (kp rRunS jgH))))).map (fun p=>⟨p.1,p.2.1,p.2.2.1,p.2.2.2.1⟩) (fun _=>rfl) (fun _ h=>⟨h.1,h.2.1,h.2.2.1,h.2.2.2.1⟩)
theorem rDeed:ReadsAs Tryz.prog 61 jh Dd.wf:=
 (zy Tryz.underlying61 (by kernel_rfl) (kp jgW (kp jgW (kp jzP (kp jgW (kp jgW (kp jgW (kp jgW jgH)))))))).map (fun p=>⟨p.1,p.2.1,p.2.2.1,p.2.2.2.1,p.2.2.2.2.1,p.2.2.2.2.2.1,p.2.2.2.2.2.2.1⟩) (fun _=>rfl) (fun _ h=>⟨h.1,h.2.1,h.2.2.1,h.2.2.2.1,h.2.2.2.2.1,h.2.2.2.2.2.1,h.2.2.2.2.2.2.1⟩)
theorem rNote:ReadsAs Tryz.prog 163 jN Nt.wf:=
 (zy Tryz.underlying163 (by kernel_rfl) (kp jgW (kp rDeed jgH))).map (fun p=>⟨p.1,p.2.1⟩) (fun _=>by simp [jN]) (fun _ h=>⟨h.1,h.2.1⟩)
theorem jzQ:ReadsAs Tryz.prog 91 (fun l=>[qa l]) (fun l=>∀e∈l,Nt.wf e):=
 jcI (size:=12) (ty:=tNt) Tryz.underlying91 rNote (by kernel_rfl) jty (by decide)
open Go.RowKit Go.Sort Go.BigFrame
theorem ci {P:Program} {f:FuncId} {args:Array Value} {w:World} {b b':Int} (h:Calls P f args w fun e w'=>e=.returned (.int .i64 b)∧Below w.heap.size w w') (hb:b=b'):Calls P f args w fun e w'=>e=.returned (.int .i64 b')∧Below w.heap.size w w':=by subst hb;exact h
section
variable {w w':World} {own:Bool} {d:D} {v:Value} {S:List Nat}
theorem upA (h:Rep w own d v S) (o:Obj):Rep (w.alloc o) own d v S:=Rep.keep d h fun b hb=>Below.heap_alloc w o b (Rep.lt d h b hb)
theorem up (h:Rep w own d v S) (hb:Below w.heap.size w w'):Rep w' own d v S:=h.below hb (Nat.le_refl _)
theorem upB {w0:World} (h:Below w0.heap.size w0 w) (o:Obj):Below w0.heap.size w0 (w.alloc o):=h.alloc h.size o
end
open Go.RowKit Go.Sort Go.BigFrame
theorem cto {w w1:World} {b o:Nat} {v:Value} (hB:Below w.heap.size w w1) (h:w.cell? ⟨b,o,none⟩=some v):w1.cell? ⟨b,o,none⟩=some v:=
 (hB.cell (p:=⟨b,o,none⟩) (World.block_lt_of_cell? w _ h)).trans h
@[go_sem high] theorem equalEd (w:World) (x y:Ed):(Op.equalIn 10000 253 (.agg #[.int .i64 x.src,.int .i64 x.dst]) (.agg #[.int .i64 y.src,.int .i64 y.dst])).run Tryz.prog w=.ok (decide (x=y)) w:=by
  have u3:=Tryz.underlying3;have a3:=Tryz.isAgg3;have z3:=Tryz.sizeOf3;rw [show (10000:Nat)=9999+1 from rfl,run_equalIn_agg w 9999 253 _ _ (by kernel_rfl) (by kernel_rfl)]
  simp only [Program.fieldsOf,Tryz.underlying253];obtain ⟨xsrc,xdst⟩:=x;obtain ⟨ysrc,ydst⟩:=y
  go_simp
  by_cases h0:xsrc=ysrc<;>by_cases h1:xdst=ydst<;>simp [h0,h1]
theorem jqN (l m:List Ed) (a b:Value) (S S':List Nat) (w:World) (own own':Bool) (ha:Rep w own (jA l) a S) (hb:Rep w own' (jA m) b S'):
 Calls Tryz.prog 286 #[a,b] w fun e w'=>e=.returned (.bool (decide (l=m)))∧Below w.heap.size w w':=by
 obtain ⟨A,c,rfl,hc1,hc2,hca⟩:=Rep.open_ (size:=2) (enc:=jH) (fun _=>rfl) (by decide) ha
 obtain ⟨B,d,rfl,hd1,hd2,hdb⟩:=Rep.open_ (size:=2) (enc:=jH) (fun _=>rfl) (by decide) hb
 unfold maxLen at hc2 hd2;have hl1:l.length≤9223372036854775807:=by omega
 have hl2:m.length≤9223372036854775807:=by omega
 clear ha hb;by_cases hlen:l.length=m.length
 ·have HL:=Lib.hid hlen
  have hne:((l.length:Int) !=(m.length:Int))=false:=by rw [hlen];simp
  clear hlen
  go_enter Tryz.func286,Tryz.ntmps286
  go_wp2
  go_loopw [5,13] (fun _ i wr=>∃k:Nat,k≤l.length∧i=.int .i64 k∧l.take k=m.take k∧Below w.heap.size w wr) (fun _ i _=>l.length-(intOf i).toNat)
  case atStart=>exact ⟨0,by omega,rfl,rfl,Below.refl _ _⟩
  case round=>
   obtain ⟨k,hk,rfl,heq,hbel⟩:=hrel;have HQ:=Lib.hid heq;clear heq;by_cases hlt:k<l.length
   ·have hlt':k<m.length:=by have:=HL.out;omega
    obtain ⟨x,hx⟩:=je hlt;obtain ⟨y,hy⟩:=je hlt';obtain ⟨b1,o1,vk1,T1,rfl,-,hr1,-,-,hb1,hx1⟩:=hca k x hx;obtain ⟨b2,o2,vk2,T2,rfl,-,hr2,-,-,hb2,hx2⟩:=hdb k y hy;clear hca hdb;obtain ⟨rfl,rfl⟩:=vX hr1;obtain ⟨rfl,rfl⟩:=vX hr2;have HX:=Lib.hid hx;have HY:=Lib.hid hy;clear hx hy;have p0:=cell_regrown (cto (b:=b1) (o:=o1+k*2) hbel (hx1 0 _ rfl));have q0:=cell_regrown (cto (b:=b2) (o:=o2+k*2) hbel (hx2 0 _ rfl));have p1:=cell_regrown (cto (b:=b1) (o:=o1+k*2+1) hbel (hx1 1 _ rfl));have q1:=cell_regrown (cto (b:=b2) (o:=o2+k*2+1) hbel (hx2 1 _ rfl));clear hx1 hx2 hr1 hr2;by_cases hxy:x=y
    ·have HXY:=Lib.hid hxy
     have hd:decide (x=y)=true:=decide_eq_true hxy;clear hxy
     go_wp2
     refine wp_region_quiet_below (by kernel_rfl) (by kernel_rfl) ?_
     repeat (go_big_quiet_step (fail))
     refine wpQuiet_nil ?_;intro _ hw';obtain ⟨⟨dq,osq⟩,hw''⟩:=hw';subst hw'';have hbel2:=hbel.trans ((below_regrown wr dq osq).mono hbel.size)
     go_wp2
     go_roundw
     case rel=>exact ⟨k+1,by omega,by go_num,jbm HX.out (HXY.out▸HY.out) HQ.out,hbel2⟩
     case measure=>simp [intOf];omega
    ·have HXY:=Lib.hid hxy
     have hd:decide (x=y)=false:=decide_eq_false hxy;clear hxy
     go_wp2
     refine wp_region_quiet_below (by kernel_rfl) (by kernel_rfl) ?_
     repeat (go_big_quiet_step (fail))
     refine wpQuiet_nil ?_;intro _ hw';obtain ⟨⟨dq,osq⟩,hw''⟩:=hw';subst hw'';have hbel2:=hbel.trans ((below_regrown wr dq osq).mono hbel.size)
     go_wp2
     go_ret
     exact ⟨jy (decide_eq_false (jiC HX.out HY.out HXY.out)).symm,hbel2⟩
   ·clear hca hdb
    go_wp2
    go_ret
    exact ⟨jy (decide_eq_true (jbn (k:=k) (by omega) (by have:=HL.out;omega) HQ.out)).symm,hbel⟩
 ·have hne:((l.length:Int) !=(m.length:Int))=true:=bne_iff_ne.2 (by omega)
  clear hca hdb
  go_enter Tryz.func286,Tryz.ntmps286
  go_wp2
  go_ret
  exact ⟨jy (decide_eq_false (fun e=>hlen (by rw [e]))).symm,Below.refl _ _⟩
theorem jn5 (x y:Pl) (a b:Value) (S S':List Nat) (w:World) (own own':Bool) (ha:AggRep w own (ja x) a S) (hb:AggRep w own' (ja y) b S'):
 Calls Tryz.prog 269 #[a,b] w fun e w'=>e=.returned (.bool (decide (x=y)))∧Below w.heap.size w w':=by
 obtain ⟨_,rfl,ha⟩:=ha;obtain ⟨_,rfl,hb⟩:=hb;obtain ⟨av0,rfl,ah0⟩:=vB ha;obtain ⟨bv0,rfl,bh0⟩:=vB hb;clear ha hb;obtain ⟨xprio,xmost,xwait,xtasks,xedges⟩:=x;obtain ⟨yprio,ymost,ywait,ytasks,yedges⟩:=y
 go_enter Tryz.func269,Tryz.ntmps269
 go_wp2_with (first
  |(go_at_call 286;refine (jqN xedges yedges _ _ _ _ _ _ _ (ah0.below (by repeat (first|exact Below.refl _ _|assumption|refine Below.alloc ?_ (by simp;try omega) _|refine jv ?_ (by assumption))) (Nat.le_refl _)) (bh0.below (by repeat (first|exact Below.refl _ _|assumption|refine Below.alloc ?_ (by simp;try omega) _|refine jv ?_ (by assumption))) (Nat.le_refl _))).mono ?_;rintro e w1 ⟨rfl,hb1⟩;obtain ⟨hc1,hf1⟩:=kX hb1))
 all_goals go_ret
 all_goals refine ⟨?_,(by repeat (first|exact Below.refl _ _|assumption|refine Below.alloc ?_ (by simp;try omega) _|refine jv ?_ (by assumption)))⟩
 all_goals (simp_all<;>rfl)
theorem jn6 (x y:Dd) (a b:Value) (S S':List Nat) (w:World) (own own':Bool) (ha:AggRep w own (jh x) a S) (hb:AggRep w own' (jh y) b S'):
 Calls Tryz.prog 205 #[a,b] w fun e w'=>e=.returned (.bool (decide (x=y)))∧Below w.heap.size w w':=by
 obtain ⟨_,rfl,ha⟩:=ha;obtain ⟨_,rfl,hb⟩:=hb;obtain ⟨av0,rfl,ah0⟩:=jaE ha;obtain ⟨bv0,rfl,bh0⟩:=jaE hb;clear ha hb;obtain ⟨xkind,xrun,xplan,xtask,xtri,xworker,xdraw⟩:=x;obtain ⟨ykind,yrun,yplan,ytask,ytri,yworker,ydraw⟩:=y
 go_enter Tryz.func205,Tryz.ntmps205
 go_wp2_with (first
  |(go_at_call 269;refine (jn5 xplan yplan _ _ _ _ _ own own' ⟨_,rfl,jfN (ah0.below (by repeat (first|exact Below.refl _ _|assumption|refine Below.alloc ?_ (by simp;try omega) _|refine jv ?_ (by assumption))) (Nat.le_refl _))⟩ ⟨_,rfl,jfN (bh0.below (by repeat (first|exact Below.refl _ _|assumption|refine Below.alloc ?_ (by simp;try omega) _|refine jv ?_ (by assumption))) (Nat.le_refl _))⟩).mono ?_;rintro e w1 ⟨rfl,hb1⟩;obtain ⟨hc1,hf1⟩:=kX hb1))
 all_goals go_ret
 all_goals refine ⟨?_,(by repeat (first|exact Below.refl _ _|assumption|refine Below.alloc ?_ (by simp;try omega) _|refine jv ?_ (by assumption)))⟩
 all_goals (simp_all<;>rfl)
end Go.Proofs.YtmnpailnelmpiaaGreat
