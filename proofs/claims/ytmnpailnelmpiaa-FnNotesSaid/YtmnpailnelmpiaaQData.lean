/- Parts. -/
import Derived.Test.YtmnpailnelmpiaaQBase2
set_option linter.unusedSimpArgs false
set_option linter.unusedVariables false
namespace Go.Proofs.Ytmnpailnelmpiaa
open Go.RowKit
structure Ed where
 src:Int
 dst:Int
 deriving DecidableEq,Inhabited
structure Pl where
 prio:Int
 most:Int
 wait:Int
 tasks:Int
 edges:List Ed
 deriving DecidableEq,Inhabited
structure En where
 prio:Int
 seq:Int
 run:Int
 task:Int
 deriving DecidableEq,Inhabited
structure Tk where
 state:Int
 need:Int
 tri:Int
 til:Int
 deriving DecidableEq,Inhabited
structure Rn where
 id:Int
 plan:Pl
 state:Int
 tasks:List Tk
 deriving DecidableEq,Inhabited
structure Yd where
 now:Int
 seq:Int
 shelf:List (List En)
 runs:List Rn
 deriving DecidableEq,Inhabited
structure Dd where
 kind:Int
 run:Int
 plan:Pl
 task:Int
 tri:Int
 worker:Int
 draw:Int
 deriving DecidableEq,Inhabited
structure Nt where
 seq:Int
 deed:Dd
 deriving DecidableEq,Inhabited
abbrev tSh:TypeId:=39
abbrev tEd:TypeId:=103
abbrev tEn:TypeId:=82
abbrev tTk:TypeId:=84
abbrev tRn:TypeId:=78
abbrev jyd:TypeId:=74
abbrev tNt:TypeId:=28
abbrev tDd:TypeId:=26
abbrev tYd:TypeId:=42
abbrev tPl:TypeId:=24
abbrev joU:TypeId:=3
abbrev iv (n:Int):D:=.val (.int .i64 n)
def jo (l:List Int):D:=.sl 1 joU (l.flatMap fun n=>[iv n])
def jW (e:Ed):List D:=[iv e.src,iv e.dst]
def jt (l:List Ed):D:=.sl 2 tEd (l.flatMap jW)
def ja (p:Pl):List D:=[iv p.prio,iv p.most,iv p.wait,iv p.tasks,jt p.edges]
def jy (e:En):List D:=[iv e.prio,iv e.seq,iv e.run,iv e.task]
def jv (l:List En):D:=.sl 4 tEn (l.flatMap jy)
def ju (t:Tk):List D:=[iv t.state,iv t.need,iv t.tri,iv t.til]
def jI (l:List Tk):D:=.sl 4 tTk (l.flatMap ju)
def jd (r:Rn):List D:=iv r.id::(ja r.plan++[iv r.state,jI r.tasks])
def jN (l:List Rn):D:=.sl 8 tRn (l.flatMap jd)
def kL (l:List (List En)):D:=.sl 1 jyd (l.flatMap fun es=>[jv es])
def jc (y:Yd):List D:=[iv y.now,iv y.seq,kL y.shelf,jN y.runs]
def jf (d:Dd):List D:=iv d.kind::iv d.run::(ja d.plan++[iv d.task,iv d.tri,iv d.worker,iv d.draw])
def jE (n:Nt):List D:=iv n.seq::jf n.deed
def jcw (l:List Dd):D:=.sl 11 tDd (l.flatMap jf)
def jH (l:List Nt):D:=.sl 12 tNt (l.flatMap jE)
section
variable {w:World} {own:Bool} {vs:List Value} {v:Value} {S:List Nat}
theorem jku {e:En} (h:RepL w own (jy e) vs S):vs=[.int .i64 e.prio,.int .i64 e.seq,.int .i64 e.run,.int .i64 e.task]∧S=[]:=by
 obtain ⟨_,rfl,g1⟩:=RepL.val_inv h;obtain ⟨_,rfl,g2⟩:=RepL.val_inv g1;obtain ⟨_,rfl,g3⟩:=RepL.val_inv g2;obtain ⟨_,rfl,g4⟩:=RepL.val_inv g3;obtain ⟨rfl,rfl⟩:=g4;exact ⟨rfl,rfl⟩
theorem jjA {e:Tk} (h:RepL w own (ju e) vs S):vs=[.int .i64 e.state,.int .i64 e.need,.int .i64 e.tri,.int .i64 e.til]∧S=[]:=by
 obtain ⟨_,rfl,g1⟩:=RepL.val_inv h;obtain ⟨_,rfl,g2⟩:=RepL.val_inv g1;obtain ⟨_,rfl,g3⟩:=RepL.val_inv g2;obtain ⟨_,rfl,g4⟩:=RepL.val_inv g3;obtain ⟨rfl,rfl⟩:=g4;exact ⟨rfl,rfl⟩
theorem jou {e:Ed} (h:RepL w own (jW e) vs S):vs=[.int .i64 e.src,.int .i64 e.dst]∧S=[]:=by
 obtain ⟨_,rfl,g1⟩:=RepL.val_inv h;obtain ⟨_,rfl,g2⟩:=RepL.val_inv g1;obtain ⟨rfl,rfl⟩:=g2;exact ⟨rfl,rfl⟩
theorem jdI {p:Pl} (h:RepL w own (ja p) vs S):∃ev,vs=[.int .i64 p.prio,.int .i64 p.most,.int .i64 p.wait,.int .i64 p.tasks,ev]∧Rep w own (jt p.edges) ev S:=by
 obtain ⟨_,rfl,g1⟩:=RepL.val_inv h;obtain ⟨_,rfl,g2⟩:=RepL.val_inv g1;obtain ⟨_,rfl,g3⟩:=RepL.val_inv g2;obtain ⟨_,rfl,g4⟩:=RepL.val_inv g3;obtain ⟨ev,_,S1,S2,rfl,rfl,h1,rfl,rfl⟩:=g4;exact ⟨ev,rfl,by simpa using h1⟩
theorem jao {r:Rn} (h:RepL w own (jd r) vs S):∃ev tv S1 S2,vs=[.int .i64 r.id,.int .i64 r.plan.prio,.int .i64 r.plan.most,.int .i64 r.plan.wait,.int .i64 r.plan.tasks,ev,.int .i64 r.state,tv]
 ∧Rep w own (jt r.plan.edges) ev S1∧Rep w own (jI r.tasks) tv S2∧S=S1++S2:=by
 obtain ⟨_,rfl,g1⟩:=RepL.val_inv h;obtain ⟨v1,v2,S1,S2,rfl,rfl,h1,h2⟩:=RepL.append_inv _ g1;obtain ⟨ev,rfl,k1⟩:=jdI h1;obtain ⟨_,rfl,g2⟩:=RepL.val_inv h2;obtain ⟨tv,_,S3,S4,rfl,rfl,h3,rfl,rfl⟩:=g2;exact ⟨ev,tv,S1,S3,rfl,k1,h3,by simp⟩
theorem jag {y:Yd} (h:RepL w own (jc y) vs S):∃sv rv S1 S2,vs=[.int .i64 y.now,.int .i64 y.seq,sv,rv]∧Rep w own (kL y.shelf) sv S1∧Rep w own (jN y.runs) rv S2∧S=S1++S2:=by
 obtain ⟨_,rfl,g1⟩:=RepL.val_inv h;obtain ⟨_,rfl,g2⟩:=RepL.val_inv g1;obtain ⟨sv,_,S1,S2,rfl,rfl,h1,k⟩:=g2;obtain ⟨rv,_,S3,S4,rfl,rfl,h3,rfl,rfl⟩:=k;exact ⟨sv,rv,S1,S3,rfl,h1,h3,by simp⟩
theorem jow {d:Dd} (h:RepL w own (jf d) vs S):∃ev,vs=[.int .i64 d.kind,.int .i64 d.run,.int .i64 d.plan.prio,.int .i64 d.plan.most,.int .i64 d.plan.wait,.int .i64 d.plan.tasks,ev,.int .i64 d.task,.int .i64 d.tri,.int .i64 d.worker,.int .i64 d.draw]
 ∧Rep w own (jt d.plan.edges) ev S:=by
 obtain ⟨_,rfl,g1⟩:=RepL.val_inv h;obtain ⟨_,rfl,g2⟩:=RepL.val_inv g1;obtain ⟨v1,v2,S1,S2,rfl,rfl,h1,h2⟩:=RepL.append_inv _ g2;obtain ⟨ev,rfl,k1⟩:=jdI h1;obtain ⟨_,rfl,g3⟩:=RepL.val_inv h2;obtain ⟨_,rfl,g4⟩:=RepL.val_inv g3;obtain ⟨_,rfl,g5⟩:=RepL.val_inv g4;obtain ⟨_,rfl,g6⟩:=RepL.val_inv g5;obtain ⟨rfl,rfl⟩:=g6;exact ⟨ev,rfl,by simpa using k1⟩
theorem en_mk (w:World) (own:Bool) (e:En):RepL w own (jy e) [.int .i64 e.prio,.int .i64 e.seq,.int .i64 e.run,.int .i64 e.task] []:=RepL.val_ (RepL.val_ (RepL.val_ (RepL.val_ RepL.nil_)))
theorem jza {p:Pl} {ev:Value} (h:Rep w own (jt p.edges) ev S):RepL w own (ja p) [.int .i64 p.prio,.int .i64 p.most,.int .i64 p.wait,.int .i64 p.tasks,ev] S:=by
 have:=RepL.val_ (u:=.int .i64 p.prio) (RepL.val_ (u:=.int .i64 p.most) (RepL.val_ (u:=.int .i64 p.wait) (RepL.val_ (u:=.int .i64 p.tasks) (RepL.cons_ h (RepL.nil_ (w:=w) (own:=own))))))
 rwa [List.append_nil] at this
theorem jeH {y:Yd} {sv rv:Value} {S1 S2:List Nat} (h:Rep w own (kL y.shelf) sv S1) (h2:Rep w own (jN y.runs) rv S2):
 RepL w own (jc y) [.int .i64 y.now,.int .i64 y.seq,sv,rv] (S1++S2):=by
 have:=RepL.val_ (u:=.int .i64 y.now) (RepL.val_ (u:=.int .i64 y.seq) (RepL.cons_ h (RepL.cons_ h2 (RepL.nil_ (w:=w) (own:=own)))))
 rwa [List.append_nil] at this
theorem jlY (r:Dd):(jf r).length=11:=rfl
theorem jhK (r:Nt):(jE r).length=12:=rfl
end
theorem juY {α:Type} {l m:List α} {k:Nat} {x:α} (hx:l[k]?=some x) (hy:m[k]?=some x) (h:l.take k=m.take k):l.take (k+1)=m.take (k+1):=by
 rw [List.take_add_one,List.take_add_one,h,hx,hy]
theorem jzO {α:Type} {l m:List α} {k:Nat} {x y:α} (hx:l[k]?=some x) (hy:m[k]?=some y) (h:x≠y):l≠m:=by
 intro e;subst e;rw [hx] at hy;exact h (Option.some.inj hy)
theorem juZ {α:Type} {l m:List α} {k:Nat} (hl:l.length≤k) (hm:m.length≤k) (h:l.take k=m.take k):l=m:=by
 rwa [List.take_of_length_le hl,List.take_of_length_le hm] at h
theorem je {α:Type} {l:List α} {k:Nat} (h:k<l.length):∃x,l[k]?=some x:=⟨l[k],List.getElem?_eq_getElem h⟩
theorem jY {b b':Bool} (h:b=b'):Ending.returned (.bool b)=Ending.returned (.bool b'):=by rw [h]
theorem jxF {P:Program} {e:TypeId} {size bytes:Nat} {z:Value} (h:(P.info? e).map (fun i=>(i.zero,i.size,i.bytes))=some (some z,size,bytes)):
 ∃i zv,P.info? e=some i∧i.zero=some zv∧zv.cells=z.cells∧i.size=size∧i.bytes=bytes:=by
 cases hq:P.info? e with
 |none=>rw [hq] at h;simp at h
 |some i=>
  rw [hq] at h;simp at h;exact ⟨i,z,rfl,h.1,rfl,h.2.1,h.2.2⟩
theorem cb {P:Program} {f:FuncId} {args:Array Value} {w:World} {b b':Bool} (h:Calls P f args w fun e w'=>e=.returned (.bool b)∧Below w.heap.size w w') (hb:b=b'):Calls P f args w fun e w'=>e=.returned (.bool b')∧Below w.heap.size w w':=by subst hb;exact h
theorem jcm {W w1:World} (hb:Below W.heap.size W w1):(∀b o,b<W.heap.size→w1.cell? ⟨b,o,none⟩=W.cell? ⟨b,o,none⟩)∧(∀b o,b<W.heap.size→w1.frozen? ⟨b,o,none⟩=W.frozen? ⟨b,o,none⟩):=
 ⟨fun b o h=>hb.cell (p:=⟨b,o,none⟩) h,fun b o h=>hb.frozen (p:=⟨b,o,none⟩) h⟩
theorem jog {w:World} {own:Bool} {d:D} {v:Value} {S:List Nat} {p:Addr} {u:Value} (h:Rep w own d v S) (hp:∀b∈S,b≠p.block):Rep (w.setCell p u) own d v S:=
 Rep.keep d h fun b hb=>Below.heap_setCell w p u b (hp b hb)
theorem Rep.form {w:World} {own:Bool} {size:Nat} {ty:TypeId} {cs:List D} {v:Value} {S:List Nat} (h:Rep w own (.sl size ty cs) v S):∃A n c,v=.slice A n c:=by
 obtain ⟨vs,T,S',hr,_,_⟩:=h;obtain ⟨_,A,n,c,rfl,_⟩:=hr.ro;exact ⟨A,n,c,rfl⟩
def qE {α:Type} (tot:α→Nat) (l:List α):Nat:=(l.map tot).sum
theorem jgZ {α:Type} (tot:α→Nat) (l m:List α):qE tot (l++m)=qE tot l+qE tot m:=by simp [qE]
theorem vZ {α:Type} {tot:α→Nat} {l:List α} {k:Nat} {x:α} (h:l[k]?=some x):qE tot (l.take (k+1))=qE tot (l.take k)+tot x:=by
 rw [List.take_add_one,h,jgZ];simp [qE]
theorem jaj {α:Type} (tot:α→Nat) (l:List α) (k:Nat):qE tot (l.take k)≤qE tot l:=by
 conv=>rhs;rw [←List.take_append_drop k l,jgZ]
 exact Nat.le_add_right _ _
def jeK (p:Pl):Nat:=p.edges.length
def za (r:Rn):Nat:=jeK r.plan+r.tasks.length
def jaG (l:List En):Nat:=l.length
def jeJ (l:List (List En)):Nat:=l.length+qE jaG l
def jfJ (l:List Rn):Nat:=l.length+qE za l
def jS (y:Yd):Nat:=jeJ y.shelf+jfJ y.runs
def ja1 (d:Dd):Nat:=jeK d.plan
def zC (n:Nt):Nat:=ja1 n.deed
def zK (l:List Nt):Nat:=l.length+qE zC l
theorem jhd {a b:Int} (h:a=b):Ending.returned (.int .i64 a)=Ending.returned (.int .i64 b):=by rw [h]
def jeN (rs:List Rn) (id:Int):Int:=match rs.findIdx? (fun r=>r.id==id) with
 |some k=>k
 |none=>-1
def runAt (y:Yd) (id:Int):Int:=if 8<y.runs.length then -1 else jeN y.runs id
theorem jan {rs:List Rn} {id:Int} {k:Nat} {x:Rn} (hx:rs[k]?=some x) (h:x.id=id) (hno:∀j,j<k→∀z,rs[j]?=some z→z.id≠id):jeN rs id=k:=by
 have hk:k<rs.length:=(List.getElem?_eq_some_iff.1 hx).1
 have:rs.findIdx? (fun r=>r.id==id)=some k:=by
  rw [List.findIdx?_eq_some_iff_getElem];refine ⟨hk,?_,fun j hj=>?_⟩
  ·rw [List.getElem?_eq_getElem hk] at hx
   simp only [Option.some.injEq] at hx;simp [hx,h]
  ·have:=hno j hj rs[j] (List.getElem?_eq_getElem (by omega))
   simpa using this
 simp [jeN,this]
theorem jeM {rs:List Rn} {id:Int} (hno:∀j,j<rs.length→∀z,rs[j]?=some z→z.id≠id):jeN rs id=-1:=by
 have:rs.findIdx? (fun r=>r.id==id)=none:=by
  rw [List.findIdx?_eq_none_iff];intro x hx;obtain ⟨j,hj,rfl⟩:=List.getElem_of_mem hx;simpa using hno j hj rs[j] (List.getElem?_eq_getElem hj)
 simp [jeN,this]
theorem jg9 (rs:List Rn) (id:Int):(∃(k:Nat) (x:Rn),rs[k]?=some x∧x.id=id∧(∀j,j<k→∀z,rs[j]?=some z→z.id≠id)∧jeN rs id=k)∨((∀x∈rs,x.id≠id)∧jeN rs id=-1):=by
 cases h:rs.findIdx? (fun r=>r.id==id) with
 |none=>
  right;rw [List.findIdx?_eq_none_iff] at h;have h':∀x∈rs,x.id≠id:=fun x hx=>by simpa using h x hx
  exact ⟨h',jeM fun j hj z hz=>h' z (List.mem_of_getElem? hz)⟩
 |some k=>
  left;rw [List.findIdx?_eq_some_iff_getElem] at h;obtain ⟨hk,h1,h2⟩:=h;have hx:rs[k]?=some rs[k]:=List.getElem?_eq_getElem hk;have h1':rs[k].id=id:=by simpa using h1
  have hno:∀j,j<k→∀z,rs[j]?=some z→z.id≠id:=fun j hj z hz=>by
   have:=h2 j hj;rw [List.getElem?_eq_getElem (by omega)] at hz
   simp only [Option.some.injEq] at hz;subst hz;simpa using this
  exact ⟨k,rs[k],hx,h1',hno,jan hx h1' hno⟩
def zL (y:Yd) (id task:Int):Option Tk:=
 if runAt y id<0 then none else match y.runs[(runAt y id).toNat]? with
 |some r=>if 0≤task then r.tasks[task.toNat]? else none
 |none=>none
def jM (y:Yd) (e:En):Bool:=match zL y e.run e.task with
 |some t=>t.state==2
 |none=>false
def ja2 (y:Yd) (id task tri:Int):Bool:=match zL y id task with
 |some t=>t.state==3&&t.tri==tri
 |none=>false
theorem zq (y:Yd) (id task:Int):(runAt y id=-1∧zL y id task=none)∨
 (∃(k:Nat) (r:Rn),runAt y id=k∧y.runs[k]?=some r∧((¬(0≤task∧task≤(r.tasks.length:Int)-1)∧zL y id task=none)∨
  (∃(j:Nat) (t:Tk),task=j∧r.tasks[j]?=some t∧zL y id task=some t))):=by
 have h1:runAt y id=-1∨∃(k:Nat) (r:Rn),runAt y id=k∧y.runs[k]?=some r:=by
  unfold runAt;split
  ·exact .inl rfl
  ·rcases jg9 y.runs id with ⟨k,x,hx,_,_,he⟩|⟨_,he⟩
   ·exact .inr ⟨k,x,he,hx⟩
   ·exact .inl he
 rcases h1 with h|⟨k,r,h,hr⟩
 ·exact .inl ⟨h,by unfold zL;rw [if_pos (by omega)]⟩
 ·right
  refine ⟨k,r,h,hr,?_⟩
  have e:zL y id task=if 0≤task then r.tasks[task.toNat]? else none:=by
   unfold zL;rw [if_neg (by omega),h,Int.toNat_natCast,hr]
  by_cases h0:0≤task
  ·rw [if_pos h0] at e
   by_cases hl:task.toNat<r.tasks.length
   ·right
    exact ⟨task.toNat,r.tasks[task.toNat],by omega,List.getElem?_eq_getElem hl,by rw [e,List.getElem?_eq_getElem hl]⟩
   ·left
    exact ⟨by omega,by rw [e,List.getElem?_eq_none (by omega)]⟩
  ·left
   rw [if_neg h0] at e;exact ⟨by omega,e⟩
def kH (r:Rn):Nat:=if r.state=1 then r.tasks.length else 0
def qe (y:Yd) (l:List En):Nat:=l.countP (fun e=>!jM y e)
def jgF (y:Yd):List En:=y.shelf.flatten
def qF (y:Yd):Int:=qE kH y.runs+qe y (jgF y)
def jbi (y:Yd) (p:Pl):Bool:=decide (y.runs.length<8)&&(decide (0≤p.tasks∧p.tasks≤12)&&(decide (qF y+p.tasks≤40)&&decide (y.seq≤1000000000-1000-p.tasks)))
theorem jkR (l:List Rn):qE kH l≤qE za l:=by
 induction l with
 |nil=>simp [qE]
 |cons r l ih=>
  have h:kH r≤za r:=by unfold kH za;split<;>omega
  simp only [qE,List.map_cons,List.sum_cons] at*;omega
theorem jaw (l:List (List En)):l.flatten.length=qE jaG l:=by
 induction l with
 |nil=>simp [qE]
 |cons r l ih=>simp only [List.flatten_cons,List.length_append,qE,List.map_cons,List.sum_cons,jaG] at*;omega
theorem jnD (y:Yd) (l:List En):qe y l≤l.length:=List.countP_le_length
theorem jo2 {y:Yd} {l:List En} {k:Nat} {e:En} (h:l[k]?=some e):qe y (l.take (k+1))=qe y (l.take k)+(if jM y e then 0 else 1):=by
 unfold qe;rw [List.take_add_one,h,List.countP_append];cases hf:jM y e<;>simp [hf]
theorem jo1 (y:Yd) (l:List En) (k:Nat):qe y (l.take k)≤qe y l:=by
 unfold qe;exact (List.take_sublist k l).countP_le
theorem je4 {l:List (List En)} {k:Nat} {es:List En} (h:l[k]?=some es):(l.take (k+1)).flatten=(l.take k).flatten++es:=by
 rw [List.take_add_one,h,List.flatten_append];simp
theorem jdO:∀(n:Nat) (l:List Int),l.Nodup→(∀x∈l,0≤x∧x<n)→l.length≤n
 |0,l,_,h=>by
  cases l with
  |nil=>exact Nat.le_refl _
  |cons x l=>have:=h x (by simp);omega
 |n+1,l,hd,h=>by
  by_cases hm:(n:Int)∈l
  ·have h1:=jdO n (l.erase n) (hd.erase _) (fun x hx=>by
    have h2:=(hd.mem_erase_iff).1 hx;have:=h x h2.2;have:=h2.1;omega)
   rw [List.length_erase_of_mem hm] at h1;omega
  ·have h1:=jdO n l hd (fun x hx=>by
    have:=h x hx;have:x≠n:=fun e=>hm (e▸hx)
    omega)
   omega
def isE (es:List Ed) (a b:Int):Prop:=∃e∈es,e.src=a∧e.dst=b
inductive Rc (es:List Ed):Int→Int→Prop
 |one {a b:Int}:isE es a b→Rc es a b
 |step {a b c:Int}:Rc es a b→isE es b c→Rc es a c
def okE (n:Nat) (e:Ed):Prop:=(0≤e.src∧e.src<n)∧(0≤e.dst∧e.dst<n)
def inB (n a b:Int):Bool:=decide (a≤n∧n≤b)
def jav (p:Pl):Bool:=!inB p.tasks 1 12||decide (30<p.edges.length)||!inB p.prio 0 9||!inB p.most 1 5||!inB p.wait 1 20
def jmh (n:Int) (e:Ed):Bool:=!inB e.src 0 (n-1)||!inB e.dst 0 (n-1)
open Classical in
noncomputable def jzV (p:Pl):Bool:=decide (∃t:Nat,(t:Int)<p.tasks∧Rc p.edges t t)
noncomputable def jz (p:Pl):Int:=if jav p then 1 else if p.edges.any (jmh p.tasks) then 2 else if decide (p.edges.Nodup) then (if jzV p then 4 else 0) else 3
theorem jvO {n:Int} {es:List Ed} (h:es.any (jmh n)=false):∀e∈es,okE n.toNat e:=by
 intro e he;have:=List.any_eq_false.1 h e he;simp only [jmh,inB,Bool.or_eq_true,Bool.not_eq_true',decide_eq_false_iff_not,not_or,Classical.not_not] at this;obtain ⟨⟨h1,h2⟩,h3,h4⟩:=this;exact ⟨⟨h1,by omega⟩,h3,by omega⟩
def jmj (n:Nat) (r:List Int):List Bool:=(List.range n).map fun (k:Nat)=>decide ((k:Int)∈r)
open Classical in
noncomputable def rcB (es:List Ed) (a b:Int):Bool:=decide (Rc es a b)
theorem rcB_iff {es:List Ed} {a b:Int}:rcB es a b=true↔Rc es a b:=by simp [rcB]
noncomputable def jhC (es:List Ed) (n:Nat) (t:Int):List Bool:=(List.range n).map fun (k:Nat)=>rcB es t k
def jyc (es:List Ed) (n:Nat) (t:Int) (h:Nat) (r:List Int):Prop:=
 r.Nodup∧(∀x∈r,(0≤x∧x<n)∧Rc es t x)∧h≤(t::r).length∧∀j,j<h→∀x,(t::r)[j]?=some x→∀e∈es,e.src=x→e.dst∈r
def BIn (es:List Ed) (n:Nat) (t:Int) (h:Nat) (x:Int) (i:Nat) (r:List Int):Prop:=
 jyc es n t h r∧(t::r)[h]?=some x∧∀e∈es.take i,e.src=x→e.dst∈r
section
variable {es:List Ed} {n:Nat} {t x:Int} {h i:Nat} {r:List Int}
theorem vX:(jmj n r).length=n:=by simp [jmj]
theorem jgS {k:Nat} (hk:k<n):(jmj n r)[k]?=some (decide ((k:Int)∈r)):=by simp [jmj,hk]
theorem jvr {k:Nat} (hk:k<n):(jmj n r).set k true=jmj n (r++[(k:Int)]):=by
 apply List.ext_getElem?
 intro j;rw [List.getElem?_set];by_cases hj:j<n
 ·rw [jgS hj,jgS hj]
  by_cases e:k=j
  ·subst e;simp [vX,hk]
  ·have e':¬(j:Int)=k:=by omega
   simp [e,e']
 ·have h1:(jmj n r)[j]?=none:=List.getElem?_eq_none (by rw [vX];omega)
  have h2:(jmj n (r++[(k:Int)]))[j]?=none:=List.getElem?_eq_none (by rw [vX];omega)
  rw [h1,h2,if_neg (by omega)]
theorem jz0:jyc es n t 0 []:=⟨List.nodup_nil,by simp,by simp,fun j hj=>by omega⟩
theorem joG (h:jyc es n t h r):r.length≤n:=jdO n r h.1 fun x hx=>(h.2.1 x hx).1
theorem bIn_0 (hb:jyc es n t h r) (hx:(t::r)[h]?=some x):BIn es n t h x 0 r:=⟨hb,hx,by simp⟩
theorem jv8 {e:Ed} (hb:BIn es n t h x i r) (he:es[i]?=some e) (hq:e.src=x→e.dst∈r):BIn es n t h x (i+1) r:=by
 refine ⟨hb.1,hb.2.1,fun e' he'=>?_⟩
 rw [List.take_add_one,he] at he';rcases List.mem_append.1 he' with h1|h1
 ·exact hb.2.2 e' h1
 ·simp at h1;subst h1;exact hq
theorem jx7 {e:Ed} (hb:BIn es n t h x i r) (he:es[i]?=some e) (hs:e.src=x) (hd:e.dst∉r) (hr:0≤e.dst∧e.dst<n) (ht:h=0→x=t):BIn es n t h x (i+1) (r++[e.dst]):=by
 obtain ⟨⟨h1,h2,h3,h4⟩,h5,h6⟩:=hb;have hm:e∈es:=List.mem_of_getElem? he
 have hR:Rc es t e.dst:=by
  have hE:isE es x e.dst:=⟨e,hm,hs,rfl⟩;cases h with
  |zero=>simp at h5;subst h5;exact .one hE
  |succ h=>exact .step (h2 x (List.mem_of_getElem? (by simpa using h5))).2 hE
 have hlt:h<(t::r).length:=(List.getElem?_eq_some_iff.1 h5).1;refine ⟨⟨?_,fun y hy=>?_,by simp at hlt⊢;omega,fun j hj y hy e' he' hse=>?_⟩,?_,fun e' he' hse=>?_⟩
 ·rw [List.nodup_append];exact ⟨h1,by simp,fun a ha b hb=>by simp at hb;subst hb;exact fun e=>hd (e▸ha)⟩
 ·rcases List.mem_append.1 hy with hy|hy
  ·exact h2 y hy
  ·simp at hy;subst hy;exact ⟨hr,hR⟩
 ·rw [show t::(r++[e.dst])=(t::r)++[e.dst] from rfl,List.getElem?_append_left (by omega)] at hy
  exact List.mem_append_left _ (h4 j hj y hy e' he' hse)
 ·rw [show t::(r++[e.dst])=(t::r)++[e.dst] from rfl,List.getElem?_append_left hlt];exact h5
 ·rw [List.take_add_one,he] at he'
  rcases List.mem_append.1 he' with h7|h7
  ·exact List.mem_append_left _ (h6 e' h7 hse)
  ·simp at h7;subst h7;simp
theorem jtm (hb:BIn es n t h x i r) (hi:es.length≤i):jyc es n t (h+1) r:=by
 obtain ⟨⟨h1,h2,h3,h4⟩,h5,h6⟩:=hb;rw [List.take_of_length_le hi] at h6;have hlt:h<(t::r).length:=(List.getElem?_eq_some_iff.1 h5).1;refine ⟨h1,h2,by omega,fun j hj y hy=>?_⟩
 by_cases e:j=h
 ·subst e;rw [h5] at hy;cases hy;exact h6
 ·exact h4 j (by omega) y hy
theorem jtn (hb:jyc es n t h r) (hl:(t::r).length≤h):jmj n r=jhC es n t:=by
 obtain ⟨h1,h2,h3,h4⟩:=hb
 have hcl:∀x∈t::r,∀e∈es,e.src=x→e.dst∈r:=fun x hx=>by
  obtain ⟨j,hj,hxj⟩:=List.getElem_of_mem hx;exact h4 j (by omega) x (by rw [List.getElem?_eq_getElem hj,hxj])
 have hR:∀y,Rc es t y→y∈r:=by
  intro y hy
  induction hy with
  |one h=>obtain ⟨e,he,h5,h6⟩:=h;exact h6▸hcl _ (by simp) e he h5
  |step _ h ih=>obtain ⟨e,he,h5,h6⟩:=h;exact h6▸hcl _ (List.mem_cons_of_mem _ ih) e he h5
 unfold jmj jhC;refine List.map_congr_left fun k _=>?_
 by_cases hk:(k:Int)∈r
 ·rw [decide_eq_true hk,rcB_iff.2 (h2 _ hk).2]
 ·rw [decide_eq_false hk]
  cases hq:rcB es t k with
  |true=>exact absurd (hR _ (rcB_iff.1 hq)) hk
  |false=>rfl
theorem jlM {k:Nat} (hk:k<n):(jhC es n t)[k]?=some (rcB es t k):=by simp [jhC,hk]
theorem jdY:(jhC es n t).length=n:=by simp [jhC]
end
def jie (n:Nat) (A:List Int):List Int:=(List.range n).flatMap fun (t:Nat)=>List.replicate (A.count (t:Int)) (t:Int)
theorem jvF (A:List Int):jie 0 A=[]:=rfl
theorem jbb (n:Nat) (A:List Int):jie (n+1) A=jie n A++List.replicate (A.count (n:Int)) (n:Int):=by simp [jie,List.range_succ]
theorem jdD {A:List Int}:∀{n:Nat} {x:Int},x∈jie n A→(0≤x∧x<n)∧x∈A
 |0,x,h=>by simp [jie] at h
 |n+1,x,h=>by
  rw [jbb] at h;rcases List.mem_append.1 h with h|h
  ·have:=jdD h;exact ⟨by omega,this.2⟩
  ·obtain ⟨h1,h2⟩:=List.mem_replicate.1 h
   refine ⟨by omega,?_⟩
   rw [h2];exact List.count_pos_iff.1 (by omega)
theorem jmz (A:List Int):∀(n:Nat),(jie n A).Pairwise (· ≤ ·)
 |0=>by simp [jie]
 |n+1=>by
  rw [jbb,List.pairwise_append];refine ⟨jmz A n,?_,fun a ha b hb=>?_⟩
  ·rw [List.pairwise_replicate];right;exact Int.le_refl _
  ·have:=jdD ha
   have:=(List.mem_replicate.1 hb).2;omega
theorem jiQ (A:List Int) (x:Int):∀(n:Nat),(jie n A).count x=if 0≤x∧x<n then A.count x else 0
 |0=>by rw [if_neg (by omega)];simp [jie]
 |n+1=>by
  rw [jbb,List.count_append,jiQ A x n,List.count_replicate];by_cases h:x=n
  ·subst h
   rw [if_neg (by omega),if_pos (by simp),if_pos (by omega)];omega
  ·have h2:((n:Int)==x)=false:=by simpa using fun e=>h e.symm
   simp only [h2,Bool.false_eq_true,if_false];by_cases h3:0≤x∧x<n
   ·rw [if_pos h3,if_pos (by omega)];rfl
   ·rw [if_neg h3,if_neg (by omega)]
theorem jbc {n:Nat} {A:List Int} (h:∀x∈A,0≤x∧x<n):(jie n A).Perm A:=by
 rw [List.perm_iff_count];intro x;rw [jiQ];split
 ·rfl
 ·rename_i hx
  exact (List.count_eq_zero.2 fun hm=>hx (h x hm)).symm
theorem jtZ {n:Nat} {A:List Int} (h:∀x∈A,0≤x∧x<n):(jie n A).length=A.length:=(jbc h).length_eq
def jfF (es:List Ed) (t:Int):List Int:=(es.filter fun e=>e.dst==t).map (·.src)
def jf5 (es:List Ed) (t:Int):List Int:=(es.filter fun e=>e.src==t).map (·.dst)
def jaZ (p:Pl) (t:Int):List Int:=jie p.tasks.toNat (jfF p.edges t)
def jeG (p:Pl) (t:Int):List Int:=jie p.tasks.toNat (jf5 p.edges t)
section
variable {es:List Ed} {k n:Nat} {e:Ed}
theorem jti (h:es[k]?=some e) (t:Int):jfF (es.take (k+1)) t=jfF (es.take k) t++(if e.dst=t then [e.src] else []):=by
 rw [List.take_add_one,h];by_cases ht:e.dst=t<;>simp [jfF,ht]
theorem jtf (h:es[k]?=some e) (t:Int):jf5 (es.take (k+1)) t=jf5 (es.take k) t++(if e.src=t then [e.dst] else []):=by
 rw [List.take_add_one,h];by_cases ht:e.src=t<;>simp [jf5,ht]
theorem jqk (h:es[k]?=some e) (x t:Int):(jfF (es.take (k+1)) t).count x=(jfF (es.take k) t).count x+(if e.src=x∧e.dst=t then 1 else 0):=by
 rw [jti h,List.count_append];by_cases ht:e.dst=t<;>by_cases hx:e.src=x<;>simp [ht,hx]
theorem jqi (h:es[k]?=some e) (x t:Int):(jf5 (es.take (k+1)) t).count x=(jf5 (es.take k) t).count x+(if e.src=t∧e.dst=x then 1 else 0):=by
 rw [jtf h,List.count_append];by_cases ht:e.src=t<;>by_cases hx:e.dst=x<;>simp [ht,hx]
theorem jkE (hes:∀e∈es,okE n e) (t:Int):∀x∈jfF es t,0≤x∧x<n:=by
 intro x hx;simp only [jfF,List.mem_map,List.mem_filter] at hx;obtain ⟨e,⟨h1,-⟩,rfl⟩:=hx;exact (hes e h1).1
theorem jth (hes:∀e∈es,okE n e) (t:Int):∀x∈jf5 es t,0≤x∧x<n:=by
 intro x hx;simp only [jf5,List.mem_map,List.mem_filter] at hx;obtain ⟨e,⟨h1,-⟩,rfl⟩:=hx;exact (hes e h1).2
theorem jjo (h:es.Nodup) (t:Int):(jfF es t).Nodup:=by
 unfold jfF List.Nodup;rw [List.pairwise_map];refine List.Pairwise.imp_of_mem ?_ (List.Pairwise.filter _ h);intro a b ha hb hne hab;simp only [List.mem_filter,beq_iff_eq] at ha hb;exact hne (by cases a;cases b;simp_all)
theorem jqh (h:es.Nodup) (t:Int):(jf5 es t).Nodup:=by
 unfold jf5 List.Nodup;rw [List.pairwise_map];refine List.Pairwise.imp_of_mem ?_ (List.Pairwise.filter _ h);intro a b ha hb hne hab;simp only [List.mem_filter,beq_iff_eq] at ha hb;exact hne (by cases a;cases b;simp_all)
theorem jvq (h:es.Nodup) (hes:∀e∈es,okE n e) (t:Int):(jfF es t).length≤n:=jdO n _ (jjo h t) (jkE hes t)
end
theorem jgL {p:Pl} (h:jz p=0):∃n:Nat,p.tasks=n∧1≤n∧n≤12∧p.edges.length≤30∧(∀e∈p.edges,okE n e)∧p.edges.Nodup∧(0≤p.prio∧p.prio≤9)∧(1≤p.most∧p.most≤5)∧(1≤p.wait∧p.wait≤20):=by
 unfold jz at h;cases hm:jav p
 ·rw [hm] at h
  simp only [Bool.false_eq_true,if_false] at h;cases hb:p.edges.any (jmh p.tasks)
  ·rw [hb] at h
   simp only [Bool.false_eq_true,if_false] at h;by_cases hd:p.edges.Nodup
   ·have hes:=jvO hb
    simp only [jav,inB,Bool.or_eq_false_iff,Bool.not_eq_false',decide_eq_true_eq,decide_eq_false_iff_not] at hm;obtain ⟨⟨⟨⟨h1,h2⟩,h3⟩,h4⟩,h5⟩:=hm;exact ⟨p.tasks.toNat,by omega,by omega,by omega,by omega,hes,hd,h3,h4,h5⟩
   ·rw [decide_eq_false hd] at h
    simp at h
  ·rw [hb] at h;simp at h
 ·rw [hm] at h;simp at h
def stT (ts:List Tk) (b:Int):Int:=((ts[b.toNat]?).getD default).state
theorem jjC {ts:List Tk} {b:Int} {x:Tk} (h:ts[b.toNat]?=some x):stT ts b=x.state:=by simp [stT,h]
theorem kq {ts:List Tk} {k:Nat} {x:Tk} (h:ts[k]?=some x):stT ts (k:Int)=x.state:=by simp [stT,h]
def vh (s:Int) (ts:List Tk) (k:Nat):List Int:=((List.range k).filter fun (j:Nat)=>stT ts (j:Int)==s).map fun (j:Nat)=>(j:Int)
def ja4 (s:Int) (ts:List Tk):List Int:=vh s ts ts.length
def cS (s:Int) (ts:List Tk):Nat:=(ja4 s ts).length
theorem jyk (s:Int) (ts:List Tk):vh s ts 0=[]:=rfl
theorem jdB {ts:List Tk} {k:Nat} {x:Tk} (h:ts[k]?=some x) (s:Int):vh s ts (k+1)=vh s ts k++(if x.state=s then [(k:Int)] else []):=by
 have hs:=kq h;by_cases hx:x.state=s<;>simp [vh,List.range_succ,hs,hx]
theorem jdC (s:Int) (ts:List Tk) (k:Nat):(vh s ts k).length≤k:=by
 simp only [vh,List.length_map];exact Nat.le_trans (List.length_filter_le _ _) (by simp)
theorem jba {ts:List Tk} (h:∀x∈ts,1≤x.state∧x.state≤6):∀(k:Nat),k≤ts.length→(vh 1 ts k).length+(vh 2 ts k).length+(vh 3 ts k).length+(vh 4 ts k).length+(vh 5 ts k).length+(vh 6 ts k).length=k
 |0,_=>rfl
 |k+1,hk=>by
  have ih:=jba h k (by omega)
  have hx:ts[k]?=some ts[k]:=List.getElem?_eq_getElem (by omega)
  have:=h ts[k] (List.getElem_mem _);have:ts[k].state=1∨ts[k].state=2∨ts[k].state=3∨ts[k].state=4∨ts[k].state=5∨ts[k].state=6:=by omega
  simp only [jdB hx,List.length_append];rcases this with h1|h1|h1|h1|h1|h1<;>simp [h1]<;>omega
theorem jqu {s:Int} {ts:List Tk} (h:cS s ts=0) {k:Nat} {x:Tk} (hx:ts[k]?=some x):x.state≠s:=by
 intro e;have hk:=(List.getElem?_eq_some_iff.1 hx).1
 have:(k:Int)∈ja4 s ts:=by
  simp only [ja4,vh,List.mem_map,List.mem_filter,List.mem_range];exact ⟨k,⟨hk,by rw [kq hx];simpa using e⟩,rfl⟩
 rw [cS,List.length_eq_zero_iff] at h;rw [h] at this;simp at this
theorem jcl {s:Int} {ts:List Tk} (h:∀x∈ts,x.state≠s):cS s ts=0:=by
 rw [cS,List.length_eq_zero_iff,ja4,vh,List.map_eq_nil_iff,List.filter_eq_nil_iff];intro k hk;rw [List.mem_range] at hk;have hx:ts[k]?=some ts[k]:=List.getElem?_eq_getElem hk;rw [kq hx];simpa using h _ (List.getElem_mem hk)
theorem joD {s:Int} {ts:List Tk} {k:Nat} {x:Tk} (hx:ts[k]?=some x) (h:x.state=s):0<cS s ts:=by
 rcases Nat.eq_zero_or_pos (cS s ts) with h0|h0
 ·exact absurd h (jqu h0 hx)
 ·exact h0
def zG (p:Pl) (ts:List Tk) (t:Int):Int:=((((jaZ p t).filter fun b=>stT ts b !=4).length:Nat):Int)
def vE (p:Pl) (x:Tk):Bool:=if x.state=1 then decide (0<x.need) else if x.state=2 then (x.need==0&&decide (x.tri<p.most)) else if x.state=6 then true else (x.need==0&&decide (1≤x.tri))
def jf7 (x:Tk):Bool:=if x.state=3 then inB x.til 1 1000000000 else x.til==0
def kt (p:Pl) (ts:List Tk) (t:Nat) (x:Tk):Bool:=inB x.state 1 6&&x.need==zG p ts t&&inB x.tri 0 p.most&&jf7 x&&vE p x
def jkV (ts:List Tk):Int:=if cS 4 ts=ts.length then 2 else if cS 5 ts=1∧cS 4 ts+cS 5 ts+cS 6 ts=ts.length then 3 else if cS 5 ts=0∧0<cS 6 ts∧cS 4 ts+cS 5 ts+cS 6 ts=ts.length then 4 else if cS 5 ts=0∧cS 6 ts=0 then 1 else 0
structure RunOkP (r:Rn):Prop where
 id:inB r.id 1 9999=true
 plan:jz r.plan=0
 len:(r.tasks.length:Int)=r.plan.tasks
 tasks:∀(t:Nat) (x:Tk),r.tasks[t]?=some x→kt r.plan r.tasks t x=true
 state:r.state=jkV r.tasks
 live:r.state≠0
open Classical in
noncomputable def qu (r:Rn):Bool:=decide (RunOkP r)
theorem runOk_iff {r:Rn}:qu r=true↔RunOkP r:=by simp [qu]
theorem jam {r:Rn} (h:¬RunOkP r):qu r=false:=by simp [qu,h]
theorem RunOkP.st {r:Rn} (h:RunOkP r):∀x∈r.tasks,1≤x.state∧x.state≤6:=by
 intro x hx;obtain ⟨k,hk,rfl⟩:=List.getElem_of_mem hx;have:=h.tasks k _ (List.getElem?_eq_getElem hk);simp only [kt,inB,Bool.and_eq_true,decide_eq_true_eq] at this;exact this.1.1.1.1
theorem RunOkP.runs {r:Rn} (h:RunOkP r) {t:Nat} {x:Tk} (hx:r.tasks[t]?=some x) (hs:x.state=3):r.state=1∧cS 5 r.tasks=0∧cS 6 r.tasks=0∧cS 4 r.tasks<r.tasks.length:=by
 have h3:=joD hx hs;have hsum:=jba h.st r.tasks.length (Nat.le_refl _);have e1:=h.state;have e2:=h.live;change cS 1 r.tasks+cS 2 r.tasks+cS 3 r.tasks+cS 4 r.tasks+cS 5 r.tasks+cS 6 r.tasks=_ at hsum;unfold jkV at e1;split at e1
 ·omega
 ·split at e1
  ·omega
  ·split at e1
   ·omega
   ·split at e1
    ·exact ⟨e1,by omega,by omega,by omega⟩
    ·exact absurd e1 e2
def jak (ts:List Tk) (b:Int):List Tk:=match ts[b.toNat]? with
 |some x=>ts.set b.toNat ⟨if IntKind.i64.wrap (x.need-1)=0 then 2 else x.state,IntKind.i64.wrap (x.need-1),x.tri,x.til⟩
 |none=>ts
theorem jqS (ts:List Tk) (b:Int):(jak ts b).length=ts.length:=by unfold jak;split<;>simp
theorem jhG:∀(l:List Int) (ts:List Tk),(l.foldl jak ts).length=ts.length
 |[],_=>rfl
 |b::l,ts=>by rw [List.foldl_cons,jhG l,jqS]
theorem jtW {ts:List Tk} {b:Int} {q:Int→Prop} (h2:q 2) (h:∀x∈ts,q x.state):∀x∈jak ts b,q x.state:=by
 unfold jak;cases hx:ts[b.toNat]? with
 |none=>exact h
 |some x=>
  intro y hy;rcases List.mem_or_eq_of_mem_set hy with hy|rfl
  ·exact h y hy
  ·dsimp only;split
   ·exact h2
   ·exact h x (List.mem_of_getElem? hx)
theorem joo {q:Int→Prop} (h2:q 2):∀{l:List Int} {ts:List Tk},(∀x∈ts,q x.state)→∀x∈l.foldl jak ts,q x.state
 |[],_,h=>h
 |b::l,ts,h=>joo h2 (l:=l) (ts:=jak ts b) (jtW h2 h)
def vG (p:Pl) (ts:List Tk) (t:Nat) (x:Tk):List Tk:=(jeG p t).foldl jak (ts.set t ⟨4,x.need,x.tri,0⟩)
def jiA (r:Rn) (t:Nat) (x:Tk):Rn:=⟨r.id,r.plan,if cS 4 (vG r.plan r.tasks t x)=r.tasks.length then 2 else r.state,vG r.plan r.tasks t x⟩
theorem jby (p:Pl) (ts:List Tk) (t:Nat) (x:Tk):(vG p ts t x).length=ts.length:=by rw [vG,jhG,List.length_set]
theorem jfM {ts:List Tk} {t:Nat} {y:Tk} {q:Int→Prop} (hy:q y.state) (h:∀x∈ts,q x.state):∀x∈ts.set t y,q x.state:=by
 intro z hz;rcases List.mem_or_eq_of_mem_set hz with hz|rfl
 ·exact h z hz
 ·exact hy
theorem jkv {p:Pl} {ts:List Tk} {t:Nat} {x:Tk} {q:Int→Prop} (h2:q 2) (h4:q 4) (h:∀x∈ts,q x.state):∀y∈vG p ts t x,q y.state:=joo h2 (jfM h4 h)
theorem jjj {r:Rn} (h:RunOkP r) {t:Nat} {x:Tk} (hx:r.tasks[t]?=some x) (hs:x.state=3):jkV (vG r.plan r.tasks t x)=(jiA r t x).state:=by
 obtain ⟨e1,e2,e3,e4⟩:=h.runs hx hs;have h5:∀y∈r.tasks,y.state≠5:=fun y hy=>by obtain ⟨k,hk,rfl⟩:=List.getElem_of_mem hy;exact jqu e2 (List.getElem?_eq_getElem hk)
 have h6:∀y∈r.tasks,y.state≠6:=fun y hy=>by obtain ⟨k,hk,rfl⟩:=List.getElem_of_mem hy;exact jqu e3 (List.getElem?_eq_getElem hk)
 have c5:=jcl (jkv (p:=r.plan) (t:=t) (x:=x) (q:=fun s=>s≠5) (by decide) (by decide) h5)
 have c6:=jcl (jkv (p:=r.plan) (t:=t) (x:=x) (q:=fun s=>s≠6) (by decide) (by decide) h6)
 simp only [jkV,c5,c6,jby,jiA,e1];simp
def vi (f:Nat→Tk→Tk) (ts:List Tk) (k:Nat):List Tk:=ts.mapIdx fun j x=>if j<k then f j x else x
section
variable {f:Nat→Tk→Tk} {ts:List Tk} {k:Nat} {x:Tk}
theorem zt:(vi f ts k).length=ts.length:=by simp [vi]
theorem jvT:vi f ts 0=ts:=by
 apply List.ext_getElem?
 intro j;simp [vi,List.getElem?_mapIdx]
theorem job (h:ts[k]?=some x):(vi f ts k)[k]?=some x:=by simp [vi,List.getElem?_mapIdx,h]
theorem joa (h:ts[k]?=some x):(vi f ts k).set k (f k x)=vi f ts (k+1):=by
 have hk:=(List.getElem?_eq_some_iff.1 h).1
 apply List.ext_getElem?
 intro j;rw [List.getElem?_set];by_cases e:k=j
 ·subst e
  rw [if_pos rfl,zt,if_pos hk];simp [vi,List.getElem?_mapIdx,h]
 ·rw [if_neg e]
  simp only [vi,List.getElem?_mapIdx];have:(j<k+1)=(j<k):=by apply propext;omega
  simp only [this]
end
def jx (j:Nat) (x:Tk):Tk:=if x.state≠4∧x.state≠5 then ⟨6,x.need,x.tri,0⟩ else x
def vM (r:Rn) (t:Nat) (x:Tk):Rn:=if x.tri<r.plan.most then ⟨r.id,r.plan,r.state,r.tasks.set t ⟨2,x.need,x.tri,0⟩⟩ else ⟨r.id,r.plan,3,vi jx (r.tasks.set t ⟨5,x.need,x.tri,0⟩) r.tasks.length⟩
noncomputable def vS (r:Rn) (t:Int):Bool:=inB t 0 (r.tasks.length-1)&&stT r.tasks t==3&&qu r
noncomputable def qV (r:Rn) (t:Int):Rn:=if vS r t then jiA r t.toNat ((r.tasks[t.toNat]?).getD default) else r
noncomputable def jK (r:Rn) (t:Int):Rn:=if vS r t then vM r t.toNat ((r.tasks[t.toNat]?).getD default) else r
theorem jb0 {r:Rn} {t:Int} (h:vS r t=true):∃k x,t=((k:Nat):Int)∧r.tasks[k]?=some x∧x.state=3∧RunOkP r:=by
 simp only [vS,inB,Bool.and_eq_true,decide_eq_true_eq,beq_iff_eq,runOk_iff] at h;obtain ⟨⟨h1,h2⟩,h3⟩:=h;have hk:t.toNat<r.tasks.length:=by omega
 refine ⟨t.toNat,r.tasks[t.toNat],by omega,List.getElem?_eq_getElem hk,?_,h3⟩
 rw [jjC (List.getElem?_eq_getElem hk)] at h2;exact h2
theorem jha {r:Rn} {k:Nat} {x:Tk} (hx:r.tasks[k]?=some x) (h:vS r k=true):qV r k=jiA r k x:=by simp [qV,h,hx]
theorem jpi {r:Rn} {t:Int} (h:vS r t=false):qV r t=r:=by simp [qV,h]
theorem qJ {r:Rn} {k:Nat} {x:Tk} (hx:r.tasks[k]?=some x) (h:vS r k=true):jK r k=vM r k x:=by simp [jK,h,hx]
theorem jc8 {r:Rn} {t:Int} (h:vS r t=false):jK r t=r:=by simp [jK,h]
theorem jk9 (r:Rn) (t:Int):za (jK r t)=za r:=by
 unfold jK;split
 ·unfold vM
  split
  ·simp only [za,List.length_set]
  ·simp only [za,zt,List.length_set]
 ·rfl
def kv (a b:En):Bool:=decide (a.prio>b.prio∨a.prio=b.prio∧a.seq<b.seq)
structure jic (l:List En):Prop where
 most:l.length≤80
 ahead:∀(k:Nat) (a b:En),l[k]?=some a→l[k+1]?=some b→kv a b=true
open Classical in
noncomputable def jbd (l:List En):Bool:=decide (jic l)
theorem jk0 {l:List En} (h:jic l):jbd l=true:=by simp [jbd,h]
theorem jnF {l:List En} (h:¬jic l):jbd l=false:=by simp [jbd,h]
theorem shelf_iff {l:List En}:jbd l=true↔jic l:=by simp [jbd]
structure SeqP (q:Int) (l:List En):Prop where
 range:∀e∈l,1≤e.seq∧e.seq≤q-1
 apart:(l.map (·.seq)).Nodup
def zo (id t:Int) (l:List En):Nat:=(l.filter fun e=>e.run==id&&e.task==t).length
def jnz (y:Yd) (r:Rn) (l:List En) (t:Nat) (x:Tk):Prop:=
 (x.state=2→(∀e∈l,e.run=r.id→e.task=t→e.prio=r.plan.prio)∧zo r.id t l=1)∧(x.state=3→y.now+1≤x.til∧x.til≤y.now+r.plan.wait)
def jqq (y:Yd) (r:Rn) (l:List En):Prop:=∀(t:Nat) (x:Tk),r.tasks[t]?=some x→jnz y r l t x
open Classical in
noncomputable def jaH (y:Yd) (r:Rn) (l:List En):Bool:=decide (jqq y r l)
theorem jk8 {y:Yd} {r:Rn} {l:List En} (h:jqq y r l):jaH y r l=true:=by simp [jaH,h]
theorem jjJ {y:Yd} {r:Rn} {l:List En} (h:¬jqq y r l):jaH y r l=false:=by simp [jaH,h]
theorem runIn_iff {y:Yd} {r:Rn} {l:List En}:jaH y r l=true↔jqq y r l:=by simp [jaH]
structure YardOkP (y:Yd):Prop where
 now:0≤y.now∧y.now≤999999980
 seq:1≤y.seq∧y.seq≤1000000000
 four:y.shelf.length=4
 eight:y.runs.length≤8
 shelves:∀l∈y.shelf,jic l
 seqs:SeqP y.seq y.shelf.flatten
 right:∀r∈y.runs,RunOkP r
 place:∀(k:Nat) (r:Rn),y.runs[k]?=some r→runAt y r.id=k
 runs:∀r∈y.runs,jqq y r y.shelf.flatten
 slots:qF y≤40
open Classical in
noncomputable def jJ (y:Yd):Bool:=decide (YardOkP y)
theorem jdx {y:Yd} (h:YardOkP y):jJ y=true:=by simp [jJ,h]
theorem ja5 {y:Yd} (h:¬YardOkP y):jJ y=false:=by simp [jJ,h]
theorem yard_iff {y:Yd}:jJ y=true↔YardOkP y:=by simp [jJ]
section
variable {l:List En} {k:Nat} {e:En} {id t:Int}
theorem jvf (h:l[k]?=some e) (h1:e.run=id) (h2:e.task=t):zo id t (l.take (k+1))=zo id t (l.take k)+1:=by
 rw [List.take_add_one,h];simp [zo,List.filter_append,h1,h2]
theorem js2 (h:l[k]?=some e) (h1:¬(e.run=id∧e.task=t)):zo id t (l.take (k+1))=zo id t (l.take k):=by
 rw [List.take_add_one,h];by_cases h2:e.run=id
 ·have h3:¬e.task=t:=fun h3=>h1 ⟨h2,h3⟩
  simp [zo,List.filter_append,h2,h3]
 ·simp [zo,List.filter_append,h2]
theorem jx1 (l:List En) (id t:Int):zo id t l≤l.length:=List.length_filter_le _ _
theorem jwz {j:Nat} {e2:En} (h:l[k]?=some e) (hj:j<k) (h2:l[j]?=some e2) (he:e2.seq=e.seq):¬(l.map (·.seq)).Nodup:=by
 intro hd;obtain ⟨a1,b1⟩:=List.getElem?_eq_some_iff.1 h;obtain ⟨a2,b2⟩:=List.getElem?_eq_some_iff.1 h2;have:=List.pairwise_iff_getElem.1 hd j k (by simpa using a2) (by simpa using a1) hj
 simp [b1,b2,he] at this
theorem jwy (h:l[k]?=some e) (hn:((l.take k).map (·.seq)).Nodup) (hx:∀e2∈l.take k,e2.seq≠e.seq):((l.take (k+1)).map (·.seq)).Nodup:=by
 rw [List.take_add_one,h];simp only [Option.toList_some,List.map_append,List.map_cons,List.map_nil];rw [List.nodup_append];refine ⟨hn,by simp,fun a ha b hb e'=>?_⟩
 simp at hb;subst hb;obtain ⟨e2,h1,h2⟩:=List.mem_map.1 ha;exact hx e2 h1 (by rw [h2,e'])
end
end Go.Proofs.Ytmnpailnelmpiaa
