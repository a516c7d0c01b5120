/- Parts. -/
import Derived.Test.YtmnpailnelmpiaaGreatQE1
set_option linter.unusedSimpArgs false
set_option linter.unusedVariables false
namespace Go.Proofs.YtmnpailnelmpiaaGreat
open Go.RowKit
structure Ed where
 src:Int
 dst:Int
 deriving DecidableEq,Inhabited
structure Pl where
 prio:Int
 most:Int
 wait:Int
 tasks:Int
 edges:List Ed
 deriving DecidableEq,Inhabited
structure En where
 prio:Int
 seq:Int
 run:Int
 task:Int
 deriving DecidableEq,Inhabited
structure Tk where
 state:Int
 need:Int
 tri:Int
 til:Int
 deriving DecidableEq,Inhabited
structure Rn where
 id:Int
 plan:Pl
 state:Int
 tasks:List Tk
 deriving DecidableEq,Inhabited
structure Yd where
 now:Int
 seq:Int
 shelf:List (List En)
 runs:List Rn
 deriving DecidableEq,Inhabited
structure Dd where
 kind:Int
 run:Int
 plan:Pl
 task:Int
 tri:Int
 worker:Int
 draw:Int
 deriving DecidableEq,Inhabited
abbrev jzh:TypeId:=35
abbrev tSh:TypeId:=34
abbrev tEd:TypeId:=253
abbrev tEn:TypeId:=111
abbrev tTk:TypeId:=172
abbrev tRn:TypeId:=108
abbrev jqQ:TypeId:=102
abbrev tDd:TypeId:=73
abbrev tYd:TypeId:=37
abbrev tPl:TypeId:=71
abbrev jf5:TypeId:=3
abbrev iv (n:Int):D:=.val (.int .i64 n)
def jh (l:List Int):D:=.sl 1 jf5 (l.flatMap fun n=>[iv n])
def jP (e:Ed):List D:=[iv e.src,iv e.dst]
def jy (l:List Ed):D:=.sl 2 tEd (l.flatMap jP)
def ja (p:Pl):List D:=[iv p.prio,iv p.most,iv p.wait,iv p.tasks,jy p.edges]
def jf (e:En):List D:=[iv e.prio,iv e.seq,iv e.run,iv e.task]
def jm (l:List En):D:=.sl 4 tEn (l.flatMap jf)
def jn (t:Tk):List D:=[iv t.state,iv t.need,iv t.tri,iv t.til]
def jI (l:List Tk):D:=.sl 4 tTk (l.flatMap jn)
def jd (r:Rn):List D:=iv r.id::(ja r.plan++[iv r.state,jI r.tasks])
def jO (l:List Rn):D:=.sl 8 tRn (l.flatMap jd)
def kw (l:List (List En)):D:=.sl 1 jqQ (l.flatMap fun es=>[jm es])
def jb (y:Yd):List D:=[iv y.now,iv y.seq,kw y.shelf,jO y.runs]
def jo (d:Dd):List D:=iv d.kind::iv d.run::(ja d.plan++[iv d.task,iv d.tri,iv d.worker,iv d.draw])
def jdK (l:List Dd):D:=.sl 11 tDd (l.flatMap jo)
section
variable {w:World} {own:Bool} {vs:List Value} {v:Value} {S:List Nat}
theorem jfi {e:En} (h:RepL w own (jf e) vs S):vs=[.int .i64 e.prio,.int .i64 e.seq,.int .i64 e.run,.int .i64 e.task]∧S=[]:=by
 obtain ⟨_,rfl,g1⟩:=RepL.val_inv h;obtain ⟨_,rfl,g2⟩:=RepL.val_inv g1;obtain ⟨_,rfl,g3⟩:=RepL.val_inv g2;obtain ⟨_,rfl,g4⟩:=RepL.val_inv g3;obtain ⟨rfl,rfl⟩:=g4;exact ⟨rfl,rfl⟩
theorem jib {e:Tk} (h:RepL w own (jn e) vs S):vs=[.int .i64 e.state,.int .i64 e.need,.int .i64 e.tri,.int .i64 e.til]∧S=[]:=by
 obtain ⟨_,rfl,g1⟩:=RepL.val_inv h;obtain ⟨_,rfl,g2⟩:=RepL.val_inv g1;obtain ⟨_,rfl,g3⟩:=RepL.val_inv g2;obtain ⟨_,rfl,g4⟩:=RepL.val_inv g3;obtain ⟨rfl,rfl⟩:=g4;exact ⟨rfl,rfl⟩
theorem jql {e:Ed} (h:RepL w own (jP e) vs S):vs=[.int .i64 e.src,.int .i64 e.dst]∧S=[]:=by
 obtain ⟨_,rfl,g1⟩:=RepL.val_inv h;obtain ⟨_,rfl,g2⟩:=RepL.val_inv g1;obtain ⟨rfl,rfl⟩:=g2;exact ⟨rfl,rfl⟩
theorem jc8 {p:Pl} (h:RepL w own (ja p) vs S):∃ev,vs=[.int .i64 p.prio,.int .i64 p.most,.int .i64 p.wait,.int .i64 p.tasks,ev]∧Rep w own (jy p.edges) ev S:=by
 obtain ⟨_,rfl,g1⟩:=RepL.val_inv h;obtain ⟨_,rfl,g2⟩:=RepL.val_inv g1;obtain ⟨_,rfl,g3⟩:=RepL.val_inv g2;obtain ⟨_,rfl,g4⟩:=RepL.val_inv g3;obtain ⟨ev,_,S1,S2,rfl,rfl,h1,rfl,rfl⟩:=g4;exact ⟨ev,rfl,by simpa using h1⟩
theorem zU {r:Rn} (h:RepL w own (jd r) vs S):∃ev tv S1 S2,vs=[.int .i64 r.id,.int .i64 r.plan.prio,.int .i64 r.plan.most,.int .i64 r.plan.wait,.int .i64 r.plan.tasks,ev,.int .i64 r.state,tv]
 ∧Rep w own (jy r.plan.edges) ev S1∧Rep w own (jI r.tasks) tv S2∧S=S1++S2:=by
 obtain ⟨_,rfl,g1⟩:=RepL.val_inv h;obtain ⟨v1,v2,S1,S2,rfl,rfl,h1,h2⟩:=RepL.append_inv _ g1;obtain ⟨ev,rfl,k1⟩:=jc8 h1;obtain ⟨_,rfl,g2⟩:=RepL.val_inv h2;obtain ⟨tv,_,S3,S4,rfl,rfl,h3,rfl,rfl⟩:=g2;exact ⟨ev,tv,S1,S3,rfl,k1,h3,by simp⟩
theorem vQ {y:Yd} (h:RepL w own (jb y) vs S):∃sv rv S1 S2,vs=[.int .i64 y.now,.int .i64 y.seq,sv,rv]∧Rep w own (kw y.shelf) sv S1∧Rep w own (jO y.runs) rv S2∧S=S1++S2:=by
 obtain ⟨_,rfl,g1⟩:=RepL.val_inv h;obtain ⟨_,rfl,g2⟩:=RepL.val_inv g1;obtain ⟨sv,_,S1,S2,rfl,rfl,h1,k⟩:=g2;obtain ⟨rv,_,S3,S4,rfl,rfl,h3,rfl,rfl⟩:=k;exact ⟨sv,rv,S1,S3,rfl,h1,h3,by simp⟩
theorem jqo {d:Dd} (h:RepL w own (jo d) vs S):∃ev,vs=[.int .i64 d.kind,.int .i64 d.run,.int .i64 d.plan.prio,.int .i64 d.plan.most,.int .i64 d.plan.wait,.int .i64 d.plan.tasks,ev,.int .i64 d.task,.int .i64 d.tri,.int .i64 d.worker,.int .i64 d.draw]
 ∧Rep w own (jy d.plan.edges) ev S:=by
 obtain ⟨_,rfl,g1⟩:=RepL.val_inv h;obtain ⟨_,rfl,g2⟩:=RepL.val_inv g1;obtain ⟨v1,v2,S1,S2,rfl,rfl,h1,h2⟩:=RepL.append_inv _ g2;obtain ⟨ev,rfl,k1⟩:=jc8 h1;obtain ⟨_,rfl,g3⟩:=RepL.val_inv h2;obtain ⟨_,rfl,g4⟩:=RepL.val_inv g3;obtain ⟨_,rfl,g5⟩:=RepL.val_inv g4;obtain ⟨_,rfl,g6⟩:=RepL.val_inv g5;obtain ⟨rfl,rfl⟩:=g6;exact ⟨ev,rfl,by simpa using k1⟩
theorem jwe (w:World) (own:Bool) (e:En):RepL w own (jf e) [.int .i64 e.prio,.int .i64 e.seq,.int .i64 e.run,.int .i64 e.task] []:=RepL.val_ (RepL.val_ (RepL.val_ (RepL.val_ RepL.nil_)))
theorem jAb {p:Pl} {ev:Value} (h:Rep w own (jy p.edges) ev S):RepL w own (ja p) [.int .i64 p.prio,.int .i64 p.most,.int .i64 p.wait,.int .i64 p.tasks,ev] S:=by
 have:=RepL.val_ (u:=.int .i64 p.prio) (RepL.val_ (u:=.int .i64 p.most) (RepL.val_ (u:=.int .i64 p.wait) (RepL.val_ (u:=.int .i64 p.tasks) (RepL.cons_ h (RepL.nil_ (w:=w) (own:=own))))))
 rwa [List.append_nil] at this
theorem jaq {y:Yd} {sv rv:Value} {S1 S2:List Nat} (h:Rep w own (kw y.shelf) sv S1) (h2:Rep w own (jO y.runs) rv S2):
 RepL w own (jb y) [.int .i64 y.now,.int .i64 y.seq,sv,rv] (S1++S2):=by
 have:=RepL.val_ (u:=.int .i64 y.now) (RepL.val_ (u:=.int .i64 y.seq) (RepL.cons_ h (RepL.cons_ h2 (RepL.nil_ (w:=w) (own:=own)))))
 rwa [List.append_nil] at this
end
theorem jwc {α:Type} {l m:List α} {k:Nat} {x:α} (hx:l[k]?=some x) (hy:m[k]?=some x) (h:l.take k=m.take k):l.take (k+1)=m.take (k+1):=by
 rw [List.take_add_one,List.take_add_one,h,hx,hy]
theorem jAT {α:Type} {l m:List α} {k:Nat} {x y:α} (hx:l[k]?=some x) (hy:m[k]?=some y) (h:x≠y):l≠m:=by
 intro e;subst e;rw [hx] at hy;exact h (Option.some.inj hy)
theorem jwd {α:Type} {l m:List α} {k:Nat} (hl:l.length≤k) (hm:m.length≤k) (h:l.take k=m.take k):l=m:=by
 rwa [List.take_of_length_le hl,List.take_of_length_le hm] at h
theorem je {α:Type} {l:List α} {k:Nat} (h:k<l.length):∃x,l[k]?=some x:=⟨l[k],List.getElem?_eq_getElem h⟩
theorem jX {b b':Bool} (h:b=b'):Ending.returned (.bool b)=Ending.returned (.bool b'):=by rw [h]
theorem joV {P:Program} {e:TypeId} {size bytes:Nat} {z:Value} (h:(P.info? e).map (fun i=>(i.zero,i.size,i.bytes))=some (some z,size,bytes)):
 ∃i zv,P.info? e=some i∧i.zero=some zv∧zv.cells=z.cells∧i.size=size∧i.bytes=bytes:=by
 cases hq:P.info? e with
 |none=>rw [hq] at h;simp at h
 |some i=>
  rw [hq] at h;simp at h;exact ⟨i,z,rfl,h.1,rfl,h.2.1,h.2.2⟩
theorem cb {P:Program} {f:FuncId} {args:Array Value} {w:World} {b b':Bool} (h:Calls P f args w fun e w'=>e=.returned (.bool b)∧Below w.heap.size w w') (hb:b=b'):Calls P f args w fun e w'=>e=.returned (.bool b')∧Below w.heap.size w w':=by subst hb;exact h
theorem zI {W w1:World} (hb:Below W.heap.size W w1):(∀b o,b<W.heap.size→w1.cell? ⟨b,o,none⟩=W.cell? ⟨b,o,none⟩)∧(∀b o,b<W.heap.size→w1.frozen? ⟨b,o,none⟩=W.frozen? ⟨b,o,none⟩):=
 ⟨fun b o h=>hb.cell (p:=⟨b,o,none⟩) h,fun b o h=>hb.frozen (p:=⟨b,o,none⟩) h⟩
theorem jlX {w:World} {own:Bool} {d:D} {v:Value} {S:List Nat} {p:Addr} {u:Value} (h:Rep w own d v S) (hp:∀b∈S,b≠p.block):Rep (w.setCell p u) own d v S:=
 Rep.keep d h fun b hb=>Below.heap_setCell w p u b (hp b hb)
theorem Rep.form {w:World} {own:Bool} {size:Nat} {ty:TypeId} {cs:List D} {v:Value} {S:List Nat} (h:Rep w own (.sl size ty cs) v S):∃A n c,v=.slice A n c:=by
 obtain ⟨vs,T,S',hr,_,_⟩:=h;obtain ⟨_,A,n,c,rfl,_⟩:=hr.ro;exact ⟨A,n,c,rfl⟩
def vM {α:Type} (tot:α→Nat) (l:List α):Nat:=(l.map tot).sum
theorem jiy {α:Type} (tot:α→Nat) (l m:List α):vM tot (l++m)=vM tot l+vM tot m:=by simp [vM]
theorem jac {α:Type} {tot:α→Nat} {l:List α} {k:Nat} {x:α} (h:l[k]?=some x):vM tot (l.take (k+1))=vM tot (l.take k)+tot x:=by
 rw [List.take_add_one,h,jiy];simp [vM]
theorem jbq {α:Type} (tot:α→Nat) (l:List α) (k:Nat):vM tot (l.take k)≤vM tot l:=by
 conv=>rhs;rw [←List.take_append_drop k l,jiy]
 exact Nat.le_add_right _ _
def jjN (p:Pl):Nat:=p.edges.length
def vq (r:Rn):Nat:=jjN r.plan+r.tasks.length
def jbH (l:List En):Nat:=l.length
def jb9 (l:List (List En)):Nat:=l.length+vM jbH l
def jca (l:List Rn):Nat:=l.length+vM vq l
def jK (y:Yd):Nat:=jb9 y.shelf+jca y.runs
def jhu (d:Dd):Nat:=jjN d.plan
theorem jgf {a b:Int} (h:a=b):Ending.returned (.int .i64 a)=Ending.returned (.int .i64 b):=by rw [h]
def jgd (rs:List Rn) (id:Int):Int:=match rs.findIdx? (fun r=>r.id==id) with
 |some k=>k
 |none=>-1
def runAt (y:Yd) (id:Int):Int:=if 8<y.runs.length then -1 else jgd y.runs id
theorem jbs {rs:List Rn} {id:Int} {k:Nat} {x:Rn} (hx:rs[k]?=some x) (h:x.id=id) (hno:∀j,j<k→∀z,rs[j]?=some z→z.id≠id):jgd rs id=k:=by
 have hk:k<rs.length:=(List.getElem?_eq_some_iff.1 hx).1
 have:rs.findIdx? (fun r=>r.id==id)=some k:=by
  rw [List.findIdx?_eq_some_iff_getElem];refine ⟨hk,?_,fun j hj=>?_⟩
  ·rw [List.getElem?_eq_getElem hk] at hx
   simp only [Option.some.injEq] at hx;simp [hx,h]
  ·have:=hno j hj rs[j] (List.getElem?_eq_getElem (by omega))
   simpa using this
 simp [jgd,this]
theorem jgc {rs:List Rn} {id:Int} (hno:∀j,j<rs.length→∀z,rs[j]?=some z→z.id≠id):jgd rs id=-1:=by
 have:rs.findIdx? (fun r=>r.id==id)=none:=by
  rw [List.findIdx?_eq_none_iff];intro x hx;obtain ⟨j,hj,rfl⟩:=List.getElem_of_mem hx;simpa using hno j hj rs[j] (List.getElem?_eq_getElem hj)
 simp [jgd,this]
theorem jiM (rs:List Rn) (id:Int):(∃(k:Nat) (x:Rn),rs[k]?=some x∧x.id=id∧(∀j,j<k→∀z,rs[j]?=some z→z.id≠id)∧jgd rs id=k)∨((∀x∈rs,x.id≠id)∧jgd rs id=-1):=by
 cases h:rs.findIdx? (fun r=>r.id==id) with
 |none=>
  right;rw [List.findIdx?_eq_none_iff] at h;have h':∀x∈rs,x.id≠id:=fun x hx=>by simpa using h x hx
  exact ⟨h',jgc fun j hj z hz=>h' z (List.mem_of_getElem? hz)⟩
 |some k=>
  left;rw [List.findIdx?_eq_some_iff_getElem] at h;obtain ⟨hk,h1,h2⟩:=h;have hx:rs[k]?=some rs[k]:=List.getElem?_eq_getElem hk;have h1':rs[k].id=id:=by simpa using h1
  have hno:∀j,j<k→∀z,rs[j]?=some z→z.id≠id:=fun j hj z hz=>by
   have:=h2 j hj;rw [List.getElem?_eq_getElem (by omega)] at hz
   simp only [Option.some.injEq] at hz;subst hz;simpa using this
  exact ⟨k,rs[k],hx,h1',hno,jbs hx h1' hno⟩
def jad (y:Yd) (id task:Int):Option Tk:=
 if runAt y id<0 then none else match y.runs[(runAt y id).toNat]? with
 |some r=>if 0≤task then r.tasks[task.toNat]? else none
 |none=>none
def jN (y:Yd) (e:En):Bool:=match jad y e.run e.task with
 |some t=>t.state==2
 |none=>false
def qU (y:Yd) (id task tri:Int):Bool:=match jad y id task with
 |some t=>t.state==3&&t.tri==tri
 |none=>false
theorem vH (y:Yd) (id task:Int):(runAt y id=-1∧jad y id task=none)∨
 (∃(k:Nat) (r:Rn),runAt y id=k∧y.runs[k]?=some r∧((¬(0≤task∧task≤(r.tasks.length:Int)-1)∧jad y id task=none)∨
  (∃(j:Nat) (t:Tk),task=j∧r.tasks[j]?=some t∧jad y id task=some t))):=by
 have h1:runAt y id=-1∨∃(k:Nat) (r:Rn),runAt y id=k∧y.runs[k]?=some r:=by
  unfold runAt;split
  ·exact .inl rfl
  ·rcases jiM y.runs id with ⟨k,x,hx,_,_,he⟩|⟨_,he⟩
   ·exact .inr ⟨k,x,he,hx⟩
   ·exact .inl he
 rcases h1 with h|⟨k,r,h,hr⟩
 ·exact .inl ⟨h,by unfold jad;rw [if_pos (by omega)]⟩
 ·right
  refine ⟨k,r,h,hr,?_⟩
  have e:jad y id task=if 0≤task then r.tasks[task.toNat]? else none:=by
   unfold jad;rw [if_neg (by omega),h,Int.toNat_natCast,hr]
  by_cases h0:0≤task
  ·rw [if_pos h0] at e
   by_cases hl:task.toNat<r.tasks.length
   ·right
    exact ⟨task.toNat,r.tasks[task.toNat],by omega,List.getElem?_eq_getElem hl,by rw [e,List.getElem?_eq_getElem hl]⟩
   ·left
    exact ⟨by omega,by rw [e,List.getElem?_eq_none (by omega)]⟩
  ·left
   rw [if_neg h0] at e;exact ⟨by omega,e⟩
def kJ (r:Rn):Nat:=if r.state=1 then r.tasks.length else 0
def qq (y:Yd) (l:List En):Nat:=l.countP (fun e=>!jN y e)
def zZ (y:Yd):List En:=y.shelf.flatten
def kZ (y:Yd):Int:=vM kJ y.runs+qq y (zZ y)
def zg (y:Yd) (p:Pl):Bool:=decide (y.runs.length<8)&&(decide (0≤p.tasks∧p.tasks≤12)&&(decide (kZ y+p.tasks≤40)&&decide (y.seq≤1000000000-1000-p.tasks)))
theorem jix (l:List Rn):vM kJ l≤vM vq l:=by
 induction l with
 |nil=>simp [vM]
 |cons r l ih=>
  have h:kJ r≤vq r:=by unfold kJ vq;split<;>omega
  simp only [vM,List.map_cons,List.sum_cons] at*;omega
theorem qX (l:List (List En)):l.flatten.length=vM jbH l:=by
 induction l with
 |nil=>simp [vM]
 |cons r l ih=>simp only [List.flatten_cons,List.length_append,vM,List.map_cons,List.sum_cons,jbH] at*;omega
theorem jlh (y:Yd) (l:List En):qq y l≤l.length:=List.countP_le_length
theorem jkr {y:Yd} {l:List En} {k:Nat} {e:En} (h:l[k]?=some e):qq y (l.take (k+1))=qq y (l.take k)+(if jN y e then 0 else 1):=by
 unfold qq;rw [List.take_add_one,h,List.countP_append];cases hf:jN y e<;>simp [hf]
theorem jkq (y:Yd) (l:List En) (k:Nat):qq y (l.take k)≤qq y l:=by
 unfold qq;exact (List.take_sublist k l).countP_le
theorem jbd {l:List (List En)} {k:Nat} {es:List En} (h:l[k]?=some es):(l.take (k+1)).flatten=(l.take k).flatten++es:=by
 rw [List.take_add_one,h,List.flatten_append];simp
section
variable {P:Program} {β:Nat} {s:St} {K:St→Prop} {Q:Ex→St→Prop} {d:Option Nat} {g:Option (Nat×Bool)}
theorem ev_t (n:Nat):s.ev (.t n)=s.t n:=(rfl)
theorem ev_i (k:IntKind) (n:Int):s.ev (.c (.int k n))=.c (.v (.int k n)):=(rfl)
theorem ev_b (b:Bool):s.ev (.c (.bool b))=.c (.v (.bool b)):=(rfl)
theorem ev_s (b:ByteArray):s.ev (.c (.string b))=.c (.v (.string b)):=(rfl)
theorem ev_n:s.ev (.c (.slice none 0 0))=.c (.v (.slice none 0 0)):=(rfl)
theorem put_t (k n:Nat) (v:AV):(s.put (some k) v).t n=if n=k then v else s.t n:=(rfl)
theorem put_o (v:AV) (n:Nat):(s.put d v).o n=s.o n:=by cases d<;>rfl
theorem jzC (k:Nat) (ob:Ob) (n:Nat):(s.setO k ob).t n=s.t n:=(rfl)
theorem jzD (k:Nat) (ob:Ob) (n:Nat):(s.setO k ob).o n=if n=k then ob else s.o n:=(rfl)
theorem jwC:s.addO []=s:=(rfl)
theorem juT (k:Nat) (ob:Ob) (l:List (Nat×Ob)):s.addO ((k,ob)::l)=(s.setO k ob).addO l:=(rfl)
theorem juZ:wpC P β .skip Q s=Q .normal s:=(rfl)
theorem jy8 (is:List Ins):wpC P β (.reg is) Q s=jf7 P β is s (Q .normal):=(rfl)
theorem joe (a b:C):wpC P β (.seq a b) Q s=wpC P β a (Ex.thn (wpC P β b Q) Q) s:=(rfl)
theorem jwH (id:Nat) (a:C):wpC P β (.blk id a) Q s=wpC P β a (Ex.inBlk id Q) s:=(rfl)
theorem ju0 (id:Nat):wpC P β (.exit id) Q s=Q (.exit id) s:=(rfl)
theorem jxm:wpC P β .ret Q s=Q .ret s:=(rfl)
theorem jsi {x:X} (a b:C) (h:s.ev x=.c (.v (.bool true))):wpC P β (.cond x a b) Q s=wpC P β a Q s:=by simp [wpC,h]
theorem jsj {x:X} (a b:C) (h:s.ev x=.c (.v (.bool false))):wpC P β (.cond x a b) Q s=wpC P β b Q s:=by simp [wpC,h]
theorem thn_n (next:St→Prop):Ex.thn next Q .normal s=next s:=(rfl)
theorem thn_e (next:St→Prop) (id:Nat):Ex.thn next Q (.exit id) s=Q (.exit id) s:=(rfl)
theorem thn_r (next:St→Prop):Ex.thn next Q .ret s=Q .ret s:=(rfl)
theorem blk_n (id:Nat):Ex.inBlk id Q .normal s=Q .normal s:=(rfl)
theorem blk_r (id:Nat):Ex.inBlk id Q .ret s=Q .ret s:=(rfl)
theorem blk_e (id id':Nat):Ex.inBlk id Q (.exit id') s=if id'=id then Q .normal s else Q (.exit id') s:=(rfl)
theorem jvq:jf7 P β [] s K=K s:=(rfl)
theorem jsW (i:I) (l:List Ins):jf7 P β (⟨d,none,i⟩::l) s K=vg P β ⟨d,none,i⟩ s (fun s'=>jf7 P β l s' K):=(rfl)
theorem jxK {t:Nat} (i:I) (l:List Ins) (h:s.t t=.c (.v (.bool true))):jf7 P β (⟨d,some (t,true),i⟩::l) s K=vg P β ⟨d,some (t,true),i⟩ s (fun s'=>jf7 P β l s' K):=by simp [jf7,vJ,h]
theorem jxL {t:Nat} (i:I) (l:List Ins) (h:s.t t=.c (.v (.bool false))):jf7 P β (⟨d,some (t,true),i⟩::l) s K=jf7 P β l (s.put d (.c (.v undef))) K:=by simp [jf7,vJ,h]
theorem jxM {t:Nat} (i:I) (l:List Ins) (h:s.t t=.c (.v (.bool true))):jf7 P β (⟨d,some (t,false),i⟩::l) s K=jf7 P β l (s.put d (.c (.v undef))) K:=by simp [jf7,vJ,h]
theorem jxN {t:Nat} (i:I) (l:List Ins) (h:s.t t=.c (.v (.bool false))):jf7 P β (⟨d,some (t,false),i⟩::l) s K=vg P β ⟨d,some (t,false),i⟩ s (fun s'=>jf7 P β l s' K):=by simp [jf7,vJ,h]
def I.writes:I→Bool
 |.box ..|.bsl ..|.st ..|.app ..|.apps ..|.clr ..|.call ..|.callv ..=>true
 |_=>false
theorem jw4 {i:I} {av:AV} {os:List (Nat×Ob)} (hw:i.writes=false) (h:∀rt st av' os',Gen P s (β+d.getD 0) rt st i av' os'↔av'=av∧os'=os):
 vg P β ⟨d,g,i⟩ s K=K ((s.addO os).put d av):=by
 have e:vg P β ⟨d,g,i⟩ s K=(∃rt,∀st,∃av os,Gen P s (β+d.getD 0) rt st i av os∧K ((s.addO os).put d av)):=by
  cases i<;>first|rfl|cases hw
 rw [e]
 apply propext
 constructor
 ·rintro ⟨rt,h1⟩
  obtain ⟨av',os',h2,h3⟩:=h1 ⟨0,fun _ _=>undef⟩
  obtain ⟨rfl,rfl⟩:=(h _ _ _ _).1 h2;exact h3
 ·intro h1
  exact ⟨.c (.val undef),fun st=>⟨_,_,(h _ _ _ _).2 ⟨rfl,rfl⟩,h1⟩⟩
theorem jv2 {i:I} {av:AV} (hw:i.writes=false) (h:∀rt st av' os',Gen P s (β+d.getD 0) rt st i av' os'↔av'=av∧os'=[]):vg P β ⟨d,g,i⟩ s K=K (s.put d av):=jw4 hw h
theorem jxG (x:X):vg P β ⟨d,g,.mov x⟩ s K=K (s.put d (s.ev x)):=jv2 rfl fun _ _ _ _=>Iff.rfl
theorem jyF {i:I} {p:Prop} {av:AV} (hw:i.writes=false) (h:∀rt st av' os',Gen P s (β+d.getD 0) rt st i av' os'↔p∧av'=av∧os'=[]):vg P β ⟨d,g,i⟩ s K=(p∧K (s.put d av)):=by
 by_cases hp:p
 ·rw [jv2 hw (av:=av) fun rt st av' os'=>by rw [h];simp [hp]];simp [hp]
 ·have e:vg P β ⟨d,g,i⟩ s K=(∃rt,∀st,∃av os,Gen P s (β+d.getD 0) rt st i av os∧K ((s.addO os).put d av)):=by
   cases i<;>first|rfl|cases hw
  rw [e]
  apply propext
  constructor
  ·rintro ⟨rt,h1⟩
   obtain ⟨av',os',h2,_⟩:=h1 ⟨0,fun _ _=>undef⟩
   exact absurd ((h _ _ _ _).1 h2).1 hp
  ·exact fun h=>absurd h.1 hp
theorem jqc {i:I} (hw:i.writes=false) (h:∀rt st av' os',¬Gen P s (β+d.getD 0) rt st i av' os'):vg P β ⟨d,g,i⟩ s K=False:=by
 have e:vg P β ⟨d,g,i⟩ s K=(∃rt,∀st,∃av os,Gen P s (β+d.getD 0) rt st i av os∧K ((s.addO os).put d av)):=by
  cases i<;>first|rfl|cases hw
 rw [e]
 apply propext
 constructor
 ·rintro ⟨rt,h1⟩
  obtain ⟨av',os',h2,_⟩:=h1 ⟨0,fun _ _=>undef⟩
  exact absurd h2 (h _ _ _ _)
 ·exact False.elim
def jx6 (d:Option Nat) (s:St) (K:St→Prop) (c a b:AV):Prop:=match c with
 |.c (.v (.bool t))=>K (s.put d (if t then a else b))
 |_=>False
theorem jvp (c a b:X):vg P β ⟨d,g,.pick c a b⟩ s K=jx6 d s K (s.ev c) (s.ev a) (s.ev b):=by
 unfold jx6;split
 ·exact jv2 rfl fun _ _ _ _=>by simp [Gen, *]
 ·rename_i h
  exact jqc rfl fun _ _ _ _ ⟨t,h1,_⟩=>h t h1
theorem jAc (t:Bool) (a b:AV):jx6 d s K (.c (.v (.bool t))) a b=K (s.put d (if t then a else b)):=(rfl)
def faK (d:Option Nat) (s:St) (K:St→Prop) (off:Nat):AV→Prop
 |.c (.rp ds)=>K (s.put d (.c (.rp (ds.drop off))))
 |.c (.bp g c b)=>K (s.put d (.c (.bp g (c+off) b)))
 |.c (.ep g c p i x)=>K (s.put d (.c (.ep g c p (i+off) x)))
 |_=>False
theorem jzM (off:Nat) (x:X):vg P β ⟨d,g,.fa off x⟩ s K=faK d s K off (s.ev x):=by
 cases h:s.ev x with
 |c a=>cases a<;>first|exact jv2 rfl (fun _ _ _ _=>by simp [Gen,h])|exact jqc rfl (fun _ _ _ _=>by simp [Gen,h])
 |_=>exact jqc rfl (fun _ _ _ _=>by simp [Gen,h])
theorem jAL (off:Nat) (ds:List D):faK d s K off (.c (.rp ds))=K (s.put d (.c (.rp (ds.drop off)))):=(rfl)
theorem jAN (off k c b:Nat):faK d s K off (.c (.bp k c b))=K (s.put d (.c (.bp k (c+off) b))):=(rfl)
theorem jAM (off k c:Nat) (p:List Nat) (i:Nat) (x:Value):faK d s K off (.c (.ep k c p i x))=K (s.put d (.c (.ep k c p (i+off) x))):=(rfl)
def ldV:Bool→List A0→(AV→Prop)→Prop
 |true,l,k=>k (.agg l)
 |false,[a],k=>k (.c a)
 |false,_,_=>False
theorem ldV_t (l:List A0) (k:AV→Prop):ldV true l k=k (.agg l):=(rfl)
theorem ldV_f (a:A0) (k:AV→Prop):ldV false [a] k=k (.c a):=(rfl)
def ldB (ob:Ob) (g c b n:Nat) (k:List A0→Prop):Prop:=match ob with
 |.box b' _ cs=>b'=b∧c+n≤cs.length∧k (jdl g c ((cs.drop c).take n))
 |_=>False
theorem ldB_ (b' ty:Nat) (cs:List Cell) (k c b n:Nat) (K:List A0→Prop):ldB (.box b' ty cs) k c b n K=(b'=b∧c+n≤cs.length∧K (jdl k c ((cs.drop c).take n))):=(rfl)
def ldK (d:Option Nat) (s:St) (K:St→Prop) (agg:Bool) (n:Nat):AV→Prop
 |.c (.rp ds)=>n≤ds.length∧ldV agg ((ds.take n).map D.toRo) fun v=>K (s.put d v)
 |.c (.bp g c b)=>ldB (s.o g) g c b n fun l=>ldV agg l fun v=>K (s.put d v)
 |.c (.ep g c p i x)=>∃d0 η dd,(s.o g).own c=some (d0,η)∧η p=x∧D.get p d0=some dd∧dd.isSl=true∧i+n≤dd.cells.length∧ldV agg (jgo g c p η i ((dd.cells.drop i).take n)) fun v=>K (s.put d v)
 |_=>False
theorem jzJ (agg:Bool) (n:Nat) (x:X):vg P β ⟨d,g,.ld agg n x⟩ s K=ldK d s K agg n (s.ev x):=by
 have e:vg P β ⟨d,g,.ld agg n x⟩ s K=(∃rt:RT,∀st:juU,∃av os,(∃l,zR s n l (s.ev x)∧(if agg then av=.agg l else∃a,l=[a]∧av=.c a)∧os=[])∧K ((s.addO os).put d av)):=rfl
 have h1:∀l,(∃av os,((if agg then av=.agg l else∃a,l=[a]∧av=.c a)∧os=[])∧K ((s.addO os).put d av))↔ldV agg l fun v=>K (s.put d v):=fun l=>by
  cases agg
  ·rcases l with _|⟨a,_|⟨b,l⟩⟩
   ·simp [ldV]
   ·simp only [ldV]
    constructor
    ·rintro ⟨_,_,⟨h,rfl⟩,h3⟩;simp at h;subst h;exact h3
    ·intro h3;exact ⟨_,_,⟨by simp,rfl⟩,h3⟩
   ·simp [ldV]
  ·simp only [ldV]
   constructor
   ·rintro ⟨_,_,⟨h,rfl⟩,h3⟩;simp at h;subst h;exact h3
   ·intro h3;exact ⟨_,_,⟨by simp,rfl⟩,h3⟩
 have e2:vg P β ⟨d,g,.ld agg n x⟩ s K↔∃l,zR s n l (s.ev x)∧ldV agg l fun v=>K (s.put d v):=by
  rw [e];constructor
  ·rintro ⟨_,h⟩
   obtain ⟨av,os,⟨l,h2,h3⟩,h4⟩:=h ⟨0,fun _ _=>undef⟩
   exact ⟨l,h2,(h1 l).1 ⟨av,os,h3,h4⟩⟩
  ·rintro ⟨l,h2,h3⟩
   refine ⟨.c (.val undef),fun _=>?_⟩
   obtain ⟨av,os,h4,h5⟩:=(h1 l).2 h3;exact ⟨av,os,⟨l,h2,h4⟩,h5⟩
 apply propext
 rw [e2];cases h:s.ev x with
 |c a=>
  cases a with
  |bp k c b=>
   simp only [zR,ldK,ldB];cases ho:s.o k<;>simp
   constructor
   ·rintro ⟨l,⟨_,_,⟨rfl,_,rfl⟩,h2,rfl⟩,h3⟩;exact ⟨rfl,h2,h3⟩
   ·rintro ⟨rfl,h2,h3⟩;exact ⟨_,⟨_,_,⟨rfl,rfl,rfl⟩,h2,rfl⟩,h3⟩
  |rp ds=>
   simp only [zR,ldK];constructor
   ·rintro ⟨l,⟨h2,rfl⟩,h3⟩;exact ⟨h2,h3⟩
   ·rintro ⟨h2,h3⟩;exact ⟨_,⟨h2,rfl⟩,h3⟩
  |ep k c p i x=>
   simp only [zR,ldK];constructor
   ·rintro ⟨l,⟨d0,η,dd,h2,h3,h4,h7,h5,rfl⟩,h6⟩;exact ⟨d0,η,dd,h2,h3,h4,h7,h5,h6⟩
   ·rintro ⟨d0,η,dd,h2,h3,h4,h7,h5,h6⟩;exact ⟨_,⟨d0,η,dd,h2,h3,h4,h7,h5,rfl⟩,h6⟩
  |_=>simp [zR,ldK]
 |_=>simp [zR,ldK]
theorem jAw (agg:Bool) (n:Nat) (ds:List D):ldK d s K agg n (.c (.rp ds))=(n≤ds.length∧ldV agg ((ds.take n).map D.toRo) fun v=>K (s.put d v)):=(rfl)
theorem jAx (agg:Bool) (n k c b:Nat):ldK d s K agg n (.c (.bp k c b))=ldB (s.o k) k c b n fun l=>ldV agg l fun v=>K (s.put d v):=(rfl)
def iaK (d:Option Nat) (s:St) (K:St→Prop) (size:Nat):AV→AV→Prop
 |.c (.ro dd),.c (.v (.int _ n))=>(0≤n∧n.toNat<dd.len∧dd.isSl=true∧dd.size=size)∧K (s.put d (.c (.rp (dd.elem n.toNat))))
 |.c (.hs g c p hx sz lo m),.c (.v (.int _ n))=>(0≤n∧(∃dd,Is s (.hs g c p hx sz lo m) dd)∧sz=size∧n.toNat<m)∧K (s.put d (.c (.ep g c p ((lo+n.toNat)*size) hx)))
 |.c (.h g c p hx),.c (.v (.int _ n))=>(0≤n∧∃dd,Is s (.h g c p hx) dd∧dd.size=size∧n.toNat<dd.len)∧K (s.put d (.c (.ep g c p (n.toNat*size) hx)))
 |_,_=>False
theorem jzK (size:Nat) (x i:X):vg P β ⟨d,g,.ia size x i⟩ s K=iaK d s K size (s.ev x) (s.ev i):=by
 unfold iaK;split
 ·rename_i dd k n h1 h2
  refine jyF rfl fun _ _ _ _=>?_
  simp only [Gen,h1,h2];constructor
  ·rintro ⟨_,_,he,h3,⟨h4,h5,h6,h7⟩,h8⟩;cases he;exact ⟨⟨h3,h6,h4,h5⟩,h7,h8⟩
  ·rintro ⟨⟨h3,h6,h4,h5⟩,h7,h8⟩;exact ⟨_,_,rfl,h3,⟨h4,h5,h6,h7⟩,h8⟩
 ·rename_i k c p hx sz lo m kk n h1 h2
  refine jyF rfl fun _ _ _ _=>?_
  simp only [Gen,h1,h2];constructor
  ·rintro ⟨_,_,he,h3,⟨h4,h5,h6,h7⟩,h8⟩;cases he;exact ⟨⟨h3,h4,h5,h6⟩,h7,h8⟩
  ·rintro ⟨⟨h3,h4,h5,h6⟩,h7,h8⟩;exact ⟨_,_,rfl,h3,⟨h4,h5,h6,h7⟩,h8⟩
 ·rename_i k c p hx kk n h1 h2
  refine jyF rfl fun _ _ _ _=>?_
  simp only [Gen,h1,h2];constructor
  ·rintro ⟨_,_,he,h3,⟨h4,h7⟩,h8⟩;cases he;exact ⟨⟨h3,h4⟩,h7,h8⟩
  ·rintro ⟨⟨h3,h4⟩,h7,h8⟩;exact ⟨_,_,rfl,h3,⟨h4,h7⟩,h8⟩
 ·rename_i h1 h2 h3'
  refine jqc rfl fun _ _ _ _=>?_
  simp only [Gen];rintro ⟨k,n,he,h3,h4,_⟩;split at h4
  ·exact h1 _ _ _ (by assumption) he
  ·exact h3' _ _ _ _ _ _ (by assumption) he
  ·exact h2 _ _ _ _ _ _ _ _ _ (by assumption) he
  ·exact h4
theorem jAE (size:Nat) (dd:D) (k:IntKind) (n:Int):iaK d s K size (.c (.ro dd)) (.c (.v (.int k n)))=((0≤n∧n.toNat<dd.len∧dd.isSl=true∧dd.size=size)∧K (s.put d (.c (.rp (dd.elem n.toNat))))):=(rfl)
theorem iaK_h (size k c:Nat) (p:List Nat) (hx:Value) (kk:IntKind) (n:Int):iaK d s K size (.c (.h k c p hx)) (.c (.v (.int kk n)))=((0≤n∧∃dd,Is s (.h k c p hx) dd∧dd.size=size∧n.toNat<dd.len)∧K (s.put d (.c (.ep k c p (n.toNat*size) hx)))):=rfl
theorem jl5 {i:I} {G:AV→Prop} (hw:i.writes=false) (h:∀rt st av' os',Gen P s (β+d.getD 0) rt st i av' os'↔G av'∧os'=[]):vg P β ⟨d,g,i⟩ s K=∃av,G av∧K (s.put d av):=by
 have e:vg P β ⟨d,g,i⟩ s K=(∃rt,∀st,∃av os,Gen P s (β+d.getD 0) rt st i av os∧K ((s.addO os).put d av)):=by
  cases i<;>first|rfl|cases hw
 rw [e]
 apply propext
 constructor
 ·rintro ⟨_,h1⟩
  obtain ⟨av',os',h2,h3⟩:=h1 ⟨0,fun _ _=>undef⟩
  obtain ⟨h4,rfl⟩:=(h _ _ _ _).1 h2;exact ⟨av',h4,h3⟩
 ·rintro ⟨av,h1,h2⟩
  exact ⟨.c (.val undef),fun _=>⟨av,[],(h _ _ _ _).2 ⟨h1,rfl⟩,h2⟩⟩
def jw0 (d:Option Nat) (s:St) (K:St→Prop) (str:Bool) (a:AV):Prop:=∃av,(∃n,jsc s str a n∧av=.c (.v (.int .i64 (n:Int))))∧K (s.put d av)
theorem jxI (str:Bool) (x:X):vg P β ⟨d,g,.len str x⟩ s K=jw0 d s K str (s.ev x):=jl5 rfl fun _ _ av os=>by
 simp only [Gen];constructor
 ·rintro ⟨n,h1,h2,h3⟩;exact ⟨⟨n,h1,h2⟩,h3⟩
 ·rintro ⟨⟨n,h1,h2⟩,h3⟩;exact ⟨n,h1,h2,h3⟩
theorem jtB (str:Bool) (a:AV):jw0 d s K str a=∃n,jsc s str a n∧K (s.put d (.c (.v (.int .i64 (n:Int))))):=by
 apply propext
 constructor
 ·rintro ⟨_,⟨n,h1,rfl⟩,h2⟩;exact ⟨n,h1,h2⟩
 ·rintro ⟨n,h1,h2⟩;exact ⟨_,⟨n,h1,rfl⟩,h2⟩
theorem jyl (dd:D):jw0 d s K false (.c (.ro dd))=((dd.isSl=true∧0<dd.size)∧K (s.put d (.c (.v (.int .i64 dd.len))))):=by
 rw [jtB]
 apply propext
 constructor
 ·rintro ⟨_,⟨h1,h2,rfl⟩,h3⟩;exact ⟨⟨h1,h2⟩,h3⟩
 ·rintro ⟨⟨h1,h2⟩,h3⟩;exact ⟨_,⟨h1,h2,rfl⟩,h3⟩
theorem jvQ (b:ByteArray):jw0 d s K true (.c (.v (.string b)))=K (s.put d (.c (.v (.int .i64 b.size)))):=by
 rw [jtB];simp [jsc]
theorem jvS:jw0 d s K false (.c (.v (.slice none 0 0)))=K (s.put d (.c (.v (.int .i64 0)))):=by
 rw [jtB];simp [jsc]
theorem jAv (k c:Nat) (p:List Nat) (x:Value):jw0 d s K false (.c (.h k c p x))=∃dd,Is s (.h k c p x) dd∧0<dd.size∧K (s.put d (.c (.v (.int .i64 dd.len)))):=by
 rw [jtB]
 apply propext
 constructor
 ·rintro ⟨_,⟨dd,h1,h2,rfl⟩,h3⟩;exact ⟨dd,h1,h2,h3⟩
 ·rintro ⟨dd,h1,h2,h3⟩;exact ⟨_,⟨dd,h1,h2,rfl⟩,h3⟩
def jy0 (P:Program) (d:Option Nat) (s:St) (K:St→Prop) (op:BinOp) (ty:Nat) (x y:AV):Prop:=∃av,((∃a b v,x=.c (.v a)∧y=.c (.v b)∧jBn op a b v∧av=.c (.v v))∨
 (∃l m xs ys b,x=.agg l∧y=.agg m∧jb7 l=some xs∧jb7 m=some ys∧EqR P op ty xs ys b∧av=.c (.v (.bool b))))∧K (s.put d av)
theorem jxT (op:BinOp) (ty:Nat) (x y:X):vg P β ⟨d,g,.bin op ty x y⟩ s K=jy0 P d s K op ty (s.ev x) (s.ev y):=jl5 rfl fun _ _ _ _=>Iff.rfl
theorem jxf (op:BinOp) (ty:Nat) (a b:Value):jy0 P d s K op ty (.c (.v a)) (.c (.v b))=∃v,jBn op a b v∧K (s.put d (.c (.v v))):=by
 apply propext
 constructor
 ·rintro ⟨_,(⟨_,_,v,h1,h2,h3,rfl⟩|⟨_,_,_,_,_,h1,_⟩),h4⟩
  ·cases h1;cases h2;exact ⟨v,h3,h4⟩
  ·cases h1
 ·rintro ⟨v,h1,h2⟩;exact ⟨_,.inl ⟨_,_,v,rfl,rfl,h1,rfl⟩,h2⟩
theorem jA9 (op:BinOp) (ty:Nat) (k k':IntKind) (a b:Int):jy0 P d s K op ty (.c (.v (.int k a))) (.c (.v (.int k' b)))=(jvV op k k' b∧K (s.put d (.c (.v (je7 op k a b))))):=by
 rw [jxf]
 apply propext
 constructor
 ·rintro ⟨_,⟨h1,rfl⟩,h2⟩;exact ⟨h1,h2⟩
 ·rintro ⟨h1,h2⟩;exact ⟨_,⟨h1,rfl⟩,h2⟩
theorem jwx (ty:Nat) (a b:ByteArray):jy0 P d s K .eql ty (.c (.v (.string a))) (.c (.v (.string b)))=K (s.put d (.c (.v (.bool (a.toList==b.toList))))):=by rw [jxf];simp [jBn]
def unK (d:Option Nat) (s:St) (K:St→Prop) (op:UnOp) (x:AV):Prop:=∃av,(match op with
 |.not=>∃b,x=.c (.v (.bool b))∧av=.c (.v (.bool (!b)))
 |.neg=>∃k n,x=.c (.v (.int k n))∧av=.c (.v (.int k (k.wrap (0-n))))
 |_=>False)∧K (s.put d av)
theorem jzF (op:UnOp) (x:X):vg P β ⟨d,g,.un op x⟩ s K=unK d s K op (s.ev x):=jl5 rfl fun _ _ _ _=>Iff.rfl
theorem jxr (b:Bool):unK d s K .not (.c (.v (.bool b)))=K (s.put d (.c (.v (.bool (!b))))):=by simp [unK]
def cvK (d:Option Nat) (s:St) (K:St→Prop) (c:Cv) (x:AV):Prop:=∃av,(match c with
 |.num k=>∃k' n,x=.c (.v (.int k' n))∧av=.c (.v (.int k (k.wrap n)))
 |.text=>∃(a:A0) (ty:Nat) (bs:List UInt8),x=.c a∧Is s a (.sl 1 ty (bs.map qY))∧av=.c (.v (.string ⟨bs.toArray⟩))
 |.bytes=>False)∧K (s.put d av)
theorem jzN (c:Cv) (e:Nat) (x:X):vg P β ⟨d,g,.cv c e x⟩ s K=cvK d s K c (s.ev x):=jl5 rfl fun _ _ _ _=>Iff.rfl
theorem jyT (k k':IntKind) (n:Int):cvK d s K (.num k) (.c (.v (.int k' n)))=K (s.put d (.c (.v (.int k (k.wrap n))))):=by
 apply propext
 constructor
 ·rintro ⟨_,⟨_,_,h1,rfl⟩,h⟩;cases h1;exact h
 ·intro h;exact ⟨_,⟨_,_,rfl,rfl⟩,h⟩
def mmK (d:Option Nat) (s:St) (K:St→Prop) (mx:Bool) (x y:AV):Prop:=∃av,(∃k k' a b,x=.c (.v (.int k a))∧y=.c (.v (.int k' b))∧av=.c (.v (.int k (if mx then (if b>a then b else a) else (if b<a then b else a)))))∧K (s.put d av)
theorem jzI (mx:Bool) (x y:X):vg P β ⟨d,g,.mm mx x y⟩ s K=mmK d s K mx (s.ev x) (s.ev y):=jl5 rfl fun _ _ av os=>by
 simp only [Gen];constructor
 ·rintro ⟨k,k',a,b,h1,h2,h3,h4⟩;exact ⟨⟨k,k',a,b,h1,h2,h3⟩,h4⟩
 ·rintro ⟨⟨k,k',a,b,h1,h2,h3⟩,h4⟩;exact ⟨k,k',a,b,h1,h2,h3,h4⟩
theorem mmK_ (mx:Bool) (k k':IntKind) (a b:Int):mmK d s K mx (.c (.v (.int k a))) (.c (.v (.int k' b)))=K (s.put d (.c (.v (.int k (if mx then (if b>a then b else a) else (if b<a then b else a)))))):=by
 apply propext
 constructor
 ·rintro ⟨_,⟨_,_,_,_,h1,h2,rfl⟩,h⟩;cases h1;cases h2;exact h
 ·intro h;exact ⟨_,⟨_,_,_,_,rfl,rfl,rfl⟩,h⟩
def extK (d:Option Nat) (s:St) (K:St→Prop) (x:AV) (i:Nat):Prop:=∃av,(∃l b az,x=.tup l∧l[i]?=some (b,az)∧(if b then av=.agg az else∃a,az=[a]∧av=.c a))∧K (s.put d av)
theorem jxO (x:X) (i:Nat):vg P β ⟨d,g,.ext x i⟩ s K=extK d s K (s.ev x) i:=jl5 rfl fun _ _ av os=>by
 simp only [Gen];constructor
 ·rintro ⟨l,b,az,h1,h2,h3,h4⟩;exact ⟨⟨l,b,az,h1,h2,h3⟩,h4⟩
 ·rintro ⟨⟨l,b,az,h1,h2,h3⟩,h4⟩;exact ⟨l,b,az,h1,h2,h3,h4⟩
def jBs (l:Option (Bool×List A0)) (k:AV→Prop):Prop:=match l with
 |some (true,az)=>k (.agg az)
 |some (false,[a])=>k (.c a)
 |_=>False
theorem extK_ (l:List (Bool×List A0)) (i:Nat):extK d s K (.tup l) i=jBs l[i]? fun v=>K (s.put d v):=by
 apply propext
 unfold extK jBs;constructor
 ·rintro ⟨av,⟨l',b,az,h1,h2,h3⟩,h4⟩
  cases h1;rw [h2];cases b
  ·obtain ⟨a,rfl,rfl⟩:∃a,az=[a]∧av=.c a:=by simpa using h3
   exact h4
  ·obtain rfl:av=.agg az:=by simpa using h3
   exact h4
 ·split
  ·intro h;exact ⟨_,⟨_,_,_,rfl,by assumption,by simp⟩,h⟩
  ·intro h;exact ⟨_,⟨_,_,_,rfl,by assumption,by simp⟩,h⟩
  ·exact False.elim
theorem jAO (az:List A0) (k:AV→Prop):jBs (some (true,az)) k=k (.agg az):=(rfl)
theorem jAP (a:A0) (k:AV→Prop):jBs (some (false,[a])) k=k (.c a):=(rfl)
def jzB (d:Option Nat) (s:St) (K:St→Prop) (x i:AV):Prop:=∃av,(∃b k n u,x=.c (.v (.string b))∧i=.c (.v (.int k n))∧0≤n∧b[n.toNat]?=some u∧av=.c (.v (.int .u8 u.toNat)))∧K (s.put d av)
theorem jvo (x i:X):vg P β ⟨d,g,.sidx x i⟩ s K=jzB d s K (s.ev x) (s.ev i):=jl5 rfl fun _ _ av os=>by
 simp only [Gen];constructor
 ·rintro ⟨b,k,n,u,h1,h2,h3,h4,h5,h6⟩;exact ⟨⟨b,k,n,u,h1,h2,h3,h4,h5⟩,h6⟩
 ·rintro ⟨⟨b,k,n,u,h1,h2,h3,h4,h5⟩,h6⟩;exact ⟨b,k,n,u,h1,h2,h3,h4,h5,h6⟩
theorem jzA (b:ByteArray) (k:IntKind) (n:Int):jzB d s K (.c (.v (.string b))) (.c (.v (.int k n)))=(0≤n∧∃u,b[n.toNat]?=some u∧K (s.put d (.c (.v (.int .u8 u.toNat))))):=by
 apply propext
 constructor
 ·rintro ⟨_,⟨_,_,_,u,h1,h2,h3,h4,rfl⟩,h5⟩;cases h1;cases h2;exact ⟨h3,u,h4,h5⟩
 ·rintro ⟨h3,u,h4,h5⟩;exact ⟨_,⟨_,_,_,u,rfl,rfl,h3,h4,rfl⟩,h5⟩
theorem jc {f:Nat} {args:List X} {vs:List View} {rt:RT} (hp:kp P f vs rt) (ha:zJ s (args.map s.ev) vs) (hk:∀η:Nat→jq,K ((s.addO (jj6 (100*(β+d.getD 0)) η 0 rt.flat)).put d (rt.av (100*(β+d.getD 0)) η))):
 vg P β ⟨d,g,.call f args⟩ s K:=Or.inl ⟨rt,fun st=>⟨_,_,⟨vs,ha,hp,rfl,rfl⟩,hk st.η⟩⟩
theorem jeV {f:Nat} {args:List X} {R:RT→(Nat→Ob)→Prop} (h:Turns P f (args.map s.ev) s.o R) (hk:∀rt o',R rt o'→∀η:Nat→jq,K (((⟨s.t,o'⟩:St).addO (jj6 (100*(β+d.getD 0)) η 0 rt.flat)).put d (rt.av (100*(β+d.getD 0)) η))):
 vg P β ⟨d,g,.call f args⟩ s K:=Or.inr (Or.inl ⟨h.1,fun B w F xs h1 h2=>(h.2 B w F xs h1 h2).mono fun e w' ⟨v,rt,o',S,F',k1,k2,k3,k4,k5,k6⟩=>⟨v,rt,o',S,F',k1,k2,k3,k4,k5,hk _ _ k6⟩⟩)
theorem kS {f:Nat} {args:List X} (h:Inl P f (args.map s.ev) s.o fun av o'=>K (St.put ⟨s.t,o'⟩ d av)):vg P β ⟨d,g,.call f args⟩ s K:=Or.inr (Or.inr h)
theorem jsT {f:Nat} {x:X} {caps:List A0} {args:List X} {R:RT→(Nat→Ob)→Prop} (h0:s.ev x=.fn f caps) (h:Turns P f (args.map s.ev++caps.map .c) s.o R) (hk:∀rt o',R rt o'→∀η:Nat→jq,K (((⟨s.t,o'⟩:St).addO (jj6 (100*(β+d.getD 0)) η 0 rt.flat)).put d (rt.av (100*(β+d.getD 0)) η))):
 vg P β ⟨d,g,.callv x args⟩ s K:=Or.inr ⟨f,caps,h0,h.1,fun B w F xs h1 h2=>(h.2 B w F xs h1 h2).mono fun e w' ⟨v,rt,o',S,F',k1,k2,k3,k4,k5,k6⟩=>⟨v,rt,o',S,F',k1,k2,k3,k4,k5,hk _ _ k6⟩⟩
theorem jiK {f:Nat} {x:X} {caps:List A0} {args:List X} {vs:List View} {rt:RT} (h0:s.ev x=.fn f caps) (hp:kp P f vs rt) (ha:zJ s (args.map s.ev++caps.map .c) vs) (hk:∀η:Nat→jq,K ((s.addO (jj6 (100*(β+d.getD 0)) η 0 rt.flat)).put d (rt.av (100*(β+d.getD 0)) η))):
 vg P β ⟨d,g,.callv x args⟩ s K:=Or.inl ⟨rt,fun st=>⟨_,_,⟨f,caps,vs,h0,ha,hp,rfl,rfl⟩,hk st.η⟩⟩
def jA8 (β:Nat) (d:Option Nat) (s:St) (K:St→Prop) (ty n:Nat) (x:AV):Prop:=∃l,x.cells=some l∧l.length=n∧qA s l fun cs s'=>∀b,K ((s'.addO [(100*(β+d.getD 0),.box b ty cs)]).put d (.c (.bp (100*(β+d.getD 0)) 0 b)))
theorem jxR (ty n:Nat) (x:X):vg P β ⟨d,g,.box ty n x⟩ s K=jA8 β d s K ty n (s.ev x):=(rfl)
theorem jwu (ty n:Nat) (l:List A0):jA8 β d s K ty n (.agg l)=(l.length=n∧qA s l fun cs s'=>∀b,K ((s'.addO [(100*(β+d.getD 0),.box b ty cs)]).put d (.c (.bp (100*(β+d.getD 0)) 0 b)))):=by simp [jA8,AV.cells]
theorem jA7 (ty n:Nat) (a:A0):jA8 β d s K ty n (.c a)=(a.c1=true∧1=n∧qA s [a] fun cs s'=>∀b,K ((s'.addO [(100*(β+d.getD 0),.box b ty cs)]).put d (.c (.bp (100*(β+d.getD 0)) 0 b)))):=by
 unfold jA8 AV.cells;by_cases h:a.c1=true<;>simp [h]
theorem ju6 (K:List Cell→St→Prop):qA s [] K=K [] s:=(rfl)
theorem jzf (x:Value) (l:List A0) (K:List Cell→St→Prop):qA s (.v x::l) K=(x.oneCell'=true∧qA s l (fun cs s'=>K (.a (.v x)::cs) s')):=(rfl)
theorem jxu (x:D) (l:List A0) (K:List Cell→St→Prop):qA s (.ro x::l) K=qA s l (fun cs s'=>K (.a (.ro x)::cs) s'):=by simp [qA,A0.one]
theorem one_i (k:IntKind) (n:Int):(Value.int k n).oneCell'=true:=(rfl)
theorem one_b (b:Bool):(Value.bool b).oneCell'=true:=(rfl)
theorem one_s (b:ByteArray):(Value.string b).oneCell'=true:=(rfl)
theorem one_n (a:Option Addr) (n c:Nat):(Value.slice a n c).oneCell'=true:=(rfl)
theorem jzg (k c:Nat) (x:Value) (l:List A0) (K:List Cell→St→Prop):qA s (.h k c [] x::l) K=∃d η,(s.o k).own c=some (d,η)∧η []=x∧qA (s.rm k c) l (fun cs s'=>K (.own d η::cs) s'):=by simp [qA]
end
section
variable {P:Program} {β:Nat} {s:St} {K:St→Prop} {d:Option Nat} {l:List (Nat×List Lk)}
theorem jxX:vZ P β .done l s K=K s:=(rfl)
theorem jxV:vZ P β .stop l s K=True:=(rfl)
theorem jxW (p:Nat) (i:I) (t:T):vZ P β (.pure p ⟨d,none,i⟩ t) l s K=vg P β ⟨d,none,i⟩ s fun s'=>vZ P β t ((p,i.looks s)::l) s' K:=(rfl)
theorem jzO {n:Nat} (p:Nat) (i:I) (t:T) (h:s.t n=.c (.v (.bool true))):vZ P β (.pure p ⟨d,some (n,true),i⟩ t) l s K=vg P β ⟨d,some (n,true),i⟩ s fun s'=>vZ P β t ((p,i.looks s)::l) s' K:=by simp [vZ,vJ,h]
theorem jzP {n:Nat} (p:Nat) (i:I) (t:T) (h:s.t n=.c (.v (.bool false))):vZ P β (.pure p ⟨d,some (n,true),i⟩ t) l s K=vZ P β t l (s.put d (.c (.v undef))) K:=by simp [vZ,vJ,h]
theorem jzQ {n:Nat} (p:Nat) (i:I) (t:T) (h:s.t n=.c (.v (.bool true))):vZ P β (.pure p ⟨d,some (n,false),i⟩ t) l s K=vZ P β t l (s.put d (.c (.v undef))) K:=by simp [vZ,vJ,h]
theorem jzR {n:Nat} (p:Nat) (i:I) (t:T) (h:s.t n=.c (.v (.bool false))):vZ P β (.pure p ⟨d,some (n,false),i⟩ t) l s K=vg P β ⟨d,some (n,false),i⟩ s fun s'=>vZ P β t ((p,i.looks s)::l) s' K:=by simp [vZ,vJ,h]
theorem jzS (i:I) (chk:List Nat) (t r:T):vZ P β (.alt ⟨d,none,i⟩ chk t r) l s K=(vg P β ⟨d,none,i⟩ s (fun s'=>jlY s s' chk l∧vZ P β t l s' K)∧vZ P β r l s K):=(rfl)
theorem jz1 {n:Nat} (i:I) (chk:List Nat) (t r:T) (h:s.t n=.c (.v (.bool true))):vZ P β (.alt ⟨d,some (n,true),i⟩ chk t r) l s K=(vg P β ⟨d,some (n,true),i⟩ s (fun s'=>jlY s s' chk l∧vZ P β t l s' K)∧vZ P β r l s K):=by simp [vZ,vJ,h]
theorem jz2 {n:Nat} (i:I) (chk:List Nat) (t r:T) (h:s.t n=.c (.v (.bool false))):vZ P β (.alt ⟨d,some (n,true),i⟩ chk t r) l s K=(vZ P β t l (s.put d (.c (.v undef))) K∧vZ P β r l s K):=by simp [vZ,vJ,h]
theorem jz3 {n:Nat} (i:I) (chk:List Nat) (t r:T) (h:s.t n=.c (.v (.bool true))):vZ P β (.alt ⟨d,some (n,false),i⟩ chk t r) l s K=(vZ P β t l (s.put d (.c (.v undef))) K∧vZ P β r l s K):=by simp [vZ,vJ,h]
theorem jz4 {n:Nat} (i:I) (chk:List Nat) (t r:T) (h:s.t n=.c (.v (.bool false))):vZ P β (.alt ⟨d,some (n,false),i⟩ chk t r) l s K=(vg P β ⟨d,some (n,false),i⟩ s (fun s'=>jlY s s' chk l∧vZ P β t l s' K)∧vZ P β r l s K):=by simp [vZ,vJ,h]
theorem jxn (t:T) (Q:Ex→St→Prop):wpC P β (.dreg t) Q s=vZ P β t [] s (Q .normal):=(rfl)
theorem jtI (s':St) (chk:List Nat):jlY s s' chk []=True:=(rfl)
theorem jrG (s':St) (chk:List Nat) (p:Nat) (ids:List Lk) (l:List (Nat×List Lk)):jlY s s' chk ((p,ids)::l)=((if chk.contains p then joQ s s' ids else True)∧jlY s s' chk l):=(rfl)
theorem jtJ (s':St):joQ s s' []=True:=(rfl)
theorem jrH (s':St) (k:Lk) (l:List Lk):joQ s s' (k::l)=(jp3 s s' k∧joQ s s' l):=(rfl)
theorem jyp (s':St) (g:Nat):jp3 s s' (.ob g)=(s'.o g=s.o g):=(rfl)
theorem jyq (s':St) (g c n:Nat):jp3 s s' (.cs g c n)=jq6 g c n (s'.o g) (s.o g):=(rfl)
theorem jxE (g c n:Nat) (ob:Ob):jq6 g c n ob ob=True:=eq_true (jiI g c n ob)
theorem jsS (g c n b ty b' ty':Nat) (cs cs':List Cell):jq6 g c n (.box b ty cs) (.box b' ty' cs')=(b=b'∧ty=ty'∧cs.length=cs'.length∧jdl g c ((cs.drop c).take n)=jdl g c ((cs'.drop c).take n)):=(rfl)
end
section
variable {α:Type} {enc:α→List D} {size:Nat}
theorem jaH (hl:∀x,(enc x).length=size) (hs:0<size) (ty:TypeId) (xs:List α):D.len (.sl size ty (xs.flatMap enc))=xs.length:=by
 simp only [D.len,D.cells,D.size];rw [jG hl,Nat.mul_div_cancel _ hs]
theorem zB (hl:∀x,(enc x).length=size) {ty:TypeId} {xs:List α} {k:Nat} {x:α} (hx:xs[k]?=some x):D.elem (.sl size ty (xs.flatMap enc)) k=enc x:=by
 have hk:k<xs.length:=(List.getElem?_eq_some_iff.1 hx).1;have hx':xs[k]=x:=by rw [List.getElem?_eq_getElem hk] at hx;exact Option.some.inj hx
 simp only [D.elem,D.cells,D.size];have e:xs=xs.take k++(x::xs.drop (k+1)):=by rw [←hx'];simp
 have e2:xs.flatMap enc=(xs.take k).flatMap enc++(enc x++(xs.drop (k+1)).flatMap enc):=by
  conv=>lhs;rw [e]
  simp
 have e3:((xs.take k).flatMap enc).length=k*size:=by rw [jG hl,List.length_take,Nat.min_eq_left (by omega)]
 rw [e2,←e3,List.drop_left,←hl x,List.take_left]
end
theorem jaa (l:List Rn):(jO l).len=l.length:=jaH (enc:=jd) (fun _=>rfl) (by decide) _ _
theorem jY {l:List Rn} {k:Nat} {x:Rn} (h:l[k]?=some x):(jO l).elem k=jd x:=zB (enc:=jd) (fun _=>rfl) h
theorem jcu (l:List (List En)):(kw l).len=l.length:=jaH (enc:=fun es=>[jm es]) (fun _=>rfl) (by decide) _ _
theorem kY {l:List (List En)} {k:Nat} {x:List En} (h:l[k]?=some x):(kw l).elem k=[jm x]:=zB (enc:=fun es=>[jm es]) (fun _=>rfl) h
theorem jdd (l:List En):(jm l).len=l.length:=jaH (enc:=jf) (fun _=>rfl) (by decide) _ _
theorem jH {l:List En} {k:Nat} {x:En} (h:l[k]?=some x):(jm l).elem k=jf x:=zB (enc:=jf) (fun _=>rfl) h
theorem jrB (l:List Tk):(jI l).len=l.length:=jaH (enc:=jn) (fun _=>rfl) (by decide) _ _
theorem jT {l:List Tk} {k:Nat} {x:Tk} (h:l[k]?=some x):(jI l).elem k=jn x:=zB (enc:=jn) (fun _=>rfl) h
theorem jsE (l:List Rn):(jO l).isSl=true:=(rfl)
theorem jvf (l:List (List En)):(kw l).isSl=true:=(rfl)
theorem jsG (l:List En):(jm l).isSl=true:=(rfl)
theorem jsD (l:List Tk):(jI l).isSl=true:=(rfl)
theorem jst (l:List Rn):(jO l).size=8:=(rfl)
theorem ju8 (l:List (List En)):(kw l).size=1:=(rfl)
theorem jsv (l:List En):(jm l).size=4:=(rfl)
theorem jss (l:List Tk):(jI l).size=4:=(rfl)
theorem js0 (l:List Rn):(jO l).toRo=.ro (jO l):=(rfl)
theorem jvs (l:List (List En)):(kw l).toRo=.ro (kw l):=(rfl)
theorem jmU (l:List En):(jm l).toRo=.ro (jm l):=(rfl)
theorem jsZ (l:List Tk):(jI l).toRo=.ro (jI l):=(rfl)
theorem js1 (l:List Ed):(jy l).toRo=.ro (jy l):=(rfl)
theorem jzT (v:Value):(D.val v).toRo=.v v:=(rfl)
theorem jAA (vs:List View) (n:Nat):(St.init vs).o n=.none:=(rfl)
theorem jAz (vs:List View) (n:Nat):(St.init vs).t n=((vs.map View.av)[n]?).getD .unk:=(rfl)
end Go.Proofs.YtmnpailnelmpiaaGreat
