/- Parts. -/
import Derived.Test.YtmnpailnelmpiaaGreatQBase2
import Derived.Test.YtmnpailnelmpiaaGreatRows
set_option linter.unusedSimpArgs false
set_option linter.unusedVariables false
set_option maxHeartbeats 1000000
namespace Go.Proofs.YtmnpailnelmpiaaGreat
open Go.RowKit
structure Ed where
 src:Int
 dst:Int
 deriving DecidableEq,Inhabited
structure Pl where
 prio:Int
 most:Int
 wait:Int
 tasks:Int
 edges:List Ed
 deriving DecidableEq,Inhabited
structure En where
 prio:Int
 seq:Int
 run:Int
 task:Int
 deriving DecidableEq,Inhabited
structure Tk where
 state:Int
 need:Int
 tri:Int
 til:Int
 deriving DecidableEq,Inhabited
structure Rn where
 id:Int
 plan:Pl
 state:Int
 tasks:List Tk
 deriving DecidableEq,Inhabited
structure Yd where
 now:Int
 seq:Int
 shelf:List (List En)
 runs:List Rn
 deriving DecidableEq,Inhabited
structure Dd where
 kind:Int
 run:Int
 plan:Pl
 task:Int
 tri:Int
 worker:Int
 draw:Int
 deriving DecidableEq,Inhabited
structure Nt where
 seq:Int
 deed:Dd
 deriving DecidableEq,Inhabited
abbrev tEdS:TypeId:=69
abbrev tTkS:TypeId:=106
abbrev jDK:TypeId:=35
abbrev tSh:TypeId:=34
abbrev tDdS:TypeId:=84
abbrev tEd:TypeId:=253
abbrev tEn:TypeId:=111
abbrev tTk:TypeId:=172
abbrev tRn:TypeId:=108
abbrev jn2:TypeId:=102
abbrev tDd:TypeId:=73
abbrev tYd:TypeId:=37
abbrev tPl:TypeId:=71
abbrev jfc:TypeId:=3
abbrev iv (n:Int):D:=.val (.int .i64 n)
def jh (l:List Int):D:=.sl 1 jfc (l.flatMap fun n=>[iv n])
def jJ (e:Ed):List D:=[iv e.src,iv e.dst]
def ju (l:List Ed):D:=.sl 2 tEd (l.flatMap jJ)
def ja (p:Pl):List D:=[iv p.prio,iv p.most,iv p.wait,iv p.tasks,ju p.edges]
def jf (e:En):List D:=[iv e.prio,iv e.seq,iv e.run,iv e.task]
def jk (l:List En):D:=.sl 4 tEn (l.flatMap jf)
def jo (t:Tk):List D:=[iv t.state,iv t.need,iv t.tri,iv t.til]
def jy (l:List Tk):D:=.sl 4 tTk (l.flatMap jo)
def jd (r:Rn):List D:=iv r.id::(ja r.plan++[iv r.state,jy r.tasks])
def jN (l:List Rn):D:=.sl 8 tRn (l.flatMap jd)
def kj (l:List (List En)):D:=.sl 1 jn2 (l.flatMap fun es=>[jk es])
def jb (y:Yd):List D:=[iv y.now,iv y.seq,kj y.shelf,jN y.runs]
def jg (d:Dd):List D:=iv d.kind::iv d.run::(ja d.plan++[iv d.task,iv d.tri,iv d.worker,iv d.draw])
def kf (n:Nt):List D:=iv n.seq::jg n.deed
def qp (l:List Dd):D:=.sl 11 tDd (l.flatMap jg)
section
variable {w:World} {own:Bool} {vs:List Value} {v:Value} {S:List Nat}
theorem qM {e:En} (h:RepL w own (jf e) vs S):vs=[.int .i64 e.prio,.int .i64 e.seq,.int .i64 e.run,.int .i64 e.task]∧S=[]:=by
 obtain ⟨_,rfl,g1⟩:=RepL.val_inv h;obtain ⟨_,rfl,g2⟩:=RepL.val_inv g1;obtain ⟨_,rfl,g3⟩:=RepL.val_inv g2;obtain ⟨_,rfl,g4⟩:=RepL.val_inv g3;obtain ⟨rfl,rfl⟩:=g4;exact ⟨rfl,rfl⟩
theorem qX {e:Tk} (h:RepL w own (jo e) vs S):vs=[.int .i64 e.state,.int .i64 e.need,.int .i64 e.tri,.int .i64 e.til]∧S=[]:=by
 obtain ⟨_,rfl,g1⟩:=RepL.val_inv h;obtain ⟨_,rfl,g2⟩:=RepL.val_inv g1;obtain ⟨_,rfl,g3⟩:=RepL.val_inv g2;obtain ⟨_,rfl,g4⟩:=RepL.val_inv g3;obtain ⟨rfl,rfl⟩:=g4;exact ⟨rfl,rfl⟩
theorem zE {e:Ed} (h:RepL w own (jJ e) vs S):vs=[.int .i64 e.src,.int .i64 e.dst]∧S=[]:=by
 obtain ⟨_,rfl,g1⟩:=RepL.val_inv h;obtain ⟨_,rfl,g2⟩:=RepL.val_inv g1;obtain ⟨rfl,rfl⟩:=g2;exact ⟨rfl,rfl⟩
theorem zd {p:Pl} (h:RepL w own (ja p) vs S):∃ev,vs=[.int .i64 p.prio,.int .i64 p.most,.int .i64 p.wait,.int .i64 p.tasks,ev]∧Rep w own (ju p.edges) ev S:=by
 obtain ⟨_,rfl,g1⟩:=RepL.val_inv h;obtain ⟨_,rfl,g2⟩:=RepL.val_inv g1;obtain ⟨_,rfl,g3⟩:=RepL.val_inv g2;obtain ⟨_,rfl,g4⟩:=RepL.val_inv g3;obtain ⟨ev,_,S1,S2,rfl,rfl,h1,rfl,rfl⟩:=g4;exact ⟨ev,rfl,by simpa using h1⟩
theorem kr {r:Rn} (h:RepL w own (jd r) vs S):∃ev tv S1 S2,vs=[.int .i64 r.id,.int .i64 r.plan.prio,.int .i64 r.plan.most,.int .i64 r.plan.wait,.int .i64 r.plan.tasks,ev,.int .i64 r.state,tv]
 ∧Rep w own (ju r.plan.edges) ev S1∧Rep w own (jy r.tasks) tv S2∧S=S1++S2:=by
 obtain ⟨_,rfl,g1⟩:=RepL.val_inv h;obtain ⟨v1,v2,S1,S2,rfl,rfl,h1,h2⟩:=RepL.append_inv _ g1;obtain ⟨ev,rfl,k1⟩:=zd h1;obtain ⟨_,rfl,g2⟩:=RepL.val_inv h2;obtain ⟨tv,_,S3,S4,rfl,rfl,h3,rfl,rfl⟩:=g2;exact ⟨ev,tv,S1,S3,rfl,k1,h3,by simp⟩
theorem qv {y:Yd} (h:RepL w own (jb y) vs S):∃sv rv S1 S2,vs=[.int .i64 y.now,.int .i64 y.seq,sv,rv]∧Rep w own (kj y.shelf) sv S1∧Rep w own (jN y.runs) rv S2∧S=S1++S2:=by
 obtain ⟨_,rfl,g1⟩:=RepL.val_inv h;obtain ⟨_,rfl,g2⟩:=RepL.val_inv g1;obtain ⟨sv,_,S1,S2,rfl,rfl,h1,k⟩:=g2;obtain ⟨rv,_,S3,S4,rfl,rfl,h3,rfl,rfl⟩:=k;exact ⟨sv,rv,S1,S3,rfl,h1,h3,by simp⟩
theorem kM {d:Dd} (h:RepL w own (jg d) vs S):∃ev,vs=[.int .i64 d.kind,.int .i64 d.run,.int .i64 d.plan.prio,.int .i64 d.plan.most,.int .i64 d.plan.wait,.int .i64 d.plan.tasks,ev,.int .i64 d.task,.int .i64 d.tri,.int .i64 d.worker,.int .i64 d.draw]
 ∧Rep w own (ju d.plan.edges) ev S:=by
 obtain ⟨_,rfl,g1⟩:=RepL.val_inv h;obtain ⟨_,rfl,g2⟩:=RepL.val_inv g1;obtain ⟨v1,v2,S1,S2,rfl,rfl,h1,h2⟩:=RepL.append_inv _ g2;obtain ⟨ev,rfl,k1⟩:=zd h1;obtain ⟨_,rfl,g3⟩:=RepL.val_inv h2;obtain ⟨_,rfl,g4⟩:=RepL.val_inv g3;obtain ⟨_,rfl,g5⟩:=RepL.val_inv g4;obtain ⟨_,rfl,g6⟩:=RepL.val_inv g5;obtain ⟨rfl,rfl⟩:=g6;exact ⟨ev,rfl,by simpa using k1⟩
theorem jlK (w:World) (own:Bool) (e:En):RepL w own (jf e) [.int .i64 e.prio,.int .i64 e.seq,.int .i64 e.run,.int .i64 e.task] []:=RepL.val_ (RepL.val_ (RepL.val_ (RepL.val_ RepL.nil_)))
theorem jsW (w:World) (own:Bool) (e:Tk):RepL w own (jo e) [.int .i64 e.state,.int .i64 e.need,.int .i64 e.tri,.int .i64 e.til] []:=RepL.val_ (RepL.val_ (RepL.val_ (RepL.val_ RepL.nil_)))
theorem jz2 (w:World) (own:Bool) (e:Ed):RepL w own (jJ e) [.int .i64 e.src,.int .i64 e.dst] []:=RepL.val_ (RepL.val_ RepL.nil_)
theorem jhy {p:Pl} {ev:Value} (h:Rep w own (ju p.edges) ev S):RepL w own (ja p) [.int .i64 p.prio,.int .i64 p.most,.int .i64 p.wait,.int .i64 p.tasks,ev] S:=by
 have:=RepL.val_ (u:=.int .i64 p.prio) (RepL.val_ (u:=.int .i64 p.most) (RepL.val_ (u:=.int .i64 p.wait) (RepL.val_ (u:=.int .i64 p.tasks) (RepL.cons_ h (RepL.nil_ (w:=w) (own:=own))))))
 rwa [List.append_nil] at this
theorem jlp {r:Rn} {ev tv:Value} {S1 S2:List Nat} (h:Rep w own (ju r.plan.edges) ev S1) (h2:Rep w own (jy r.tasks) tv S2):
 RepL w own (jd r) [.int .i64 r.id,.int .i64 r.plan.prio,.int .i64 r.plan.most,.int .i64 r.plan.wait,.int .i64 r.plan.tasks,ev,.int .i64 r.state,tv] (S1++S2):=by
 have:=RepL.val_ (u:=.int .i64 r.id) (RepL.append_ _ (jhy h) (RepL.val_ (u:=.int .i64 r.state) (RepL.cons_ h2 (RepL.nil_ (w:=w) (own:=own)))))
 rwa [List.append_nil] at this
theorem ja9 {y:Yd} {sv rv:Value} {S1 S2:List Nat} (h:Rep w own (kj y.shelf) sv S1) (h2:Rep w own (jN y.runs) rv S2):
 RepL w own (jb y) [.int .i64 y.now,.int .i64 y.seq,sv,rv] (S1++S2):=by
 have:=RepL.val_ (u:=.int .i64 y.now) (RepL.val_ (u:=.int .i64 y.seq) (RepL.cons_ h (RepL.cons_ h2 (RepL.nil_ (w:=w) (own:=own)))))
 rwa [List.append_nil] at this
theorem jhL {d:Dd} {ev:Value} (h:Rep w own (ju d.plan.edges) ev S):RepL w own (jg d) [.int .i64 d.kind,.int .i64 d.run,.int .i64 d.plan.prio,.int .i64 d.plan.most,.int .i64 d.plan.wait,.int .i64 d.plan.tasks,ev,.int .i64 d.task,.int .i64 d.tri,.int .i64 d.worker,.int .i64 d.draw] S:=by
 have:=RepL.val_ (u:=.int .i64 d.kind) (RepL.val_ (u:=.int .i64 d.run) (RepL.append_ _ (jhy h) (RepL.val_ (u:=.int .i64 d.task) (RepL.val_ (u:=.int .i64 d.tri) (RepL.val_ (u:=.int .i64 d.worker) (RepL.val_ (u:=.int .i64 d.draw) (RepL.nil_ (w:=w) (own:=own))))))))
 rwa [List.append_nil] at this
theorem jxg (r:Rn):(jd r).length=8:=rfl
theorem jxj (r:Dd):(jg r).length=11:=rfl
end
theorem jcd {α:Type} {l m:List α} {k:Nat} {x:α} (hx:l[k]?=some x) (hy:m[k]?=some x) (h:l.take k=m.take k):l.take (k+1)=m.take (k+1):=by
 rw [List.take_add_one,List.take_add_one,h,hx,hy]
theorem jkM {α:Type} {l m:List α} {k:Nat} {x y:α} (hx:l[k]?=some x) (hy:m[k]?=some y) (h:x≠y):l≠m:=by
 intro e;subst e;rw [hx] at hy;exact h (Option.some.inj hy)
theorem jce {α:Type} {l m:List α} {k:Nat} (hl:l.length≤k) (hm:m.length≤k) (h:l.take k=m.take k):l=m:=by
 rwa [List.take_of_length_le hl,List.take_of_length_le hm] at h
theorem je {α:Type} {l:List α} {k:Nat} (h:k<l.length):∃x,l[k]?=some x:=⟨l[k],List.getElem?_eq_getElem h⟩
theorem jE {b b':Bool} (h:b=b'):Ending.returned (.bool b)=Ending.returned (.bool b'):=by rw [h]
theorem jhH {P:Program} {e:TypeId} {size bytes:Nat} {z:Value} (h:(P.info? e).map (fun i=>(i.zero,i.size,i.bytes))=some (some z,size,bytes)):
 ∃i zv,P.info? e=some i∧i.zero=some zv∧zv.cells=z.cells∧i.size=size∧i.bytes=bytes:=by
 cases hq:P.info? e with
 |none=>rw [hq] at h;simp at h
 |some i=>
  rw [hq] at h;simp at h;exact ⟨i,z,rfl,h.1,rfl,h.2.1,h.2.2⟩
def jhI {α:Type} (l:List α) (z:α) (k:Nat):List α:=l.take k++List.replicate (l.length-k) z
theorem jbO {α:Type} (l:List α) (z:α):jhI l z 0=List.replicate l.length z:=by simp [jhI]
theorem vK {α:Type} (l:List α) (z:α) (k:Nat) (h:k≤l.length):(jhI l z k).length=l.length:=by simp [jhI];omega
theorem jd7 {α:Type} (l:List α) (z:α):jhI l z l.length=l:=by simp [jhI]
theorem jd6 {α:Type} {l:List α} {z x:α} {k:Nat} (hx:l[k]?=some x):(jhI l z k).set k x=jhI l z (k+1):=by
 have hk:k<l.length:=(List.getElem?_eq_some_iff.1 hx).1;have hx':l[k]=x:=by rw [List.getElem?_eq_getElem hk] at hx;exact Option.some.inj hx
 unfold jhI;rw [List.set_append_right _ _ (by rw [List.length_take];exact Nat.min_le_left _ _),List.length_take,Nat.min_eq_left (by omega),Nat.sub_self]
 obtain ⟨m,hm⟩:∃m,l.length-k=m+1:=⟨l.length-k-1,by omega⟩
 rw [hm,List.replicate_succ,List.set_cons_zero,List.take_succ_eq_append_getElem hk,hx',List.append_assoc,show l.length-(k+1)=m by omega]
 rfl
theorem cb {P:Program} {f:FuncId} {args:Array Value} {w:World} {b b':Bool} (h:Calls P f args w fun e w'=>e=.returned (.bool b)∧Below w.heap.size w w') (hb:b=b'):Calls P f args w fun e w'=>e=.returned (.bool b')∧Below w.heap.size w w':=by subst hb;exact h
theorem qo {W w1:World} (hb:Below W.heap.size W w1):(∀b o,b<W.heap.size→w1.cell? ⟨b,o,none⟩=W.cell? ⟨b,o,none⟩)∧(∀b o,b<W.heap.size→w1.frozen? ⟨b,o,none⟩=W.frozen? ⟨b,o,none⟩):=
 ⟨fun b o h=>hb.cell (p:=⟨b,o,none⟩) h,fun b o h=>hb.frozen (p:=⟨b,o,none⟩) h⟩
theorem jd3 {w:World} {own:Bool} {d:D} {v:Value} {S:List Nat} {p:Addr} {u:Value} (h:Rep w own d v S) (hp:∀b∈S,b≠p.block):Rep (w.setCell p u) own d v S:=
 Rep.keep d h fun b hb=>Below.heap_setCell w p u b (hp b hb)
theorem Rep.form {w:World} {own:Bool} {size:Nat} {ty:TypeId} {cs:List D} {v:Value} {S:List Nat} (h:Rep w own (.sl size ty cs) v S):∃A n c,v=.slice A n c:=by
 obtain ⟨vs,T,S',hr,_,_⟩:=h;obtain ⟨_,A,n,c,rfl,_⟩:=hr.ro;exact ⟨A,n,c,rfl⟩
def ke {α:Type} (tot:α→Nat) (l:List α):Nat:=(l.map tot).sum
theorem jaQ {α:Type} (tot:α→Nat) (l m:List α):ke tot (l++m)=ke tot l+ke tot m:=by simp [ke]
theorem kW {α:Type} {tot:α→Nat} {l:List α} {k:Nat} {x:α} (h:l[k]?=some x):ke tot (l.take (k+1))=ke tot (l.take k)+tot x:=by
 rw [List.take_add_one,h,jaQ];simp [ke]
theorem qW {α:Type} (tot:α→Nat) (l:List α) (k:Nat):ke tot (l.take k)≤ke tot l:=by
 conv=>rhs;rw [←List.take_append_drop k l,jaQ]
 exact Nat.le_add_right _ _
theorem jmJ {α:Type} {tot:α→Nat} {l:List α} {k:Nat} {x:α} (h:l[k]?=some x):tot x≤ke tot l:=by
 have h1:=kW (tot:=tot) h;have h2:=qW tot l (k+1);omega
def jah (p:Pl):Nat:=p.edges.length
def kq (r:Rn):Nat:=jah r.plan+r.tasks.length
def kH (l:List En):Nat:=l.length
def vP (l:List (List En)):Nat:=l.length+ke kH l
def qx (l:List Rn):Nat:=l.length+ke kq l
def jt (y:Yd):Nat:=vP y.shelf+qx y.runs
def zn (d:Dd):Nat:=jah d.plan
def zI (l:List Dd):Nat:=l.length+ke zn l
def szf (tot:Nat) (left:Int):Int:=if (tot:Int)≤left then left-tot else -1
theorem kS (tot:Nat) (left:Int):((tot:Int)≤left∧szf tot left=left-tot)∨(left<tot∧szf tot left=-1):=by
 unfold szf;split
 ·exact .inl ⟨by assumption,rfl⟩
 ·exact .inr ⟨by omega,rfl⟩
theorem qe {a b:Int} (h:a=b):Ending.returned (.int .i64 a)=Ending.returned (.int .i64 b):=by rw [h]
theorem jzd {α:Type} {enc:α→List D} {w:World} {ty:TypeId} {xs:List α} {S:List Nat} {g n c k:Nat} (hl:∀x,(enc x).length=1) (h:Rep w true (.sl 1 ty (xs.flatMap enc)) (.slice (some ⟨g,0,none⟩) n c) S) (hk:k<xs.length):
 (∃u,w.cell? ⟨g,k,none⟩=some u)∧w.frozen? ⟨g,k,none⟩=false:=by
 obtain ⟨vs,S1,hown,hrl,rfl⟩:=Rep.own hl (by decide) h
 have hn:n=xs.length:=by
  rcases hown.2 with ⟨e,_⟩|⟨g',cap',cur,e,_⟩
  ·cases e
  ·simp only [Value.slice.injEq] at e;exact e.2.1
 subst hn;have:=jf1 hown k 1 (by omega) 0 (by omega)
 exact ⟨Option.isSome_iff_exists.1 (by simpa using this.1),by simpa using this.2⟩
def jhq (rs:List Rn) (id:Int):Int:=match rs.findIdx? (fun r=>r.id==id) with
 |some k=>k
 |none=>-1
def runAt (y:Yd) (id:Int):Int:=if 8<y.runs.length then -1 else jhq y.runs id
theorem jfd {rs:List Rn} {id:Int} {k:Nat} {x:Rn} (hx:rs[k]?=some x) (h:x.id=id) (hno:∀j,j<k→∀z,rs[j]?=some z→z.id≠id):jhq rs id=k:=by
 have hk:k<rs.length:=(List.getElem?_eq_some_iff.1 hx).1
 have:rs.findIdx? (fun r=>r.id==id)=some k:=by
  rw [List.findIdx?_eq_some_iff_getElem];refine ⟨hk,?_,fun j hj=>?_⟩
  ·rw [List.getElem?_eq_getElem hk] at hx
   simp only [Option.some.injEq] at hx;simp [hx,h]
  ·have:=hno j hj rs[j] (List.getElem?_eq_getElem (by omega))
   simpa using this
 simp [jhq,this]
theorem jhp {rs:List Rn} {id:Int} (hno:∀j,j<rs.length→∀z,rs[j]?=some z→z.id≠id):jhq rs id=-1:=by
 have:rs.findIdx? (fun r=>r.id==id)=none:=by
  rw [List.findIdx?_eq_none_iff];intro x hx;obtain ⟨j,hj,rfl⟩:=List.getElem_of_mem hx;simpa using hno j hj rs[j] (List.getElem?_eq_getElem hj)
 simp [jhq,this]
theorem jka (rs:List Rn) (id:Int):(∃(k:Nat) (x:Rn),rs[k]?=some x∧x.id=id∧(∀j,j<k→∀z,rs[j]?=some z→z.id≠id)∧jhq rs id=k)∨((∀x∈rs,x.id≠id)∧jhq rs id=-1):=by
 cases h:rs.findIdx? (fun r=>r.id==id) with
 |none=>
  right;rw [List.findIdx?_eq_none_iff] at h;have h':∀x∈rs,x.id≠id:=fun x hx=>by simpa using h x hx
  exact ⟨h',jhp fun j hj z hz=>h' z (List.mem_of_getElem? hz)⟩
 |some k=>
  left;rw [List.findIdx?_eq_some_iff_getElem] at h;obtain ⟨hk,h1,h2⟩:=h;have hx:rs[k]?=some rs[k]:=List.getElem?_eq_getElem hk;have h1':rs[k].id=id:=by simpa using h1
  have hno:∀j,j<k→∀z,rs[j]?=some z→z.id≠id:=fun j hj z hz=>by
   have:=h2 j hj;rw [List.getElem?_eq_getElem (by omega)] at hz
   simp only [Option.some.injEq] at hz;subst hz;simpa using this
  exact ⟨k,rs[k],hx,h1',hno,jfd hx h1' hno⟩
def jeq (y:Yd) (id task:Int):Option Tk:=
 if runAt y id<0 then none else match y.runs[(runAt y id).toNat]? with
 |some r=>if 0≤task then r.tasks[task.toNat]? else none
 |none=>none
def kD (y:Yd) (e:En):Bool:=match jeq y e.run e.task with
 |some t=>t.state==2
 |none=>false
def zq (y:Yd) (id task tri:Int):Bool:=match jeq y id task with
 |some t=>t.state==3&&t.tri==tri
 |none=>false
theorem zh (y:Yd) (id task:Int):(runAt y id=-1∧jeq y id task=none)∨
 (∃(k:Nat) (r:Rn),runAt y id=k∧y.runs[k]?=some r∧((¬(0≤task∧task≤(r.tasks.length:Int)-1)∧jeq y id task=none)∨
  (∃(j:Nat) (t:Tk),task=j∧r.tasks[j]?=some t∧jeq y id task=some t))):=by
 have h1:runAt y id=-1∨∃(k:Nat) (r:Rn),runAt y id=k∧y.runs[k]?=some r:=by
  unfold runAt;split
  ·exact .inl rfl
  ·rcases jka y.runs id with ⟨k,x,hx,_,_,he⟩|⟨_,he⟩
   ·exact .inr ⟨k,x,he,hx⟩
   ·exact .inl he
 rcases h1 with h|⟨k,r,h,hr⟩
 ·exact .inl ⟨h,by unfold jeq;rw [if_pos (by omega)]⟩
 ·right
  refine ⟨k,r,h,hr,?_⟩
  have e:jeq y id task=if 0≤task then r.tasks[task.toNat]? else none:=by
   unfold jeq;rw [if_neg (by omega),h,Int.toNat_natCast,hr]
  by_cases h0:0≤task
  ·rw [if_pos h0] at e
   by_cases hl:task.toNat<r.tasks.length
   ·right
    exact ⟨task.toNat,r.tasks[task.toNat],by omega,List.getElem?_eq_getElem hl,by rw [e,List.getElem?_eq_getElem hl]⟩
   ·left
    exact ⟨by omega,by rw [e,List.getElem?_eq_none (by omega)]⟩
  ·left
   rw [if_neg h0] at e;exact ⟨by omega,e⟩
def ja0 (r:Rn):Nat:=if r.state=1 then r.tasks.length else 0
def vx (y:Yd) (l:List En):Nat:=l.countP (fun e=>!kD y e)
def jb1 (y:Yd):List En:=y.shelf.flatten
def qG (y:Yd):Int:=ke ja0 y.runs+vx y (jb1 y)
def jaU (y:Yd) (p:Pl):Bool:=decide (y.runs.length<8)&&(decide (0≤p.tasks∧p.tasks≤12)&&(decide (qG y+p.tasks≤40)&&decide (y.seq≤1000000000-1000-p.tasks)))
theorem jjV (l:List Rn):ke ja0 l≤ke kq l:=by
 induction l with
 |nil=>simp [ke]
 |cons r l ih=>
  have h:ja0 r≤kq r:=by unfold ja0 kq;split<;>omega
  simp only [ke,List.map_cons,List.sum_cons] at*;omega
theorem vF (l:List (List En)):l.flatten.length=ke kH l:=by
 induction l with
 |nil=>simp [ke]
 |cons r l ih=>simp only [List.flatten_cons,List.length_append,ke,List.map_cons,List.sum_cons,kH] at*;omega
theorem jmP (y:Yd) (l:List En):vx y l≤l.length:=List.countP_le_length
theorem jl5 {y:Yd} {l:List En} {k:Nat} {e:En} (h:l[k]?=some e):vx y (l.take (k+1))=vx y (l.take k)+(if kD y e then 0 else 1):=by
 unfold vx;rw [List.take_add_one,h,List.countP_append];cases hf:kD y e<;>simp [hf]
theorem jl4 (y:Yd) (l:List En) (k:Nat):vx y (l.take k)≤vx y l:=by
 unfold vx;exact (List.take_sublist k l).countP_le
theorem jbP {l:List (List En)} {k:Nat} {es:List En} (h:l[k]?=some es):(l.take (k+1)).flatten=(l.take k).flatten++es:=by
 rw [List.take_add_one,h,List.flatten_append];simp
open Go.RowKit Go.Sort Go.BigFrame
theorem jzX (x y:Ed) (a b:Value) (S S':List Nat) (w:World) (own own':Bool) (ha:AggRep w own (jJ x) a S) (hb:AggRep w own' (jJ y) b S'):
 Calls Tryz.prog 278 #[a,b] w fun e w'=>e=.returned (.bool (decide (x=y)))∧Below w.heap.size w w':=by
 obtain ⟨_,rfl,ha⟩:=ha;obtain ⟨_,rfl,hb⟩:=hb;obtain ⟨rfl,rfl⟩:=zE ha;obtain ⟨rfl,rfl⟩:=zE hb;clear ha hb;obtain ⟨xsrc,xdst⟩:=x;obtain ⟨ysrc,ydst⟩:=y
 go_enter Tryz.func278,Tryz.ntmps278
 go_wp2
 all_goals go_ret
 all_goals refine ⟨?_,(by repeat (first|exact Below.refl _ _|assumption|refine Below.alloc ?_ (by simp;try omega) _|refine jD ?_ (by assumption)))⟩
 all_goals simp_all
theorem jw8 (l m:List (Ed)) (a b:Value) (S S':List Nat) (w:World) (own own':Bool) (ha:Rep w own (ju l) a S) (hb:Rep w own' (ju m) b S'):
 Calls Tryz.prog 230 #[a,b] w fun e w'=>e=.returned (.bool (decide (l=m)))∧Below w.heap.size w w':=by
 obtain ⟨A,c,rfl,hc1,hc2,hca⟩:=Rep.open_ (size:=2) (enc:=jJ) (fun _=>rfl) (by decide) ha
 obtain ⟨B,d,rfl,hd1,hd2,hdb⟩:=Rep.open_ (size:=2) (enc:=jJ) (fun _=>rfl) (by decide) hb
 unfold maxLen at hc2 hd2;have hl1:l.length≤9223372036854775807:=by omega
 have hl2:m.length≤9223372036854775807:=by omega
 clear ha hb;by_cases hlen:l.length=m.length
 ·have HL:=Lib.hid hlen
  have hne:((l.length:Int) !=(m.length:Int))=false:=by rw [hlen];simp
  clear hlen
  go_enter Tryz.func230,Tryz.ntmps230
  go_wp2
  go_loopw [5] (fun i wr=>∃k:Nat,k≤l.length∧i=.int .i64 k∧l.take k=m.take k∧Below w.heap.size w wr) (fun i _=>l.length-(intOf i).toNat)
  case atStart=>exact ⟨0,by omega,rfl,rfl,Below.refl _ _⟩
  case round=>
   obtain ⟨k,hk,rfl,heq,hbel⟩:=hrel;have HQ:=Lib.hid heq;clear heq;by_cases hlt:k<l.length
   ·have hlt':k<m.length:=by have:=HL.out;omega
    obtain ⟨x,hx⟩:=je hlt;obtain ⟨y,hy⟩:=je hlt';obtain ⟨b1,o1,vk1,T1,rfl,-,hr1,-,-,hb1,hx1⟩:=hca k x hx;obtain ⟨b2,o2,vk2,T2,rfl,-,hr2,-,-,hb2,hx2⟩:=hdb k y hy;clear hca hdb;obtain ⟨rfl,rfl⟩:=zE hr1;obtain ⟨rfl,rfl⟩:=zE hr2;have HX:=Lib.hid hx;have HY:=Lib.hid hy;clear hx hy;have p0:=cell_regrown ((hbel.cell (p:=⟨b1,o1+k*2,none⟩) hb1).trans (hx1 0 _ rfl:w.cell? ⟨b1,o1+k*2,none⟩=_));have p1:=cell_regrown ((hbel.cell (p:=⟨b1,o1+k*2+1,none⟩) hb1).trans (hx1 1 _ rfl:w.cell? ⟨b1,o1+k*2+1,none⟩=_));have q0:=cell_regrown ((hbel.cell (p:=⟨b2,o2+k*2,none⟩) hb2).trans (hx2 0 _ rfl:w.cell? ⟨b2,o2+k*2,none⟩=_));have q1:=cell_regrown ((hbel.cell (p:=⟨b2,o2+k*2+1,none⟩) hb2).trans (hx2 1 _ rfl:w.cell? ⟨b2,o2+k*2+1,none⟩=_));have hcall:=fun (W:World) (hW:Below w.heap.size w W)=>jzX x y _ _ _ _ W own own' ⟨_,rfl,hr1.below hW (Nat.le_refl _)⟩ ⟨_,rfl,hr2.below hW (Nat.le_refl _)⟩
    clear hx1 hx2;by_cases hxy:x=y
    ·have HXY:=Lib.hid hxy
     clear hxy
     go_wp2
     refine wp_region_quiet_below (by kernel_rfl) (by kernel_rfl) ?_
     repeat (go_big_quiet_step (exact Calls.regrown_of (cb (hcall _ (hbel.trans ((below_regrown wr _ _).mono hbel.size))) (decide_eq_true HXY.out))))
     refine wpQuiet_nil ?_;intro _ hw';obtain ⟨⟨dq,osq⟩,hw''⟩:=hw';subst hw'';have hbel2:=hbel.trans ((below_regrown wr dq osq).mono hbel.size)
     go_wp2
     go_roundw
     case rel=>exact ⟨k+1,by omega,by go_num,jcd HX.out (HXY.out▸HY.out) HQ.out,hbel2⟩
     case measure=>simp [intOf];omega
    ·go_wp2
     refine wp_region_quiet_below (by kernel_rfl) (by kernel_rfl) ?_
     repeat (go_big_quiet_step (exact Calls.regrown_of (cb (hcall _ (hbel.trans ((below_regrown wr _ _).mono hbel.size))) (decide_eq_false hxy))))
     refine wpQuiet_nil ?_;intro _ hw';obtain ⟨⟨dq,osq⟩,hw''⟩:=hw';subst hw'';have hbel2:=hbel.trans ((below_regrown wr dq osq).mono hbel.size)
     go_wp2
     go_ret
     exact ⟨jE (decide_eq_false (jkM HX.out HY.out hxy)).symm,hbel2⟩
   ·clear hca hdb
    go_wp2
    go_ret
    exact ⟨jE (decide_eq_true (jce (k:=k) (by omega) (by have:=HL.out;omega) HQ.out)).symm,hbel⟩
 ·have hne:((l.length:Int) !=(m.length:Int))=true:=bne_iff_ne.2 (by omega)
  clear hca hdb
  go_enter Tryz.func230,Tryz.ntmps230
  go_wp2
  go_ret
  exact ⟨jE (decide_eq_false (fun e=>hlen (by rw [e]))).symm,Below.refl _ _⟩
theorem jss (x y:Pl) (a b:Value) (S S':List Nat) (w:World) (own own':Bool) (ha:AggRep w own (ja x) a S) (hb:AggRep w own' (ja y) b S'):
 Calls Tryz.prog 125 #[a,b] w fun e w'=>e=.returned (.bool (decide (x=y)))∧Below w.heap.size w w':=by
 obtain ⟨_,rfl,ha⟩:=ha;obtain ⟨_,rfl,hb⟩:=hb;obtain ⟨av0,rfl,ah0⟩:=zd ha;obtain ⟨bv0,rfl,bh0⟩:=zd hb;clear ha hb;obtain ⟨xprio,xmost,xwait,xtasks,xedges⟩:=x;obtain ⟨yprio,ymost,ywait,ytasks,yedges⟩:=y
 go_enter Tryz.func125,Tryz.ntmps125
 go_wp2_with (first
  |(go_at_call 230;refine (jw8 xedges yedges _ _ _ _ _ _ _ (ah0.below (by repeat (first|exact Below.refl _ _|assumption|refine Below.alloc ?_ (by simp;try omega) _|refine jD ?_ (by assumption))) (Nat.le_refl _)) (bh0.below (by repeat (first|exact Below.refl _ _|assumption|refine Below.alloc ?_ (by simp;try omega) _|refine jD ?_ (by assumption))) (Nat.le_refl _))).mono ?_;rintro e w1 ⟨rfl,hb1⟩;obtain ⟨hc1,hf1⟩:=qo hb1))
 all_goals go_ret
 all_goals refine ⟨?_,(by repeat (first|exact Below.refl _ _|assumption|refine Below.alloc ?_ (by simp;try omega) _|refine jD ?_ (by assumption)))⟩
 all_goals simp_all
theorem jw7 (x y:En) (a b:Value) (S S':List Nat) (w:World) (own own':Bool) (ha:AggRep w own (jf x) a S) (hb:AggRep w own' (jf y) b S'):
 Calls Tryz.prog 253 #[a,b] w fun e w'=>e=.returned (.bool (decide (x=y)))∧Below w.heap.size w w':=by
 obtain ⟨_,rfl,ha⟩:=ha;obtain ⟨_,rfl,hb⟩:=hb;obtain ⟨rfl,rfl⟩:=qM ha;obtain ⟨rfl,rfl⟩:=qM hb;clear ha hb;obtain ⟨xprio,xseq,xrun,xtask⟩:=x;obtain ⟨yprio,yseq,yrun,ytask⟩:=y
 go_enter Tryz.func253,Tryz.ntmps253
 go_wp2
 all_goals go_ret
 all_goals refine ⟨?_,(by repeat (first|exact Below.refl _ _|assumption|refine Below.alloc ?_ (by simp;try omega) _|refine jD ?_ (by assumption)))⟩
 all_goals simp_all
theorem juf (l m:List (En)) (a b:Value) (S S':List Nat) (w:World) (own own':Bool) (ha:Rep w own (jk l) a S) (hb:Rep w own' (jk m) b S'):
 Calls Tryz.prog 173 #[a,b] w fun e w'=>e=.returned (.bool (decide (l=m)))∧Below w.heap.size w w':=by
 obtain ⟨A,c,rfl,hc1,hc2,hca⟩:=Rep.open_ (size:=4) (enc:=jf) (fun _=>rfl) (by decide) ha
 obtain ⟨B,d,rfl,hd1,hd2,hdb⟩:=Rep.open_ (size:=4) (enc:=jf) (fun _=>rfl) (by decide) hb
 unfold maxLen at hc2 hd2;have hl1:l.length≤9223372036854775807:=by omega
 have hl2:m.length≤9223372036854775807:=by omega
 clear ha hb;by_cases hlen:l.length=m.length
 ·have HL:=Lib.hid hlen
  have hne:((l.length:Int) !=(m.length:Int))=false:=by rw [hlen];simp
  clear hlen
  go_enter Tryz.func173,Tryz.ntmps173
  go_wp2
  go_loopw [5] (fun i wr=>∃k:Nat,k≤l.length∧i=.int .i64 k∧l.take k=m.take k∧Below w.heap.size w wr) (fun i _=>l.length-(intOf i).toNat)
  case atStart=>exact ⟨0,by omega,rfl,rfl,Below.refl _ _⟩
  case round=>
   obtain ⟨k,hk,rfl,heq,hbel⟩:=hrel;have HQ:=Lib.hid heq;clear heq;by_cases hlt:k<l.length
   ·have hlt':k<m.length:=by have:=HL.out;omega
    obtain ⟨x,hx⟩:=je hlt;obtain ⟨y,hy⟩:=je hlt';obtain ⟨b1,o1,vk1,T1,rfl,-,hr1,-,-,hb1,hx1⟩:=hca k x hx;obtain ⟨b2,o2,vk2,T2,rfl,-,hr2,-,-,hb2,hx2⟩:=hdb k y hy;clear hca hdb;obtain ⟨rfl,rfl⟩:=qM hr1;obtain ⟨rfl,rfl⟩:=qM hr2;have HX:=Lib.hid hx;have HY:=Lib.hid hy;clear hx hy;have p0:=cell_regrown ((hbel.cell (p:=⟨b1,o1+k*4,none⟩) hb1).trans (hx1 0 _ rfl:w.cell? ⟨b1,o1+k*4,none⟩=_));have p1:=cell_regrown ((hbel.cell (p:=⟨b1,o1+k*4+1,none⟩) hb1).trans (hx1 1 _ rfl:w.cell? ⟨b1,o1+k*4+1,none⟩=_));have p2:=cell_regrown ((hbel.cell (p:=⟨b1,o1+k*4+2,none⟩) hb1).trans (hx1 2 _ rfl:w.cell? ⟨b1,o1+k*4+2,none⟩=_));have p3:=cell_regrown ((hbel.cell (p:=⟨b1,o1+k*4+3,none⟩) hb1).trans (hx1 3 _ rfl:w.cell? ⟨b1,o1+k*4+3,none⟩=_));have q0:=cell_regrown ((hbel.cell (p:=⟨b2,o2+k*4,none⟩) hb2).trans (hx2 0 _ rfl:w.cell? ⟨b2,o2+k*4,none⟩=_));have q1:=cell_regrown ((hbel.cell (p:=⟨b2,o2+k*4+1,none⟩) hb2).trans (hx2 1 _ rfl:w.cell? ⟨b2,o2+k*4+1,none⟩=_))
    have q2:=cell_regrown ((hbel.cell (p:=⟨b2,o2+k*4+2,none⟩) hb2).trans (hx2 2 _ rfl:w.cell? ⟨b2,o2+k*4+2,none⟩=_));have q3:=cell_regrown ((hbel.cell (p:=⟨b2,o2+k*4+3,none⟩) hb2).trans (hx2 3 _ rfl:w.cell? ⟨b2,o2+k*4+3,none⟩=_));have hcall:=fun (W:World) (hW:Below w.heap.size w W)=>jw7 x y _ _ _ _ W own own' ⟨_,rfl,hr1.below hW (Nat.le_refl _)⟩ ⟨_,rfl,hr2.below hW (Nat.le_refl _)⟩
    clear hx1 hx2;by_cases hxy:x=y
    ·have HXY:=Lib.hid hxy
     clear hxy
     go_wp2
     refine wp_region_quiet_below (by kernel_rfl) (by kernel_rfl) ?_
     repeat (go_big_quiet_step (exact Calls.regrown_of (cb (hcall _ (hbel.trans ((below_regrown wr _ _).mono hbel.size))) (decide_eq_true HXY.out))))
     refine wpQuiet_nil ?_;intro _ hw';obtain ⟨⟨dq,osq⟩,hw''⟩:=hw';subst hw'';have hbel2:=hbel.trans ((below_regrown wr dq osq).mono hbel.size)
     go_wp2
     go_roundw
     case rel=>exact ⟨k+1,by omega,by go_num,jcd HX.out (HXY.out▸HY.out) HQ.out,hbel2⟩
     case measure=>simp [intOf];omega
    ·go_wp2
     refine wp_region_quiet_below (by kernel_rfl) (by kernel_rfl) ?_
     repeat (go_big_quiet_step (exact Calls.regrown_of (cb (hcall _ (hbel.trans ((below_regrown wr _ _).mono hbel.size))) (decide_eq_false hxy))))
     refine wpQuiet_nil ?_;intro _ hw';obtain ⟨⟨dq,osq⟩,hw''⟩:=hw';subst hw'';have hbel2:=hbel.trans ((below_regrown wr dq osq).mono hbel.size)
     go_wp2
     go_ret
     exact ⟨jE (decide_eq_false (jkM HX.out HY.out hxy)).symm,hbel2⟩
   ·clear hca hdb
    go_wp2
    go_ret
    exact ⟨jE (decide_eq_true (jce (k:=k) (by omega) (by have:=HL.out;omega) HQ.out)).symm,hbel⟩
 ·have hne:((l.length:Int) !=(m.length:Int))=true:=bne_iff_ne.2 (by omega)
  clear hca hdb
  go_enter Tryz.func173,Tryz.ntmps173
  go_wp2
  go_ret
  exact ⟨jE (decide_eq_false (fun e=>hlen (by rw [e]))).symm,Below.refl _ _⟩
theorem jrd (l m:List (List En)) (a b:Value) (S S':List Nat) (w:World) (own own':Bool) (ha:Rep w own (kj l) a S) (hb:Rep w own' (kj m) b S'):
 Calls Tryz.prog 95 #[a,b] w fun e w'=>e=.returned (.bool (decide (l=m)))∧Below w.heap.size w w':=by
 obtain ⟨A,c,rfl,hc1,hc2,hca⟩:=Rep.open_ (size:=1) (enc:=fun es=>[jk es]) (fun _=>rfl) (by decide) ha
 obtain ⟨B,d,rfl,hd1,hd2,hdb⟩:=Rep.open_ (size:=1) (enc:=fun es=>[jk es]) (fun _=>rfl) (by decide) hb
 unfold maxLen at hc2 hd2;have hl1:l.length≤9223372036854775807:=by omega
 have hl2:m.length≤9223372036854775807:=by omega
 clear ha hb;by_cases hlen:l.length=m.length
 ·have HL:=Lib.hid hlen
  have hne:((l.length:Int) !=(m.length:Int))=false:=by rw [hlen];simp
  clear hlen
  go_enter Tryz.func95,Tryz.ntmps95
  go_wp2
  go_loopw [5] (fun i wr=>∃k:Nat,k≤l.length∧i=.int .i64 k∧l.take k=m.take k∧Below w.heap.size w wr) (fun i _=>l.length-(intOf i).toNat)
  case atStart=>exact ⟨0,by omega,rfl,rfl,Below.refl _ _⟩
  case round=>
   obtain ⟨k,hk,rfl,heq,hbel⟩:=hrel;have HQ:=Lib.hid heq;clear heq;by_cases hlt:k<l.length
   ·have hlt':k<m.length:=by have:=HL.out;omega
    obtain ⟨x,hx⟩:=je hlt;obtain ⟨y,hy⟩:=je hlt';obtain ⟨b1,o1,vk1,T1,rfl,-,hr1,-,-,hb1,hx1⟩:=hca k x hx;obtain ⟨b2,o2,vk2,T2,rfl,-,hr2,-,-,hb2,hx2⟩:=hdb k y hy;clear hca hdb;obtain ⟨au,_,aS0,aS1,rfl,rfl,ah0,rfl,rfl⟩:=hr1;obtain ⟨bu,_,bS0,bS1,rfl,rfl,bh0,rfl,rfl⟩:=hr2;have HX:=Lib.hid hx;have HY:=Lib.hid hy;clear hx hy;have p0:=cell_regrown ((hbel.cell (p:=⟨b1,o1+k,none⟩) hb1).trans (by simpa using hx1 0 _ rfl:w.cell? ⟨b1,o1+k,none⟩=_))
    have q0:=cell_regrown ((hbel.cell (p:=⟨b2,o2+k,none⟩) hb2).trans (by simpa using hx2 0 _ rfl:w.cell? ⟨b2,o2+k,none⟩=_))
    have hcall:=fun (W:World) (hW:Below w.heap.size w W)=>juf x y _ _ _ _ W own own' (ah0.below hW (Nat.le_refl _)) (bh0.below hW (Nat.le_refl _))
    clear hx1 hx2;by_cases hxy:x=y
    ·have HXY:=Lib.hid hxy
     clear hxy
     go_wp2
     refine wp_region_quiet_below (by kernel_rfl) (by kernel_rfl) ?_
     repeat (go_big_quiet_step (exact Calls.regrown_of (cb (hcall _ (hbel.trans ((below_regrown wr _ _).mono hbel.size))) (decide_eq_true HXY.out))))
     refine wpQuiet_nil ?_;intro _ hw';obtain ⟨⟨dq,osq⟩,hw''⟩:=hw';subst hw'';have hbel2:=hbel.trans ((below_regrown wr dq osq).mono hbel.size)
     go_wp2
     go_roundw
     case rel=>exact ⟨k+1,by omega,by go_num,jcd HX.out (HXY.out▸HY.out) HQ.out,hbel2⟩
     case measure=>simp [intOf];omega
    ·go_wp2
     refine wp_region_quiet_below (by kernel_rfl) (by kernel_rfl) ?_
     repeat (go_big_quiet_step (exact Calls.regrown_of (cb (hcall _ (hbel.trans ((below_regrown wr _ _).mono hbel.size))) (decide_eq_false hxy))))
     refine wpQuiet_nil ?_;intro _ hw';obtain ⟨⟨dq,osq⟩,hw''⟩:=hw';subst hw'';have hbel2:=hbel.trans ((below_regrown wr dq osq).mono hbel.size)
     go_wp2
     go_ret
     exact ⟨jE (decide_eq_false (jkM HX.out HY.out hxy)).symm,hbel2⟩
   ·clear hca hdb
    go_wp2
    go_ret
    exact ⟨jE (decide_eq_true (jce (k:=k) (by omega) (by have:=HL.out;omega) HQ.out)).symm,hbel⟩
 ·have hne:((l.length:Int) !=(m.length:Int))=true:=bne_iff_ne.2 (by omega)
  clear hca hdb
  go_enter Tryz.func95,Tryz.ntmps95
  go_wp2
  go_ret
  exact ⟨jE (decide_eq_false (fun e=>hlen (by rw [e]))).symm,Below.refl _ _⟩
theorem jzV (x y:Tk) (a b:Value) (S S':List Nat) (w:World) (own own':Bool) (ha:AggRep w own (jo x) a S) (hb:AggRep w own' (jo y) b S'):
 Calls Tryz.prog 284 #[a,b] w fun e w'=>e=.returned (.bool (decide (x=y)))∧Below w.heap.size w w':=by
 obtain ⟨_,rfl,ha⟩:=ha;obtain ⟨_,rfl,hb⟩:=hb;obtain ⟨rfl,rfl⟩:=qX ha;obtain ⟨rfl,rfl⟩:=qX hb;clear ha hb;obtain ⟨xstate,xneed,xtri,xtil⟩:=x;obtain ⟨ystate,yneed,ytri,ytil⟩:=y
 go_enter Tryz.func284,Tryz.ntmps284
 go_wp2
 all_goals go_ret
 all_goals refine ⟨?_,(by repeat (first|exact Below.refl _ _|assumption|refine Below.alloc ?_ (by simp;try omega) _|refine jD ?_ (by assumption)))⟩
 all_goals simp_all
theorem jw6 (l m:List (Tk)) (a b:Value) (S S':List Nat) (w:World) (own own':Bool) (ha:Rep w own (jy l) a S) (hb:Rep w own' (jy m) b S'):
 Calls Tryz.prog 254 #[a,b] w fun e w'=>e=.returned (.bool (decide (l=m)))∧Below w.heap.size w w':=by
 obtain ⟨A,c,rfl,hc1,hc2,hca⟩:=Rep.open_ (size:=4) (enc:=jo) (fun _=>rfl) (by decide) ha
 obtain ⟨B,d,rfl,hd1,hd2,hdb⟩:=Rep.open_ (size:=4) (enc:=jo) (fun _=>rfl) (by decide) hb
 unfold maxLen at hc2 hd2;have hl1:l.length≤9223372036854775807:=by omega
 have hl2:m.length≤9223372036854775807:=by omega
 clear ha hb;by_cases hlen:l.length=m.length
 ·have HL:=Lib.hid hlen
  have hne:((l.length:Int) !=(m.length:Int))=false:=by rw [hlen];simp
  clear hlen
  go_enter Tryz.func254,Tryz.ntmps254
  go_wp2
  go_loopw [5] (fun i wr=>∃k:Nat,k≤l.length∧i=.int .i64 k∧l.take k=m.take k∧Below w.heap.size w wr) (fun i _=>l.length-(intOf i).toNat)
  case atStart=>exact ⟨0,by omega,rfl,rfl,Below.refl _ _⟩
  case round=>
   obtain ⟨k,hk,rfl,heq,hbel⟩:=hrel;have HQ:=Lib.hid heq;clear heq;by_cases hlt:k<l.length
   ·have hlt':k<m.length:=by have:=HL.out;omega
    obtain ⟨x,hx⟩:=je hlt;obtain ⟨y,hy⟩:=je hlt';obtain ⟨b1,o1,vk1,T1,rfl,-,hr1,-,-,hb1,hx1⟩:=hca k x hx;obtain ⟨b2,o2,vk2,T2,rfl,-,hr2,-,-,hb2,hx2⟩:=hdb k y hy;clear hca hdb;obtain ⟨rfl,rfl⟩:=qX hr1;obtain ⟨rfl,rfl⟩:=qX hr2;have HX:=Lib.hid hx;have HY:=Lib.hid hy;clear hx hy;have p0:=cell_regrown ((hbel.cell (p:=⟨b1,o1+k*4,none⟩) hb1).trans (hx1 0 _ rfl:w.cell? ⟨b1,o1+k*4,none⟩=_));have p1:=cell_regrown ((hbel.cell (p:=⟨b1,o1+k*4+1,none⟩) hb1).trans (hx1 1 _ rfl:w.cell? ⟨b1,o1+k*4+1,none⟩=_));have p2:=cell_regrown ((hbel.cell (p:=⟨b1,o1+k*4+2,none⟩) hb1).trans (hx1 2 _ rfl:w.cell? ⟨b1,o1+k*4+2,none⟩=_));have p3:=cell_regrown ((hbel.cell (p:=⟨b1,o1+k*4+3,none⟩) hb1).trans (hx1 3 _ rfl:w.cell? ⟨b1,o1+k*4+3,none⟩=_));have q0:=cell_regrown ((hbel.cell (p:=⟨b2,o2+k*4,none⟩) hb2).trans (hx2 0 _ rfl:w.cell? ⟨b2,o2+k*4,none⟩=_));have q1:=cell_regrown ((hbel.cell (p:=⟨b2,o2+k*4+1,none⟩) hb2).trans (hx2 1 _ rfl:w.cell? ⟨b2,o2+k*4+1,none⟩=_))
    have q2:=cell_regrown ((hbel.cell (p:=⟨b2,o2+k*4+2,none⟩) hb2).trans (hx2 2 _ rfl:w.cell? ⟨b2,o2+k*4+2,none⟩=_));have q3:=cell_regrown ((hbel.cell (p:=⟨b2,o2+k*4+3,none⟩) hb2).trans (hx2 3 _ rfl:w.cell? ⟨b2,o2+k*4+3,none⟩=_));have hcall:=fun (W:World) (hW:Below w.heap.size w W)=>jzV x y _ _ _ _ W own own' ⟨_,rfl,hr1.below hW (Nat.le_refl _)⟩ ⟨_,rfl,hr2.below hW (Nat.le_refl _)⟩
    clear hx1 hx2;by_cases hxy:x=y
    ·have HXY:=Lib.hid hxy
     clear hxy
     go_wp2
     refine wp_region_quiet_below (by kernel_rfl) (by kernel_rfl) ?_
     repeat (go_big_quiet_step (exact Calls.regrown_of (cb (hcall _ (hbel.trans ((below_regrown wr _ _).mono hbel.size))) (decide_eq_true HXY.out))))
     refine wpQuiet_nil ?_;intro _ hw';obtain ⟨⟨dq,osq⟩,hw''⟩:=hw';subst hw'';have hbel2:=hbel.trans ((below_regrown wr dq osq).mono hbel.size)
     go_wp2
     go_roundw
     case rel=>exact ⟨k+1,by omega,by go_num,jcd HX.out (HXY.out▸HY.out) HQ.out,hbel2⟩
     case measure=>simp [intOf];omega
    ·go_wp2
     refine wp_region_quiet_below (by kernel_rfl) (by kernel_rfl) ?_
     repeat (go_big_quiet_step (exact Calls.regrown_of (cb (hcall _ (hbel.trans ((below_regrown wr _ _).mono hbel.size))) (decide_eq_false hxy))))
     refine wpQuiet_nil ?_;intro _ hw';obtain ⟨⟨dq,osq⟩,hw''⟩:=hw';subst hw'';have hbel2:=hbel.trans ((below_regrown wr dq osq).mono hbel.size)
     go_wp2
     go_ret
     exact ⟨jE (decide_eq_false (jkM HX.out HY.out hxy)).symm,hbel2⟩
   ·clear hca hdb
    go_wp2
    go_ret
    exact ⟨jE (decide_eq_true (jce (k:=k) (by omega) (by have:=HL.out;omega) HQ.out)).symm,hbel⟩
 ·have hne:((l.length:Int) !=(m.length:Int))=true:=bne_iff_ne.2 (by omega)
  clear hca hdb
  go_enter Tryz.func254,Tryz.ntmps254
  go_wp2
  go_ret
  exact ⟨jE (decide_eq_false (fun e=>hlen (by rw [e]))).symm,Below.refl _ _⟩
theorem jCY (x y:Rn) (a b:Value) (S S':List Nat) (w:World) (own own':Bool) (ha:AggRep w own (jd x) a S) (hb:AggRep w own' (jd y) b S'):
 Calls Tryz.prog 174 #[a,b] w fun e w'=>e=.returned (.bool (decide (x=y)))∧Below w.heap.size w w':=by
 obtain ⟨_,rfl,ha⟩:=ha;obtain ⟨_,rfl,hb⟩:=hb;obtain ⟨av0,av1,aS0,aS1,rfl,ah0,ah1,rfl⟩:=kr ha;obtain ⟨bv0,bv1,bS0,bS1,rfl,bh0,bh1,rfl⟩:=kr hb;clear ha hb;obtain ⟨xid,xplan,xstate,xtasks⟩:=x;obtain ⟨yid,yplan,ystate,ytasks⟩:=y
 go_enter Tryz.func174,Tryz.ntmps174
 go_wp2_with (first
  |(go_at_call 125;refine (jss xplan yplan _ _ _ _ _ _ _ ⟨_,rfl,jhy (ah0.below (by repeat (first|exact Below.refl _ _|assumption|refine Below.alloc ?_ (by simp;try omega) _|refine jD ?_ (by assumption))) (Nat.le_refl _))⟩ ⟨_,rfl,jhy (bh0.below (by repeat (first|exact Below.refl _ _|assumption|refine Below.alloc ?_ (by simp;try omega) _|refine jD ?_ (by assumption))) (Nat.le_refl _))⟩).mono ?_;rintro e w1 ⟨rfl,hb1⟩;obtain ⟨hc1,hf1⟩:=qo hb1)
  |(go_at_call 254;refine (jw6 xtasks ytasks _ _ _ _ _ _ _ (ah1.below (by repeat (first|exact Below.refl _ _|assumption|refine Below.alloc ?_ (by simp;try omega) _|refine jD ?_ (by assumption))) (Nat.le_refl _)) (bh1.below (by repeat (first|exact Below.refl _ _|assumption|refine Below.alloc ?_ (by simp;try omega) _|refine jD ?_ (by assumption))) (Nat.le_refl _))).mono ?_;rintro e w1 ⟨rfl,hb1⟩;obtain ⟨hc1,hf1⟩:=qo hb1))
 all_goals go_ret
 all_goals refine ⟨?_,(by repeat (first|exact Below.refl _ _|assumption|refine Below.alloc ?_ (by simp;try omega) _|refine jD ?_ (by assumption)))⟩
 all_goals simp_all
theorem jzW (l m:List (Rn)) (a b:Value) (S S':List Nat) (w:World) (own own':Bool) (ha:Rep w own (jN l) a S) (hb:Rep w own' (jN m) b S'):
 Calls Tryz.prog 96 #[a,b] w fun e w'=>e=.returned (.bool (decide (l=m)))∧Below w.heap.size w w':=by
 obtain ⟨A,c,rfl,hc1,hc2,hca⟩:=Rep.open_ (size:=8) (enc:=jd) (fun _=>rfl) (by decide) ha
 obtain ⟨B,d,rfl,hd1,hd2,hdb⟩:=Rep.open_ (size:=8) (enc:=jd) (fun _=>rfl) (by decide) hb
 unfold maxLen at hc2 hd2;have hl1:l.length≤9223372036854775807:=by omega
 have hl2:m.length≤9223372036854775807:=by omega
 clear ha hb;by_cases hlen:l.length=m.length
 ·have HL:=Lib.hid hlen
  have hne:((l.length:Int) !=(m.length:Int))=false:=by rw [hlen];simp
  clear hlen
  go_enter Tryz.func96,Tryz.ntmps96
  go_wp2
  go_loopw [5] (fun i wr=>∃k:Nat,k≤l.length∧i=.int .i64 k∧l.take k=m.take k∧Below w.heap.size w wr) (fun i _=>l.length-(intOf i).toNat)
  case atStart=>exact ⟨0,by omega,rfl,rfl,Below.refl _ _⟩
  case round=>
   obtain ⟨k,hk,rfl,heq,hbel⟩:=hrel;have HQ:=Lib.hid heq;clear heq;by_cases hlt:k<l.length
   ·have hlt':k<m.length:=by have:=HL.out;omega
    obtain ⟨x,hx⟩:=je hlt;obtain ⟨y,hy⟩:=je hlt';obtain ⟨b1,o1,vk1,T1,rfl,-,hr1,-,-,hb1,hx1⟩:=hca k x hx;obtain ⟨b2,o2,vk2,T2,rfl,-,hr2,-,-,hb2,hx2⟩:=hdb k y hy;clear hca hdb;obtain ⟨av0,av1,aS0,aS1,rfl,ah0,ah1,rfl⟩:=kr hr1;obtain ⟨bv0,bv1,bS0,bS1,rfl,bh0,bh1,rfl⟩:=kr hr2;have HX:=Lib.hid hx;have HY:=Lib.hid hy;clear hx hy;have p0:=cell_regrown ((hbel.cell (p:=⟨b1,o1+k*8,none⟩) hb1).trans (hx1 0 _ rfl:w.cell? ⟨b1,o1+k*8,none⟩=_));have p1:=cell_regrown ((hbel.cell (p:=⟨b1,o1+k*8+1,none⟩) hb1).trans (hx1 1 _ rfl:w.cell? ⟨b1,o1+k*8+1,none⟩=_));have p2:=cell_regrown ((hbel.cell (p:=⟨b1,o1+k*8+2,none⟩) hb1).trans (hx1 2 _ rfl:w.cell? ⟨b1,o1+k*8+2,none⟩=_));have p3:=cell_regrown ((hbel.cell (p:=⟨b1,o1+k*8+3,none⟩) hb1).trans (hx1 3 _ rfl:w.cell? ⟨b1,o1+k*8+3,none⟩=_));have p4:=cell_regrown ((hbel.cell (p:=⟨b1,o1+k*8+4,none⟩) hb1).trans (hx1 4 _ rfl:w.cell? ⟨b1,o1+k*8+4,none⟩=_));have p5:=cell_regrown ((hbel.cell (p:=⟨b1,o1+k*8+5,none⟩) hb1).trans (hx1 5 _ rfl:w.cell? ⟨b1,o1+k*8+5,none⟩=_))
    have p6:=cell_regrown ((hbel.cell (p:=⟨b1,o1+k*8+6,none⟩) hb1).trans (hx1 6 _ rfl:w.cell? ⟨b1,o1+k*8+6,none⟩=_));have p7:=cell_regrown ((hbel.cell (p:=⟨b1,o1+k*8+7,none⟩) hb1).trans (hx1 7 _ rfl:w.cell? ⟨b1,o1+k*8+7,none⟩=_));have q0:=cell_regrown ((hbel.cell (p:=⟨b2,o2+k*8,none⟩) hb2).trans (hx2 0 _ rfl:w.cell? ⟨b2,o2+k*8,none⟩=_));have q1:=cell_regrown ((hbel.cell (p:=⟨b2,o2+k*8+1,none⟩) hb2).trans (hx2 1 _ rfl:w.cell? ⟨b2,o2+k*8+1,none⟩=_));have q2:=cell_regrown ((hbel.cell (p:=⟨b2,o2+k*8+2,none⟩) hb2).trans (hx2 2 _ rfl:w.cell? ⟨b2,o2+k*8+2,none⟩=_));have q3:=cell_regrown ((hbel.cell (p:=⟨b2,o2+k*8+3,none⟩) hb2).trans (hx2 3 _ rfl:w.cell? ⟨b2,o2+k*8+3,none⟩=_));have q4:=cell_regrown ((hbel.cell (p:=⟨b2,o2+k*8+4,none⟩) hb2).trans (hx2 4 _ rfl:w.cell? ⟨b2,o2+k*8+4,none⟩=_));have q5:=cell_regrown ((hbel.cell (p:=⟨b2,o2+k*8+5,none⟩) hb2).trans (hx2 5 _ rfl:w.cell? ⟨b2,o2+k*8+5,none⟩=_))
    have q6:=cell_regrown ((hbel.cell (p:=⟨b2,o2+k*8+6,none⟩) hb2).trans (hx2 6 _ rfl:w.cell? ⟨b2,o2+k*8+6,none⟩=_));have q7:=cell_regrown ((hbel.cell (p:=⟨b2,o2+k*8+7,none⟩) hb2).trans (hx2 7 _ rfl:w.cell? ⟨b2,o2+k*8+7,none⟩=_));have hcall:=fun (W:World) (hW:Below w.heap.size w W)=>jCY x y _ _ _ _ W own own' ⟨_,rfl,hr1.below hW (Nat.le_refl _)⟩ ⟨_,rfl,hr2.below hW (Nat.le_refl _)⟩
    clear hx1 hx2;by_cases hxy:x=y
    ·have HXY:=Lib.hid hxy
     clear hxy
     go_wp2
     refine wp_region_quiet_below (by kernel_rfl) (by kernel_rfl) ?_
     repeat (go_big_quiet_step (exact Calls.regrown_of (cb (hcall _ (hbel.trans ((below_regrown wr _ _).mono hbel.size))) (decide_eq_true HXY.out))))
     refine wpQuiet_nil ?_;intro _ hw';obtain ⟨⟨dq,osq⟩,hw''⟩:=hw';subst hw'';have hbel2:=hbel.trans ((below_regrown wr dq osq).mono hbel.size)
     go_wp2
     go_roundw
     case rel=>exact ⟨k+1,by omega,by go_num,jcd HX.out (HXY.out▸HY.out) HQ.out,hbel2⟩
     case measure=>simp [intOf];omega
    ·go_wp2
     refine wp_region_quiet_below (by kernel_rfl) (by kernel_rfl) ?_
     repeat (go_big_quiet_step (exact Calls.regrown_of (cb (hcall _ (hbel.trans ((below_regrown wr _ _).mono hbel.size))) (decide_eq_false hxy))))
     refine wpQuiet_nil ?_;intro _ hw';obtain ⟨⟨dq,osq⟩,hw''⟩:=hw';subst hw'';have hbel2:=hbel.trans ((below_regrown wr dq osq).mono hbel.size)
     go_wp2
     go_ret
     exact ⟨jE (decide_eq_false (jkM HX.out HY.out hxy)).symm,hbel2⟩
   ·clear hca hdb
    go_wp2
    go_ret
    exact ⟨jE (decide_eq_true (jce (k:=k) (by omega) (by have:=HL.out;omega) HQ.out)).symm,hbel⟩
 ·have hne:((l.length:Int) !=(m.length:Int))=true:=bne_iff_ne.2 (by omega)
  clear hca hdb
  go_enter Tryz.func96,Tryz.ntmps96
  go_wp2
  go_ret
  exact ⟨jE (decide_eq_false (fun e=>hlen (by rw [e]))).symm,Below.refl _ _⟩
theorem jzU (x y:Yd) (a b:Value) (S S':List Nat) (w:World) (own own':Bool) (ha:AggRep w own (jb x) a S) (hb:AggRep w own' (jb y) b S'):
 Calls Tryz.prog 25 #[a,b] w fun e w'=>e=.returned (.bool (decide (x=y)))∧Below w.heap.size w w':=by
 obtain ⟨_,rfl,ha⟩:=ha;obtain ⟨_,rfl,hb⟩:=hb;obtain ⟨av0,av1,aS0,aS1,rfl,ah0,ah1,rfl⟩:=qv ha;obtain ⟨bv0,bv1,bS0,bS1,rfl,bh0,bh1,rfl⟩:=qv hb;clear ha hb;obtain ⟨xnow,xseq,xshelf,xruns⟩:=x;obtain ⟨ynow,yseq,yshelf,yruns⟩:=y
 go_enter Tryz.func25,Tryz.ntmps25
 go_wp2_with (first
  |(go_at_call 95;refine (jrd xshelf yshelf _ _ _ _ _ _ _ (ah0.below (by repeat (first|exact Below.refl _ _|assumption|refine Below.alloc ?_ (by simp;try omega) _|refine jD ?_ (by assumption))) (Nat.le_refl _)) (bh0.below (by repeat (first|exact Below.refl _ _|assumption|refine Below.alloc ?_ (by simp;try omega) _|refine jD ?_ (by assumption))) (Nat.le_refl _))).mono ?_;rintro e w1 ⟨rfl,hb1⟩;obtain ⟨hc1,hf1⟩:=qo hb1)
  |(go_at_call 96;refine (jzW xruns yruns _ _ _ _ _ _ _ (ah1.below (by repeat (first|exact Below.refl _ _|assumption|refine Below.alloc ?_ (by simp;try omega) _|refine jD ?_ (by assumption))) (Nat.le_refl _)) (bh1.below (by repeat (first|exact Below.refl _ _|assumption|refine Below.alloc ?_ (by simp;try omega) _|refine jD ?_ (by assumption))) (Nat.le_refl _))).mono ?_;rintro e w1 ⟨rfl,hb1⟩;obtain ⟨hc1,hf1⟩:=qo hb1))
 all_goals go_ret
 all_goals refine ⟨?_,(by repeat (first|exact Below.refl _ _|assumption|refine Below.alloc ?_ (by simp;try omega) _|refine jD ?_ (by assumption)))⟩
 all_goals simp_all
theorem jzY (x y:Dd) (a b:Value) (S S':List Nat) (w:World) (own own':Bool) (ha:AggRep w own (jg x) a S) (hb:AggRep w own' (jg y) b S'):
 Calls Tryz.prog 35 #[a,b] w fun e w'=>e=.returned (.bool (decide (x=y)))∧Below w.heap.size w w':=by
 obtain ⟨_,rfl,ha⟩:=ha;obtain ⟨_,rfl,hb⟩:=hb;obtain ⟨av0,rfl,ah0⟩:=kM ha;obtain ⟨bv0,rfl,bh0⟩:=kM hb;clear ha hb;obtain ⟨xkind,xrun,xplan,xtask,xtri,xworker,xdraw⟩:=x;obtain ⟨ykind,yrun,yplan,ytask,ytri,yworker,ydraw⟩:=y
 go_enter Tryz.func35,Tryz.ntmps35
 go_wp2_with (first
  |(go_at_call 125;refine (jss xplan yplan _ _ _ _ _ _ _ ⟨_,rfl,jhy (ah0.below (by repeat (first|exact Below.refl _ _|assumption|refine Below.alloc ?_ (by simp;try omega) _|refine jD ?_ (by assumption))) (Nat.le_refl _))⟩ ⟨_,rfl,jhy (bh0.below (by repeat (first|exact Below.refl _ _|assumption|refine Below.alloc ?_ (by simp;try omega) _|refine jD ?_ (by assumption))) (Nat.le_refl _))⟩).mono ?_;rintro e w1 ⟨rfl,hb1⟩;obtain ⟨hc1,hf1⟩:=qo hb1))
 all_goals go_ret
 all_goals refine ⟨?_,(by repeat (first|exact Below.refl _ _|assumption|refine Below.alloc ?_ (by simp;try omega) _|refine jD ?_ (by assumption)))⟩
 all_goals simp_all
end Go.Proofs.YtmnpailnelmpiaaGreat
