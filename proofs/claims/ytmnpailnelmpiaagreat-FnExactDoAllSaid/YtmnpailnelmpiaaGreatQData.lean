/- Parts. -/
import Derived.Test.YtmnpailnelmpiaaGreatQBase2
import Derived.Test.YtmnpailnelmpiaaGreatRows
set_option linter.unusedSimpArgs false
set_option linter.unusedVariables false
set_option maxHeartbeats 1000000
namespace Go.Proofs.YtmnpailnelmpiaaGreat
open Go.RowKit
structure Ed where
 src:Int
 dst:Int
 deriving DecidableEq,Inhabited
structure Pl where
 prio:Int
 most:Int
 wait:Int
 tasks:Int
 edges:List Ed
 deriving DecidableEq,Inhabited
structure En where
 prio:Int
 seq:Int
 run:Int
 task:Int
 deriving DecidableEq,Inhabited
structure Tk where
 state:Int
 need:Int
 tri:Int
 til:Int
 deriving DecidableEq,Inhabited
structure Rn where
 id:Int
 plan:Pl
 state:Int
 tasks:List Tk
 deriving DecidableEq,Inhabited
structure Yd where
 now:Int
 seq:Int
 shelf:List (List En)
 runs:List Rn
 deriving DecidableEq,Inhabited
structure Dd where
 kind:Int
 run:Int
 plan:Pl
 task:Int
 tri:Int
 worker:Int
 draw:Int
 deriving DecidableEq,Inhabited
structure Nt where
 seq:Int
 deed:Dd
 deriving DecidableEq,Inhabited
abbrev tEdS:TypeId:=69
abbrev tTkS:TypeId:=106
abbrev jzl:TypeId:=35
abbrev tSh:TypeId:=34
abbrev tDdS:TypeId:=84
abbrev tEd:TypeId:=253
abbrev tEn:TypeId:=111
abbrev tTk:TypeId:=172
abbrev tRn:TypeId:=108
abbrev jnB:TypeId:=102
abbrev tDd:TypeId:=73
abbrev tYd:TypeId:=37
abbrev tPl:TypeId:=71
abbrev jfI:TypeId:=3
abbrev iv (n:Int):D:=.val (.int .i64 n)
def jh (l:List Int):D:=.sl 1 jfI (l.flatMap fun n=>[iv n])
def jI (e:Ed):List D:=[iv e.src,iv e.dst]
def jB (l:List Ed):D:=.sl 2 tEd (l.flatMap jI)
def ja (p:Pl):List D:=[iv p.prio,iv p.most,iv p.wait,iv p.tasks,jB p.edges]
def jf (e:En):List D:=[iv e.prio,iv e.seq,iv e.run,iv e.task]
def ji (l:List En):D:=.sl 4 tEn (l.flatMap jf)
def jn (t:Tk):List D:=[iv t.state,iv t.need,iv t.tri,iv t.til]
def jw (l:List Tk):D:=.sl 4 tTk (l.flatMap jn)
def jd (r:Rn):List D:=iv r.id::(ja r.plan++[iv r.state,jw r.tasks])
def jM (l:List Rn):D:=.sl 8 tRn (l.flatMap jd)
def kt (l:List (List En)):D:=.sl 1 jnB (l.flatMap fun es=>[ji es])
def jb (y:Yd):List D:=[iv y.now,iv y.seq,kt y.shelf,jM y.runs]
def jg (d:Dd):List D:=iv d.kind::iv d.run::(ja d.plan++[iv d.task,iv d.tri,iv d.worker,iv d.draw])
def kD (n:Nt):List D:=iv n.seq::jg n.deed
def qb (l:List Dd):D:=.sl 11 tDd (l.flatMap jg)
section
variable {w:World} {own:Bool} {vs:List Value} {v:Value} {S:List Nat}
theorem qu {e:En} (h:RepL w own (jf e) vs S):vs=[.int .i64 e.prio,.int .i64 e.seq,.int .i64 e.run,.int .i64 e.task]∧S=[]:=by
 obtain ⟨_,rfl,g1⟩:=RepL.val_inv h;obtain ⟨_,rfl,g2⟩:=RepL.val_inv g1;obtain ⟨_,rfl,g3⟩:=RepL.val_inv g2;obtain ⟨_,rfl,g4⟩:=RepL.val_inv g3;obtain ⟨rfl,rfl⟩:=g4;exact ⟨rfl,rfl⟩
theorem qF {e:Tk} (h:RepL w own (jn e) vs S):vs=[.int .i64 e.state,.int .i64 e.need,.int .i64 e.tri,.int .i64 e.til]∧S=[]:=by
 obtain ⟨_,rfl,g1⟩:=RepL.val_inv h;obtain ⟨_,rfl,g2⟩:=RepL.val_inv g1;obtain ⟨_,rfl,g3⟩:=RepL.val_inv g2;obtain ⟨_,rfl,g4⟩:=RepL.val_inv g3;obtain ⟨rfl,rfl⟩:=g4;exact ⟨rfl,rfl⟩
theorem za {e:Ed} (h:RepL w own (jI e) vs S):vs=[.int .i64 e.src,.int .i64 e.dst]∧S=[]:=by
 obtain ⟨_,rfl,g1⟩:=RepL.val_inv h;obtain ⟨_,rfl,g2⟩:=RepL.val_inv g1;obtain ⟨rfl,rfl⟩:=g2;exact ⟨rfl,rfl⟩
theorem vF {p:Pl} (h:RepL w own (ja p) vs S):∃ev,vs=[.int .i64 p.prio,.int .i64 p.most,.int .i64 p.wait,.int .i64 p.tasks,ev]∧Rep w own (jB p.edges) ev S:=by
 obtain ⟨_,rfl,g1⟩:=RepL.val_inv h;obtain ⟨_,rfl,g2⟩:=RepL.val_inv g1;obtain ⟨_,rfl,g3⟩:=RepL.val_inv g2;obtain ⟨_,rfl,g4⟩:=RepL.val_inv g3;obtain ⟨ev,_,S1,S2,rfl,rfl,h1,rfl,rfl⟩:=g4;exact ⟨ev,rfl,by simpa using h1⟩
theorem kh {r:Rn} (h:RepL w own (jd r) vs S):∃ev tv S1 S2,vs=[.int .i64 r.id,.int .i64 r.plan.prio,.int .i64 r.plan.most,.int .i64 r.plan.wait,.int .i64 r.plan.tasks,ev,.int .i64 r.state,tv]
 ∧Rep w own (jB r.plan.edges) ev S1∧Rep w own (jw r.tasks) tv S2∧S=S1++S2:=by
 obtain ⟨_,rfl,g1⟩:=RepL.val_inv h;obtain ⟨v1,v2,S1,S2,rfl,rfl,h1,h2⟩:=RepL.append_inv _ g1;obtain ⟨ev,rfl,k1⟩:=vF h1;obtain ⟨_,rfl,g2⟩:=RepL.val_inv h2;obtain ⟨tv,_,S3,S4,rfl,rfl,h3,rfl,rfl⟩:=g2;exact ⟨ev,tv,S1,S3,rfl,k1,h3,by simp⟩
theorem qf {y:Yd} (h:RepL w own (jb y) vs S):∃sv rv S1 S2,vs=[.int .i64 y.now,.int .i64 y.seq,sv,rv]∧Rep w own (kt y.shelf) sv S1∧Rep w own (jM y.runs) rv S2∧S=S1++S2:=by
 obtain ⟨_,rfl,g1⟩:=RepL.val_inv h;obtain ⟨_,rfl,g2⟩:=RepL.val_inv g1;obtain ⟨sv,_,S1,S2,rfl,rfl,h1,k⟩:=g2;obtain ⟨rv,_,S3,S4,rfl,rfl,h3,rfl,rfl⟩:=k;exact ⟨sv,rv,S1,S3,rfl,h1,h3,by simp⟩
theorem kE {d:Dd} (h:RepL w own (jg d) vs S):∃ev,vs=[.int .i64 d.kind,.int .i64 d.run,.int .i64 d.plan.prio,.int .i64 d.plan.most,.int .i64 d.plan.wait,.int .i64 d.plan.tasks,ev,.int .i64 d.task,.int .i64 d.tri,.int .i64 d.worker,.int .i64 d.draw]
 ∧Rep w own (jB d.plan.edges) ev S:=by
 obtain ⟨_,rfl,g1⟩:=RepL.val_inv h;obtain ⟨_,rfl,g2⟩:=RepL.val_inv g1;obtain ⟨v1,v2,S1,S2,rfl,rfl,h1,h2⟩:=RepL.append_inv _ g2;obtain ⟨ev,rfl,k1⟩:=vF h1;obtain ⟨_,rfl,g3⟩:=RepL.val_inv h2;obtain ⟨_,rfl,g4⟩:=RepL.val_inv g3;obtain ⟨_,rfl,g5⟩:=RepL.val_inv g4;obtain ⟨_,rfl,g6⟩:=RepL.val_inv g5;obtain ⟨rfl,rfl⟩:=g6;exact ⟨ev,rfl,by simpa using k1⟩
theorem jjF (w:World) (own:Bool) (e:En):RepL w own (jf e) [.int .i64 e.prio,.int .i64 e.seq,.int .i64 e.run,.int .i64 e.task] []:=RepL.val_ (RepL.val_ (RepL.val_ (RepL.val_ RepL.nil_)))
theorem jpX (w:World) (own:Bool) (e:Tk):RepL w own (jn e) [.int .i64 e.state,.int .i64 e.need,.int .i64 e.tri,.int .i64 e.til] []:=RepL.val_ (RepL.val_ (RepL.val_ (RepL.val_ RepL.nil_)))
theorem jwd (w:World) (own:Bool) (e:Ed):RepL w own (jI e) [.int .i64 e.src,.int .i64 e.dst] []:=RepL.val_ (RepL.val_ RepL.nil_)
theorem jfS {p:Pl} {ev:Value} (h:Rep w own (jB p.edges) ev S):RepL w own (ja p) [.int .i64 p.prio,.int .i64 p.most,.int .i64 p.wait,.int .i64 p.tasks,ev] S:=by
 have:=RepL.val_ (u:=.int .i64 p.prio) (RepL.val_ (u:=.int .i64 p.most) (RepL.val_ (u:=.int .i64 p.wait) (RepL.val_ (u:=.int .i64 p.tasks) (RepL.cons_ h (RepL.nil_ (w:=w) (own:=own))))))
 rwa [List.append_nil] at this
theorem jjj {r:Rn} {ev tv:Value} {S1 S2:List Nat} (h:Rep w own (jB r.plan.edges) ev S1) (h2:Rep w own (jw r.tasks) tv S2):
 RepL w own (jd r) [.int .i64 r.id,.int .i64 r.plan.prio,.int .i64 r.plan.most,.int .i64 r.plan.wait,.int .i64 r.plan.tasks,ev,.int .i64 r.state,tv] (S1++S2):=by
 have:=RepL.val_ (u:=.int .i64 r.id) (RepL.append_ _ (jfS h) (RepL.val_ (u:=.int .i64 r.state) (RepL.cons_ h2 (RepL.nil_ (w:=w) (own:=own)))))
 rwa [List.append_nil] at this
theorem jas {y:Yd} {sv rv:Value} {S1 S2:List Nat} (h:Rep w own (kt y.shelf) sv S1) (h2:Rep w own (jM y.runs) rv S2):
 RepL w own (jb y) [.int .i64 y.now,.int .i64 y.seq,sv,rv] (S1++S2):=by
 have:=RepL.val_ (u:=.int .i64 y.now) (RepL.val_ (u:=.int .i64 y.seq) (RepL.cons_ h (RepL.cons_ h2 (RepL.nil_ (w:=w) (own:=own)))))
 rwa [List.append_nil] at this
theorem jf3 {d:Dd} {ev:Value} (h:Rep w own (jB d.plan.edges) ev S):RepL w own (jg d) [.int .i64 d.kind,.int .i64 d.run,.int .i64 d.plan.prio,.int .i64 d.plan.most,.int .i64 d.plan.wait,.int .i64 d.plan.tasks,ev,.int .i64 d.task,.int .i64 d.tri,.int .i64 d.worker,.int .i64 d.draw] S:=by
 have:=RepL.val_ (u:=.int .i64 d.kind) (RepL.val_ (u:=.int .i64 d.run) (RepL.append_ _ (jfS h) (RepL.val_ (u:=.int .i64 d.task) (RepL.val_ (u:=.int .i64 d.tri) (RepL.val_ (u:=.int .i64 d.worker) (RepL.val_ (u:=.int .i64 d.draw) (RepL.nil_ (w:=w) (own:=own))))))))
 rwa [List.append_nil] at this
theorem jtS (r:Rn):(jd r).length=8:=rfl
theorem jtV (r:Dd):(jg r).length=11:=rfl
end
theorem jbl {α:Type} {l m:List α} {k:Nat} {x:α} (hx:l[k]?=some x) (hy:m[k]?=some x) (h:l.take k=m.take k):l.take (k+1)=m.take (k+1):=by
 rw [List.take_add_one,List.take_add_one,h,hx,hy]
theorem jiL {α:Type} {l m:List α} {k:Nat} {x y:α} (hx:l[k]?=some x) (hy:m[k]?=some y) (h:x≠y):l≠m:=by
 intro e;subst e;rw [hx] at hy;exact h (Option.some.inj hy)
theorem jbm {α:Type} {l m:List α} {k:Nat} (hl:l.length≤k) (hm:m.length≤k) (h:l.take k=m.take k):l=m:=by
 rwa [List.take_of_length_le hl,List.take_of_length_le hm] at h
theorem je {α:Type} {l:List α} {k:Nat} (h:k<l.length):∃x,l[k]?=some x:=⟨l[k],List.getElem?_eq_getElem h⟩
theorem jx {b b':Bool} (h:b=b'):Ending.returned (.bool b)=Ending.returned (.bool b'):=by rw [h]
theorem jf0 {P:Program} {e:TypeId} {size bytes:Nat} {z:Value} (h:(P.info? e).map (fun i=>(i.zero,i.size,i.bytes))=some (some z,size,bytes)):
 ∃i zv,P.info? e=some i∧i.zero=some zv∧zv.cells=z.cells∧i.size=size∧i.bytes=bytes:=by
 cases hq:P.info? e with
 |none=>rw [hq] at h;simp at h
 |some i=>
  rw [hq] at h;simp at h;exact ⟨i,z,rfl,h.1,rfl,h.2.1,h.2.2⟩
def jf1 {α:Type} (l:List α) (z:α) (k:Nat):List α:=l.take k++List.replicate (l.length-k) z
theorem ja0 {α:Type} (l:List α) (z:α):jf1 l z 0=List.replicate l.length z:=by simp [jf1]
theorem ve {α:Type} (l:List α) (z:α) (k:Nat) (h:k≤l.length):(jf1 l z k).length=l.length:=by simp [jf1];omega
theorem jcT {α:Type} (l:List α) (z:α):jf1 l z l.length=l:=by simp [jf1]
theorem jcS {α:Type} {l:List α} {z x:α} {k:Nat} (hx:l[k]?=some x):(jf1 l z k).set k x=jf1 l z (k+1):=by
 have hk:k<l.length:=(List.getElem?_eq_some_iff.1 hx).1;have hx':l[k]=x:=by rw [List.getElem?_eq_getElem hk] at hx;exact Option.some.inj hx
 unfold jf1;rw [List.set_append_right _ _ (by rw [List.length_take];exact Nat.min_le_left _ _),List.length_take,Nat.min_eq_left (by omega),Nat.sub_self]
 obtain ⟨m,hm⟩:∃m,l.length-k=m+1:=⟨l.length-k-1,by omega⟩
 rw [hm,List.replicate_succ,List.set_cons_zero,List.take_succ_eq_append_getElem hk,hx',List.append_assoc,show l.length-(k+1)=m by omega]
 rfl
theorem cb {P:Program} {f:FuncId} {args:Array Value} {w:World} {b b':Bool} (h:Calls P f args w fun e w'=>e=.returned (.bool b)∧Below w.heap.size w w') (hb:b=b'):Calls P f args w fun e w'=>e=.returned (.bool b')∧Below w.heap.size w w':=by subst hb;exact h
theorem qa {W w1:World} (hb:Below W.heap.size W w1):(∀b o,b<W.heap.size→w1.cell? ⟨b,o,none⟩=W.cell? ⟨b,o,none⟩)∧(∀b o,b<W.heap.size→w1.frozen? ⟨b,o,none⟩=W.frozen? ⟨b,o,none⟩):=
 ⟨fun b o h=>hb.cell (p:=⟨b,o,none⟩) h,fun b o h=>hb.frozen (p:=⟨b,o,none⟩) h⟩
theorem jcP {w:World} {own:Bool} {d:D} {v:Value} {S:List Nat} {p:Addr} {u:Value} (h:Rep w own d v S) (hp:∀b∈S,b≠p.block):Rep (w.setCell p u) own d v S:=
 Rep.keep d h fun b hb=>Below.heap_setCell w p u b (hp b hb)
theorem Rep.form {w:World} {own:Bool} {size:Nat} {ty:TypeId} {cs:List D} {v:Value} {S:List Nat} (h:Rep w own (.sl size ty cs) v S):∃A n c,v=.slice A n c:=by
 obtain ⟨vs,T,S',hr,_,_⟩:=h;obtain ⟨_,A,n,c,rfl,_⟩:=hr.ro;exact ⟨A,n,c,rfl⟩
def kj {α:Type} (tot:α→Nat) (l:List α):Nat:=(l.map tot).sum
theorem jac {α:Type} (tot:α→Nat) (l m:List α):kj tot (l++m)=kj tot l+kj tot m:=by simp [kj]
theorem kL {α:Type} {tot:α→Nat} {l:List α} {k:Nat} {x:α} (h:l[k]?=some x):kj tot (l.take (k+1))=kj tot (l.take k)+tot x:=by
 rw [List.take_add_one,h,jac];simp [kj]
theorem qE {α:Type} (tot:α→Nat) (l:List α) (k:Nat):kj tot (l.take k)≤kj tot l:=by
 conv=>rhs;rw [←List.take_append_drop k l,jac]
 exact Nat.le_add_right _ _
theorem jkz {α:Type} {tot:α→Nat} {l:List α} {k:Nat} {x:α} (h:l[k]?=some x):tot x≤kj tot l:=by
 have h1:=kL (tot:=tot) h;have h2:=qE tot l (k+1);omega
def zR (p:Pl):Nat:=p.edges.length
def kn (r:Rn):Nat:=zR r.plan+r.tasks.length
def kO (l:List En):Nat:=l.length
def vP (l:List (List En)):Nat:=l.length+kj kO l
def qA (l:List Rn):Nat:=l.length+kj kn l
def jt (y:Yd):Nat:=vP y.shelf+qA y.runs
def vQ (d:Dd):Nat:=zR d.plan
def ze (l:List Dd):Nat:=l.length+kj vQ l
def szf (tot:Nat) (left:Int):Int:=if (tot:Int)≤left then left-tot else -1
theorem kI (tot:Nat) (left:Int):((tot:Int)≤left∧szf tot left=left-tot)∨(left<tot∧szf tot left=-1):=by
 unfold szf;split
 ·exact .inl ⟨by assumption,rfl⟩
 ·exact .inr ⟨by omega,rfl⟩
theorem kT {a b:Int} (h:a=b):Ending.returned (.int .i64 a)=Ending.returned (.int .i64 b):=by rw [h]
theorem jvy {α:Type} {enc:α→List D} {w:World} {ty:TypeId} {xs:List α} {S:List Nat} {g n c k:Nat} (hl:∀x,(enc x).length=1) (h:Rep w true (.sl 1 ty (xs.flatMap enc)) (.slice (some ⟨g,0,none⟩) n c) S) (hk:k<xs.length):
 (∃u,w.cell? ⟨g,k,none⟩=some u)∧w.frozen? ⟨g,k,none⟩=false:=by
 obtain ⟨vs,S1,hown,hrl,rfl⟩:=Rep.own hl (by decide) h
 have hn:n=xs.length:=by
  rcases hown.2 with ⟨e,_⟩|⟨g',cap',cur,e,_⟩
  ·cases e
  ·simp only [Value.slice.injEq] at e;exact e.2.1
 subst hn;have:=jeA hown k 1 (by omega) 0 (by omega)
 exact ⟨Option.isSome_iff_exists.1 (by simpa using this.1),by simpa using this.2⟩
def jfL (rs:List Rn) (id:Int):Int:=match rs.findIdx? (fun r=>r.id==id) with
 |some k=>k
 |none=>-1
def runAt (y:Yd) (id:Int):Int:=if 8<y.runs.length then -1 else jfL y.runs id
theorem jdS {rs:List Rn} {id:Int} {k:Nat} {x:Rn} (hx:rs[k]?=some x) (h:x.id=id) (hno:∀j,j<k→∀z,rs[j]?=some z→z.id≠id):jfL rs id=k:=by
 have hk:k<rs.length:=(List.getElem?_eq_some_iff.1 hx).1
 have:rs.findIdx? (fun r=>r.id==id)=some k:=by
  rw [List.findIdx?_eq_some_iff_getElem];refine ⟨hk,?_,fun j hj=>?_⟩
  ·rw [List.getElem?_eq_getElem hk] at hx
   simp only [Option.some.injEq] at hx;simp [hx,h]
  ·have:=hno j hj rs[j] (List.getElem?_eq_getElem (by omega))
   simpa using this
 simp [jfL,this]
theorem jfK {rs:List Rn} {id:Int} (hno:∀j,j<rs.length→∀z,rs[j]?=some z→z.id≠id):jfL rs id=-1:=by
 have:rs.findIdx? (fun r=>r.id==id)=none:=by
  rw [List.findIdx?_eq_none_iff];intro x hx;obtain ⟨j,hj,rfl⟩:=List.getElem_of_mem hx;simpa using hno j hj rs[j] (List.getElem?_eq_getElem hj)
 simp [jfL,this]
theorem jij (rs:List Rn) (id:Int):(∃(k:Nat) (x:Rn),rs[k]?=some x∧x.id=id∧(∀j,j<k→∀z,rs[j]?=some z→z.id≠id)∧jfL rs id=k)∨((∀x∈rs,x.id≠id)∧jfL rs id=-1):=by
 cases h:rs.findIdx? (fun r=>r.id==id) with
 |none=>
  right;rw [List.findIdx?_eq_none_iff] at h;have h':∀x∈rs,x.id≠id:=fun x hx=>by simpa using h x hx
  exact ⟨h',jfK fun j hj z hz=>h' z (List.mem_of_getElem? hz)⟩
 |some k=>
  left;rw [List.findIdx?_eq_some_iff_getElem] at h;obtain ⟨hk,h1,h2⟩:=h;have hx:rs[k]?=some rs[k]:=List.getElem?_eq_getElem hk;have h1':rs[k].id=id:=by simpa using h1
  have hno:∀j,j<k→∀z,rs[j]?=some z→z.id≠id:=fun j hj z hz=>by
   have:=h2 j hj;rw [List.getElem?_eq_getElem (by omega)] at hz
   simp only [Option.some.injEq] at hz;subst hz;simpa using this
  exact ⟨k,rs[k],hx,h1',hno,jdS hx h1' hno⟩
def jda (y:Yd) (id task:Int):Option Tk:=
 if runAt y id<0 then none else match y.runs[(runAt y id).toNat]? with
 |some r=>if 0≤task then r.tasks[task.toNat]? else none
 |none=>none
def kr (y:Yd) (e:En):Bool:=match jda y e.run e.task with
 |some t=>t.state==2
 |none=>false
def vS (y:Yd) (id task tri:Int):Bool:=match jda y id task with
 |some t=>t.state==3&&t.tri==tri
 |none=>false
theorem vI (y:Yd) (id task:Int):(runAt y id=-1∧jda y id task=none)∨
 (∃(k:Nat) (r:Rn),runAt y id=k∧y.runs[k]?=some r∧((¬(0≤task∧task≤(r.tasks.length:Int)-1)∧jda y id task=none)∨
  (∃(j:Nat) (t:Tk),task=j∧r.tasks[j]?=some t∧jda y id task=some t))):=by
 have h1:runAt y id=-1∨∃(k:Nat) (r:Rn),runAt y id=k∧y.runs[k]?=some r:=by
  unfold runAt;split
  ·exact .inl rfl
  ·rcases jij y.runs id with ⟨k,x,hx,_,_,he⟩|⟨_,he⟩
   ·exact .inr ⟨k,x,he,hx⟩
   ·exact .inl he
 rcases h1 with h|⟨k,r,h,hr⟩
 ·exact .inl ⟨h,by unfold jda;rw [if_pos (by omega)]⟩
 ·right
  refine ⟨k,r,h,hr,?_⟩
  have e:jda y id task=if 0≤task then r.tasks[task.toNat]? else none:=by
   unfold jda;rw [if_neg (by omega),h,Int.toNat_natCast,hr]
  by_cases h0:0≤task
  ·rw [if_pos h0] at e
   by_cases hl:task.toNat<r.tasks.length
   ·right
    exact ⟨task.toNat,r.tasks[task.toNat],by omega,List.getElem?_eq_getElem hl,by rw [e,List.getElem?_eq_getElem hl]⟩
   ·left
    exact ⟨by omega,by rw [e,List.getElem?_eq_none (by omega)]⟩
  ·left
   rw [if_neg h0] at e;exact ⟨by omega,e⟩
def jak (r:Rn):Nat:=if r.state=1 then r.tasks.length else 0
def qR (y:Yd) (l:List En):Nat:=l.countP (fun e=>!kr y e)
def jba (y:Yd):List En:=y.shelf.flatten
def qq (y:Yd):Int:=kj jak y.runs+qR y (jba y)
def jae (y:Yd) (p:Pl):Bool:=decide (y.runs.length<8)&&(decide (0≤p.tasks∧p.tasks≤12)&&(decide (qq y+p.tasks≤40)&&decide (y.seq≤1000000000-1000-p.tasks)))
theorem jh6 (l:List Rn):kj jak l≤kj kn l:=by
 induction l with
 |nil=>simp [kj]
 |cons r l ih=>
  have h:jak r≤kn r:=by unfold jak kn;split<;>omega
  simp only [kj,List.map_cons,List.sum_cons] at*;omega
theorem qX (l:List (List En)):l.flatten.length=kj kO l:=by
 induction l with
 |nil=>simp [kj]
 |cons r l ih=>simp only [List.flatten_cons,List.length_append,kj,List.map_cons,List.sum_cons,kO] at*;omega
theorem jkG (y:Yd) (l:List En):qR y l≤l.length:=List.countP_le_length
theorem jjY {y:Yd} {l:List En} {k:Nat} {e:En} (h:l[k]?=some e):qR y (l.take (k+1))=qR y (l.take k)+(if kr y e then 0 else 1):=by
 unfold qR;rw [List.take_add_one,h,List.countP_append];cases hf:kr y e<;>simp [hf]
theorem jjX (y:Yd) (l:List En) (k:Nat):qR y (l.take k)≤qR y l:=by
 unfold qR;exact (List.take_sublist k l).countP_le
theorem ja1 {l:List (List En)} {k:Nat} {es:List En} (h:l[k]?=some es):(l.take (k+1)).flatten=(l.take k).flatten++es:=by
 rw [List.take_add_one,h,List.flatten_append];simp
open Go.RowKit
theorem iEd:(Tryz.prog.info? tEd).map (fun i=>(i.zero,i.size,i.bytes))=some (some (.agg #[.int .i64 0,.int .i64 0]),2,16):=by kernel_rfl
theorem slEd:SlT Tryz.prog tEdS tEd 2 16 [.int .i64 0,.int .i64 0]:=⟨by kernel_rfl,jf0 iEd,rfl,by decide⟩
theorem szEd:(Tryz.prog.info? tEd).map (·.size)=some 2:=by kernel_rfl
theorem iEn:(Tryz.prog.info? tEn).map (fun i=>(i.zero,i.size,i.bytes))=some (some (.agg #[.int .i64 0,.int .i64 0,.int .i64 0,.int .i64 0]),4,32):=by kernel_rfl
theorem slEn:SlT Tryz.prog jnB tEn 4 32 [.int .i64 0,.int .i64 0,.int .i64 0,.int .i64 0]:=⟨by kernel_rfl,jf0 iEn,rfl,by decide⟩
theorem jzm:(Tryz.prog.info? tEn).map (·.size)=some 4:=by kernel_rfl
theorem iTk:(Tryz.prog.info? tTk).map (fun i=>(i.zero,i.size,i.bytes))=some (some (.agg #[.int .i64 0,.int .i64 0,.int .i64 0,.int .i64 0]),4,32):=by kernel_rfl
theorem slTk:SlT Tryz.prog tTkS tTk 4 32 [.int .i64 0,.int .i64 0,.int .i64 0,.int .i64 0]:=⟨by kernel_rfl,jf0 iTk,rfl,by decide⟩
theorem szTk:(Tryz.prog.info? tTk).map (·.size)=some 4:=by kernel_rfl
theorem iEnS:(Tryz.prog.info? jnB).map (fun i=>(i.zero,i.size,i.bytes))=some (some (.slice none 0 0),1,24):=by kernel_rfl
theorem slEnS:SlT Tryz.prog tSh jnB 1 24 [.slice none 0 0]:=⟨by kernel_rfl,jf0 iEnS,rfl,by decide⟩
theorem iRn:(Tryz.prog.info? tRn).map (fun i=>(i.zero,i.size,i.bytes))=some (some (.agg #[.int .i64 0,.int .i64 0,.int .i64 0,.int .i64 0,.int .i64 0,.slice none 0 0,.int .i64 0,.slice none 0 0]),8,96):=by kernel_rfl
theorem slRn:SlT Tryz.prog jzl tRn 8 96 [.int .i64 0,.int .i64 0,.int .i64 0,.int .i64 0,.int .i64 0,.slice none 0 0,.int .i64 0,.slice none 0 0]:=⟨by kernel_rfl,jf0 iRn,rfl,by decide⟩
theorem szRn:(Tryz.prog.info? tRn).map (·.size)=some 8:=by kernel_rfl
theorem iDd:(Tryz.prog.info? tDd).map (fun i=>(i.zero,i.size,i.bytes))=some (some (.agg #[.int .i64 0,.int .i64 0,.int .i64 0,.int .i64 0,.int .i64 0,.int .i64 0,.slice none 0 0,.int .i64 0,.int .i64 0,.int .i64 0,.int .i64 0]),11,104):=by kernel_rfl
theorem slDd:SlT Tryz.prog tDdS tDd 11 104 [.int .i64 0,.int .i64 0,.int .i64 0,.int .i64 0,.int .i64 0,.int .i64 0,.slice none 0 0,.int .i64 0,.int .i64 0,.int .i64 0,.int .i64 0]:=⟨by kernel_rfl,jf0 iDd,rfl,by decide⟩
theorem szDd:(Tryz.prog.info? tDd).map (·.size)=some 11:=by kernel_rfl
theorem jtT:∀(y:Ed),∀d∈jI y,d.one:=by intro y d hd;simp [jI] at hd;rcases hd with rfl|rfl<;>trivial
theorem jm3:∀(y:En),∀d∈jf y,d.one:=by intro y d hd;simp [jf] at hd;rcases hd with rfl|rfl|rfl|rfl<;>trivial
theorem jtQ:∀(y:Tk),∀d∈jn y,d.one:=by intro y d hd;simp [jn] at hd;rcases hd with rfl|rfl|rfl|rfl<;>trivial
theorem jtR:∀(y:Rn),∀d∈jd y,d.one:=by intro y d hd;simp [jd,ja,jB,jw] at hd;rcases hd with rfl|rfl|rfl|rfl|rfl|rfl|rfl|rfl<;>trivial
theorem jtU:∀(y:Dd),∀d∈jg y,d.one:=by intro y d hd;simp [jg,ja,jB] at hd;rcases hd with rfl|rfl|rfl|rfl|rfl|rfl|rfl|rfl|rfl|rfl|rfl<;>trivial
theorem zRn (w:World):RepL w true (jd ⟨0,⟨0,0,0,0,[]⟩,0,[]⟩) [.int .i64 0,.int .i64 0,.int .i64 0,.int .i64 0,.int .i64 0,.slice none 0 0,.int .i64 0,.slice none 0 0] []:=jjj (r:=⟨0,⟨0,0,0,0,[]⟩,0,[]⟩) (Rep.nil_ w 2 tEd) (Rep.nil_ w 4 tTk)
theorem zDd (w:World):RepL w true (jg ⟨0,0,⟨0,0,0,0,[]⟩,0,0,0,0⟩) [.int .i64 0,.int .i64 0,.int .i64 0,.int .i64 0,.int .i64 0,.int .i64 0,.slice none 0 0,.int .i64 0,.int .i64 0,.int .i64 0,.int .i64 0] []:=jf3 (d:=⟨0,0,⟨0,0,0,0,[]⟩,0,0,0,0⟩) (Rep.nil_ w 2 tEd)
theorem zEn (w:World):RepL w true (jf ⟨0,0,0,0⟩) [.int .i64 0,.int .i64 0,.int .i64 0,.int .i64 0] []:=jjF w true ⟨0,0,0,0⟩
theorem zTk (w:World):RepL w true (jn ⟨0,0,0,0⟩) [.int .i64 0,.int .i64 0,.int .i64 0,.int .i64 0] []:=jpX w true ⟨0,0,0,0⟩
theorem zEd (w:World):RepL w true (jI ⟨0,0⟩) [.int .i64 0,.int .i64 0] []:=jwd w true ⟨0,0⟩
theorem zEnS (w:World):RepL w true [ji []] [.slice none 0 0] []:=RepL.cons_ (Rep.nil_ w 4 tEn) RepL.nil_
open Go.RowKit Go.Sort Go.BigFrame
theorem jaA (y:Yd) (id:Int) (a:Value) (S:List Nat) (w:World) (own:Bool) (ha:AggRep w own (jb y) a S):
 Calls Tryz.prog 152 #[a,.int .i64 id] w fun e w'=>e=.returned (.int .i64 (runAt y id))∧Below w.heap.size w w':=by
 obtain ⟨_,rfl,ha⟩:=ha;obtain ⟨sv,rv,S1,S2,rfl,ah0,ah1,rfl⟩:=qf ha;clear ha ah0;obtain ⟨A,c,rfl,hc1,hc2,hca⟩:=Rep.open_ (size:=8) (enc:=jd) (fun _=>rfl) (by decide) ah1
 unfold maxLen at hc2;have hl1:y.runs.length≤9223372036854775807:=by omega
 by_cases h8:8<y.runs.length
 ·clear hca
  have hr:runAt y id=-1:=by simp [runAt,h8]
  rw [hr];clear hr
  go_enter Tryz.func152,Tryz.ntmps152
  go_wp2
  go_loop [5] (fun i=>i=.int .i64 0) (fun _=>0)
  case atStart=>rfl
  case round=>
   subst hrel
   go_wp2
   all_goals go_ret
   all_goals exact ⟨rfl,(Below.refl _ _).alloc (by simp) _⟩
 ·have hr:runAt y id=jfL y.runs id:=by simp [runAt,h8]
  rw [hr];clear hr
  go_enter Tryz.func152,Tryz.ntmps152
  go_wp2
  go_loop [5] (fun i=>∃k:Nat,k≤y.runs.length∧i=.int .i64 k∧∀j,j<k→∀z,y.runs[j]?=some z→z.id≠id) (fun i=>y.runs.length-(intOf i).toNat)
  case atStart=>exact ⟨0,by omega,rfl,by simp⟩
  case round=>
   obtain ⟨k,hk,rfl,hno⟩:=hrel;have HN:=Lib.hid hno;clear hno;by_cases hlt:k<y.runs.length
   ·obtain ⟨x,hx⟩:=je hlt
    obtain ⟨b1,o1,vk1,T1,rfl,-,hr1,-,-,hb1,hx1⟩:=hca k x hx;clear hca;obtain ⟨v0,v1,U0,U1,rfl,-,-,-⟩:=kh hr1;have HX:=Lib.hid hx;clear hx;have p0:w.cell? ⟨b1,o1+k*8,none⟩=some (.int .i64 x.id):=hx1 0 _ rfl;clear hx1 hr1;by_cases he:x.id=id
    ·have hb:(x.id==id)=true:=by simpa using he
     have HE:=Lib.hid he;clear he
     go_wp2
     go_ret
     exact ⟨kT (jdS HX.out HE.out HN.out).symm,(Below.refl _ _).alloc (by simp) _⟩
    ·have hb:(x.id==id)=false:=by simpa using he
     have HE:=Lib.hid he;clear he
     go_wp2
     go_round
     case rel=>
      refine ⟨k+1,by omega,by go_num,fun j hj z hz=>?_⟩
      by_cases hjk:j=k
      ·subst hjk
       have:=HX.out;rw [hz] at this;cases this;exact HE.out
      ·exact HN.out j (by omega) z hz
     case measure=>simp [intOf];omega
   ·obtain rfl:k=y.runs.length:=by omega
    clear hca
    go_wp2
    go_ret
    exact ⟨kT (jfK HN.out).symm,(Below.refl _ _).alloc (by simp) _⟩
theorem jmS (x:Rn) (id:Int) (a:Value) (S:List Nat) (g:Nat) (w:World) (own:Bool) (ha:AggRep w own (jd x) a S) (hg:w.cell? ⟨g,0,none⟩=some (.int .i64 id)):
 Calls Tryz.prog 135 #[a,.pointer (some ⟨g,0,none⟩)] w fun e w'=>e=.returned (.bool (x.id==id))∧Below w.heap.size w w':=by
 obtain ⟨_,rfl,ha⟩:=ha;obtain ⟨v0,v1,U0,U1,rfl,-,-,-⟩:=kh ha;clear ha;have hlt:=World.block_lt_of_cell? w _ hg
 go_enter Tryz.func135,Tryz.ntmps135
 go_wp2
 go_ret
 exact ⟨rfl,(Below.refl _ _).alloc (by simp) _⟩
theorem jok (rs:List Rn) (id:Int) (a:Value) (S:List Nat) (g:Nat) (w:World) (own:Bool) (ha:Rep w own (jM rs) a S) (hg:w.cell? ⟨g,0,none⟩=some (.int .i64 id)):
 Calls Tryz.prog 134 #[a,.func (.func 135) #[] #[.pointer (some ⟨g,0,none⟩)]] w fun e w'=>e=.returned (.int .i64 (jfL rs id))∧Below w.heap.size w w':=by
 obtain ⟨A,c,rfl,hc1,hc2,hca⟩:=Rep.open_ (size:=8) (enc:=jd) (fun _=>rfl) (by decide) ha
 unfold maxLen at hc2;have hl1:rs.length≤9223372036854775807:=by omega
 have hglt:=World.block_lt_of_cell? w _ hg;clear ha
 go_enter Tryz.func134,Tryz.ntmps134
 go_wp2
 go_loopw [5,8] (fun _ i wr=>∃k:Nat,k≤rs.length∧i=.int .i64 k∧(∀j,j<k→∀z,rs[j]?=some z→z.id≠id)∧Below w.heap.size w wr) (fun _ i _=>rs.length-(intOf i).toNat)
 case atStart=>exact ⟨0,by omega,rfl,by simp,Below.refl _ _⟩
 case round=>
  obtain ⟨k,hk,rfl,hno,hbel⟩:=hrel;have HN:=Lib.hid hno;clear hno;have hgr:wr.cell? ⟨g,0,none⟩=some (.int .i64 id):=(hbel.cell (p:=⟨g,0,none⟩) hglt).trans hg;by_cases hlt:k<rs.length
  ·obtain ⟨x,hx⟩:=je hlt
   obtain ⟨b1,o1,vk1,T1,rfl,-,hr1,-,-,hb1,hx1⟩:=hca k x hx;clear hca;obtain ⟨v0,v1,U0,U1,rfl,-,-,-⟩:=kh hr1;have HX:=Lib.hid hx;clear hx;have p0:=(hbel.cell (p:=⟨b1,o1+k*8,none⟩) hb1).trans (hx1 0 _ rfl:w.cell? ⟨b1,o1+k*8,none⟩=_);have p1:=(hbel.cell (p:=⟨b1,o1+k*8+1,none⟩) hb1).trans (hx1 1 _ rfl);have p2:=(hbel.cell (p:=⟨b1,o1+k*8+2,none⟩) hb1).trans (hx1 2 _ rfl);have p3:=(hbel.cell (p:=⟨b1,o1+k*8+3,none⟩) hb1).trans (hx1 3 _ rfl);have p4:=(hbel.cell (p:=⟨b1,o1+k*8+4,none⟩) hb1).trans (hx1 4 _ rfl);have p5:=(hbel.cell (p:=⟨b1,o1+k*8+5,none⟩) hb1).trans (hx1 5 _ rfl);have p6:=(hbel.cell (p:=⟨b1,o1+k*8+6,none⟩) hb1).trans (hx1 6 _ rfl);have p7:=(hbel.cell (p:=⟨b1,o1+k*8+7,none⟩) hb1).trans (hx1 7 _ rfl);clear hx1;by_cases he:x.id=id
   ·have hb:(x.id==id)=true:=by simpa using he
    have HE:=Lib.hid he;clear he
    go_wp2_with (go_at_call 135;refine (jmS x id _ _ _ _ own ⟨_,rfl,hr1.below hbel (Nat.le_refl _)⟩ hgr).mono ?_;rintro e w2 ⟨rfl,hb2⟩)
    go_ret
    exact ⟨kT (jdS HX.out HE.out HN.out).symm,jy hbel hb2⟩
   ·have hb:(x.id==id)=false:=by simpa using he
    have HE:=Lib.hid he;clear he
    go_wp2_with (go_at_call 135;refine (jmS x id _ _ _ _ own ⟨_,rfl,hr1.below hbel (Nat.le_refl _)⟩ hgr).mono ?_;rintro e w2 ⟨rfl,hb2⟩)
    go_roundw
    case rel=>
     refine ⟨k+1,by omega,by go_num,fun j hj z hz=>?_,jy hbel hb2⟩
     by_cases hjk:j=k
     ·subst hjk
      have:=HX.out;rw [hz] at this;cases this;exact HE.out
     ·exact HN.out j (by omega) z hz
    case measure=>simp [intOf];omega
  ·obtain rfl:k=rs.length:=by omega
   clear hca
   go_wp2
   go_ret
   exact ⟨kT (jfK HN.out).symm,hbel⟩
theorem jaE (y:Yd) (id:Int) (a:Value) (S:List Nat) (w:World) (own:Bool) (ha:AggRep w own (jb y) a S):
 Calls Tryz.prog 56 #[a,.int .i64 id] w fun e w'=>e=.returned (.int .i64 (runAt y id))∧Below w.heap.size w w':=by
 obtain ⟨_,rfl,ha⟩:=ha;obtain ⟨sv,rv,S1,S2,rfl,ah0,ah1,rfl⟩:=qf ha;clear ha ah0;obtain ⟨A,c,rfl,hc1,hc2,hca⟩:=Rep.open_ (size:=8) (enc:=jd) (fun _=>rfl) (by decide) ah1
 unfold maxLen at hc2;have hl1:y.runs.length≤9223372036854775807:=by omega
 clear hca;by_cases h8:8<y.runs.length
 ·have hr:runAt y id=-1:=by simp [runAt,h8]
  rw [hr];clear hr
  go_enter Tryz.func56,Tryz.ntmps56
  go_wp2
  go_ret
  exact ⟨rfl,((Below.refl _ _).alloc (by simp) _).alloc (by simp) _⟩
 ·have hr:runAt y id=jfL y.runs id:=by simp [runAt,h8]
  rw [hr];clear hr
  go_enter Tryz.func56,Tryz.ntmps56
  go_wp2_with (go_at_call 134;refine (jok y.runs id _ _ _ _ own (ah1.below (((Below.refl _ _).alloc (by simp) _).alloc (by simp) _) (Nat.le_refl _)) (by simp [go_sem])).mono ?_;rintro e w2 ⟨rfl,hb2⟩)
  go_ret
  exact ⟨rfl,jy (((Below.refl _ _).alloc (by simp) _).alloc (by simp) _) hb2⟩
open Go.RowKit Go.Sort Go.BigFrame
theorem jr1 (l:List Ed) (a:Value) (S:List Nat) (w:World) (own:Bool) (left:Int) (ha:Rep w own (jB l) a S) (h0:0≤left) (h1:left≤1048576):
 Calls Tryz.prog 182 #[a,.int .i64 left] w fun e w'=>e=.returned (.int .i64 (szf l.length left))∧Below w.heap.size w w':=by
 obtain ⟨A,c,rfl,hc1,hc2,hca⟩:=Rep.open_ (size:=2) (enc:=jI) (fun _=>rfl) (by decide) ha
 clear ha hca;unfold maxLen at hc2;have hl1:l.length≤9223372036854775807:=by omega
 have hs:=kI l.length left
 go_enter Tryz.func182,Tryz.ntmps182
 go_wp2
 all_goals go_ret
 all_goals exact ⟨kT (by omega),Below.refl _ _⟩
theorem joP (x:Pl) (a:Value) (S:List Nat) (w:World) (own:Bool) (left:Int) (ha:AggRep w own (ja x) a S) (h0:0≤left) (h1:left≤1048576):
 Calls Tryz.prog 103 #[a,.int .i64 left] w fun e w'=>e=.returned (.int .i64 (szf (zR x) left))∧Below w.heap.size w w':=by
 obtain ⟨_,rfl,ha⟩:=ha;obtain ⟨av0,rfl,ah0⟩:=vF ha;clear ha;have hs0:=kI (x.edges.length) (left);have hs:=kI (zR x) left;have ht:zR x=x.edges.length:=rfl;rw [ht] at hs;have HT:=Lib.hid ht;clear ht
 go_enter Tryz.func103,Tryz.ntmps103
 go_wp2_with (first
  |(go_at_call 182;refine (jr1 x.edges _ _ _ _ _ (ah0.below (by repeat (first|(with_reducible exact Below.refl _ _)|(with_reducible assumption)|((with_reducible refine Below.alloc ?_ ?_ _);rotate_left;focus (simp;try omega))|((with_reducible refine Below.setCell ?_ ?_ _);rotate_left;focus (simp;try omega))|(with_reducible refine jy ?_ (by assumption)))) (Nat.le_refl _)) (by omega) (by omega)).mono ?_;rintro e w1 ⟨rfl,hb1⟩;obtain ⟨hc1,hf1⟩:=qa hb1))
 all_goals go_ret
 all_goals exact ⟨kT (HT.out▸(by omega)),by repeat (first|(with_reducible exact Below.refl _ _)|(with_reducible assumption)|((with_reducible refine Below.alloc ?_ ?_ _);rotate_left;focus (simp;try omega))|((with_reducible refine Below.setCell ?_ ?_ _);rotate_left;focus (simp;try omega))|(with_reducible refine jy ?_ (by assumption)))⟩
theorem jpZ (l:List En) (a:Value) (S:List Nat) (w:World) (own:Bool) (left:Int) (ha:Rep w own (ji l) a S) (h0:0≤left) (h1:left≤1048576):
 Calls Tryz.prog 180 #[a,.int .i64 left] w fun e w'=>e=.returned (.int .i64 (szf l.length left))∧Below w.heap.size w w':=by
 obtain ⟨A,c,rfl,hc1,hc2,hca⟩:=Rep.open_ (size:=4) (enc:=jf) (fun _=>rfl) (by decide) ha
 clear ha hca;unfold maxLen at hc2;have hl1:l.length≤9223372036854775807:=by omega
 have hs:=kI l.length left
 go_enter Tryz.func180,Tryz.ntmps180
 go_wp2
 all_goals go_ret
 all_goals exact ⟨kT (by omega),Below.refl _ _⟩
theorem jnD (l:List (List En)) (a:Value) (S:List Nat) (w:World) (own:Bool) (left:Int) (ha:Rep w own (kt l) a S) (h0:0≤left) (h1:left≤1048576):
 Calls Tryz.prog 101 #[a,.int .i64 left] w fun e w'=>e=.returned (.int .i64 (szf (vP l) left))∧Below w.heap.size w w':=by
 obtain ⟨A,c,rfl,hc1,hc2,hca⟩:=Rep.open_ (size:=1) (enc:=(fun es=>[ji es])) (fun _=>rfl) (by decide) ha
 clear ha;unfold maxLen at hc2;have hl1:l.length≤9223372036854775807:=by omega
 have hs:=kI (vP l) left;have ht:vP l=l.length+kj kO l:=rfl;rw [ht] at hs;have HT:=Lib.hid ht;clear ht;by_cases hneg:left-(l.length:Int)<0
 ·clear hca
  go_enter Tryz.func101,Tryz.ntmps101
  go_wp2
  go_ret
  exact ⟨kT (by rw [HT.out];omega),Below.refl _ _⟩
 ·go_enter Tryz.func101,Tryz.ntmps101
  go_wp2
  go_loopw [1,5] (fun q i wr=>∃(k:Nat) (v:Int),k≤l.length∧i=.int .i64 k∧q=.int .i64 v∧0≤v∧v=left-l.length-kj kO (l.take k)∧Below w.heap.size w wr) (fun _ i _=>l.length-(intOf i).toNat)
  case atStart=>exact ⟨0,left-l.length,by omega,rfl,rfl,by omega,by simp [kj],Below.refl _ _⟩
  case round=>
   obtain ⟨k,v,hk,rfl,rfl,hv0,hv,hbel⟩:=hrel;by_cases hlt:k<l.length
   ·obtain ⟨x,hx⟩:=je hlt
    obtain ⟨b1,o1,vk1,T1,rfl,-,hr1,-,-,hb1,hx1⟩:=hca k x hx;clear hca;obtain ⟨au,_,aS0,aS1,rfl,rfl,ah0,rfl,rfl⟩:=hr1;have htk:=kL (tot:=kO) hx;have htl:=qE kO l (k+1);have hsx:=kI (kO x) v;have hv1:v≤1048576:=by omega
    have HV:=Lib.hid hv;have HK:=Lib.hid htk;clear hx hv htk;have p0:=(hbel.cell (p:=⟨b1,o1+k,none⟩) hb1).trans (by simpa using hx1 0 _ rfl:w.cell? ⟨b1,o1+k,none⟩=_)
    clear hx1
    go_wp2_with (go_at_call 180;refine (jpZ x _ _ _ _ _ (ah0.below hbel (Nat.le_refl _)) (by omega) (by omega)).mono ?_;rintro e w2 ⟨rfl,hb2⟩)
    ·go_ret
     have hv:=HV.out;have htk:=HK.out;exact ⟨kT (by rw [HT.out];(try simp only [kO] at*);omega),jy hbel hb2⟩
    ·go_roundw
     case rel=>
      have hv:=HV.out;have htk:=HK.out;refine ⟨k+1,_,by omega,by go_num,rfl,by omega,?_,jy hbel hb2⟩
      try simp only [kO] at*
      omega
     case measure=>simp [intOf];omega
   ·obtain rfl:k=l.length:=by omega
    clear hca;rw [List.take_length] at hv;have HV:=Lib.hid hv;clear hv
    go_wp2
    go_ret
    have hv:=HV.out;exact ⟨kT (by rw [HT.out];omega),hbel⟩
theorem jr0 (l:List Tk) (a:Value) (S:List Nat) (w:World) (own:Bool) (left:Int) (ha:Rep w own (jw l) a S) (h0:0≤left) (h1:left≤1048576):
 Calls Tryz.prog 255 #[a,.int .i64 left] w fun e w'=>e=.returned (.int .i64 (szf l.length left))∧Below w.heap.size w w':=by
 obtain ⟨A,c,rfl,hc1,hc2,hca⟩:=Rep.open_ (size:=4) (enc:=jn) (fun _=>rfl) (by decide) ha
 clear ha hca;unfold maxLen at hc2;have hl1:l.length≤9223372036854775807:=by omega
 have hs:=kI l.length left
 go_enter Tryz.func255,Tryz.ntmps255
 go_wp2
 all_goals go_ret
 all_goals exact ⟨kT (by omega),Below.refl _ _⟩
theorem jxo (x:Rn) (a:Value) (S:List Nat) (w:World) (own:Bool) (left:Int) (ha:AggRep w own (jd x) a S) (h0:0≤left) (h1:left≤1048576):
 Calls Tryz.prog 181 #[a,.int .i64 left] w fun e w'=>e=.returned (.int .i64 (szf (kn x) left))∧Below w.heap.size w w':=by
 obtain ⟨_,rfl,ha⟩:=ha;obtain ⟨av0,av1,aS0,aS1,rfl,ah0,ah1,rfl⟩:=kh ha;clear ha;have hs0:=kI (zR x.plan) (left);have hs1:=kI (x.tasks.length) (szf (zR x.plan) (left));have hs:=kI (kn x) left;have ht:kn x=zR x.plan+x.tasks.length:=rfl;rw [ht] at hs;have HT:=Lib.hid ht;clear ht
 go_enter Tryz.func181,Tryz.ntmps181
 go_wp2_with (first
  |(go_at_call 103;refine (joP x.plan _ _ _ _ _ ⟨_,rfl,jfS (ah0.below (by repeat (first|(with_reducible exact Below.refl _ _)|(with_reducible assumption)|((with_reducible refine Below.alloc ?_ ?_ _);rotate_left;focus (simp;try omega))|((with_reducible refine Below.setCell ?_ ?_ _);rotate_left;focus (simp;try omega))|(with_reducible refine jy ?_ (by assumption)))) (Nat.le_refl _))⟩ (by omega) (by omega)).mono ?_;rintro e w1 ⟨rfl,hb1⟩;obtain ⟨hc1,hf1⟩:=qa hb1)
  |(go_at_call 255;refine (jr0 x.tasks _ _ _ _ _ (ah1.below (by repeat (first|(with_reducible exact Below.refl _ _)|(with_reducible assumption)|((with_reducible refine Below.alloc ?_ ?_ _);rotate_left;focus (simp;try omega))|((with_reducible refine Below.setCell ?_ ?_ _);rotate_left;focus (simp;try omega))|(with_reducible refine jy ?_ (by assumption)))) (Nat.le_refl _)) (by omega) (by omega)).mono ?_;rintro e w2 ⟨rfl,hb2⟩;obtain ⟨hc2,hf2⟩:=qa hb2))
 all_goals go_ret
 all_goals exact ⟨kT (HT.out▸(by omega)),by repeat (first|(with_reducible exact Below.refl _ _)|(with_reducible assumption)|((with_reducible refine Below.alloc ?_ ?_ _);rotate_left;focus (simp;try omega))|((with_reducible refine Below.setCell ?_ ?_ _);rotate_left;focus (simp;try omega))|(with_reducible refine jy ?_ (by assumption)))⟩
theorem juY (l:List (Rn)) (a:Value) (S:List Nat) (w:World) (own:Bool) (left:Int) (ha:Rep w own (jM l) a S) (h0:0≤left) (h1:left≤1048576):
 Calls Tryz.prog 102 #[a,.int .i64 left] w fun e w'=>e=.returned (.int .i64 (szf (qA l) left))∧Below w.heap.size w w':=by
 obtain ⟨A,c,rfl,hc1,hc2,hca⟩:=Rep.open_ (size:=8) (enc:=jd) (fun _=>rfl) (by decide) ha
 clear ha;unfold maxLen at hc2;have hl1:l.length≤9223372036854775807:=by omega
 have hs:=kI (qA l) left;have ht:qA l=l.length+kj kn l:=rfl;rw [ht] at hs;have HT:=Lib.hid ht;clear ht;by_cases hneg:left-(l.length:Int)<0
 ·clear hca
  go_enter Tryz.func102,Tryz.ntmps102
  go_wp2
  go_ret
  exact ⟨kT (by rw [HT.out];omega),Below.refl _ _⟩
 ·go_enter Tryz.func102,Tryz.ntmps102
  go_wp2
  go_loopw [1,5] (fun q i wr=>∃(k:Nat) (v:Int),k≤l.length∧i=.int .i64 k∧q=.int .i64 v∧0≤v∧v=left-l.length-kj kn (l.take k)∧Below w.heap.size w wr) (fun _ i _=>l.length-(intOf i).toNat)
  case atStart=>exact ⟨0,left-l.length,by omega,rfl,rfl,by omega,by simp [kj],Below.refl _ _⟩
  case round=>
   obtain ⟨k,v,hk,rfl,rfl,hv0,hv,hbel⟩:=hrel;by_cases hlt:k<l.length
   ·obtain ⟨x,hx⟩:=je hlt
    obtain ⟨b1,o1,vk1,T1,rfl,-,hr1,-,-,hb1,hx1⟩:=hca k x hx;clear hca;obtain ⟨av0,av1,aS0,aS1,rfl,ah0,ah1,rfl⟩:=kh hr1;have htk:=kL (tot:=kn) hx;have htl:=qE kn l (k+1);have hsx:=kI (kn x) v;have hv1:v≤1048576:=by omega
    have HV:=Lib.hid hv;have HK:=Lib.hid htk;clear hx hv htk;have p0:=(hbel.cell (p:=⟨b1,o1+k*8,none⟩) hb1).trans (hx1 0 _ rfl:w.cell? ⟨b1,o1+k*8,none⟩=_);have p1:=(hbel.cell (p:=⟨b1,o1+k*8+1,none⟩) hb1).trans (hx1 1 _ rfl:w.cell? ⟨b1,o1+k*8+1,none⟩=_);have p2:=(hbel.cell (p:=⟨b1,o1+k*8+2,none⟩) hb1).trans (hx1 2 _ rfl:w.cell? ⟨b1,o1+k*8+2,none⟩=_);have p3:=(hbel.cell (p:=⟨b1,o1+k*8+3,none⟩) hb1).trans (hx1 3 _ rfl:w.cell? ⟨b1,o1+k*8+3,none⟩=_);have p4:=(hbel.cell (p:=⟨b1,o1+k*8+4,none⟩) hb1).trans (hx1 4 _ rfl:w.cell? ⟨b1,o1+k*8+4,none⟩=_);have p5:=(hbel.cell (p:=⟨b1,o1+k*8+5,none⟩) hb1).trans (hx1 5 _ rfl:w.cell? ⟨b1,o1+k*8+5,none⟩=_);have p6:=(hbel.cell (p:=⟨b1,o1+k*8+6,none⟩) hb1).trans (hx1 6 _ rfl:w.cell? ⟨b1,o1+k*8+6,none⟩=_);have p7:=(hbel.cell (p:=⟨b1,o1+k*8+7,none⟩) hb1).trans (hx1 7 _ rfl:w.cell? ⟨b1,o1+k*8+7,none⟩=_);clear hx1
    go_wp2_with (go_at_call 181;refine (jxo x _ _ _ _ _ ⟨_,rfl,hr1.below hbel (Nat.le_refl _)⟩ (by omega) (by omega)).mono ?_;rintro e w2 ⟨rfl,hb2⟩)
    ·go_ret
     have hv:=HV.out;have htk:=HK.out;exact ⟨kT (by rw [HT.out];(try simp only [kO] at*);omega),jy hbel hb2⟩
    ·go_roundw
     case rel=>
      have hv:=HV.out;have htk:=HK.out;refine ⟨k+1,_,by omega,by go_num,rfl,by omega,?_,jy hbel hb2⟩
      try simp only [kO] at*
      omega
     case measure=>simp [intOf];omega
   ·obtain rfl:k=l.length:=by omega
    clear hca;rw [List.take_length] at hv;have HV:=Lib.hid hv;clear hv
    go_wp2
    go_ret
    have hv:=HV.out;exact ⟨kT (by rw [HT.out];omega),hbel⟩
theorem juX (x:Yd) (a:Value) (S:List Nat) (w:World) (own:Bool) (left:Int) (ha:AggRep w own (jb x) a S) (h0:0≤left) (h1:left≤1048576):
 Calls Tryz.prog 28 #[a,.int .i64 left] w fun e w'=>e=.returned (.int .i64 (szf (jt x) left))∧Below w.heap.size w w':=by
 obtain ⟨_,rfl,ha⟩:=ha;obtain ⟨av0,av1,aS0,aS1,rfl,ah0,ah1,rfl⟩:=qf ha;clear ha;have hs0:=kI (vP x.shelf) (left);have hs1:=kI (qA x.runs) (szf (vP x.shelf) (left));have hs:=kI (jt x) left;have ht:jt x=vP x.shelf+qA x.runs:=rfl;rw [ht] at hs;have HT:=Lib.hid ht;clear ht
 go_enter Tryz.func28,Tryz.ntmps28
 go_wp2_with (first
  |(go_at_call 101;refine (jnD x.shelf _ _ _ _ _ (ah0.below (by repeat (first|(with_reducible exact Below.refl _ _)|(with_reducible assumption)|((with_reducible refine Below.alloc ?_ ?_ _);rotate_left;focus (simp;try omega))|((with_reducible refine Below.setCell ?_ ?_ _);rotate_left;focus (simp;try omega))|(with_reducible refine jy ?_ (by assumption)))) (Nat.le_refl _)) (by omega) (by omega)).mono ?_;rintro e w1 ⟨rfl,hb1⟩;obtain ⟨hc1,hf1⟩:=qa hb1)
  |(go_at_call 102;refine (juY x.runs _ _ _ _ _ (ah1.below (by repeat (first|(with_reducible exact Below.refl _ _)|(with_reducible assumption)|((with_reducible refine Below.alloc ?_ ?_ _);rotate_left;focus (simp;try omega))|((with_reducible refine Below.setCell ?_ ?_ _);rotate_left;focus (simp;try omega))|(with_reducible refine jy ?_ (by assumption)))) (Nat.le_refl _)) (by omega) (by omega)).mono ?_;rintro e w2 ⟨rfl,hb2⟩;obtain ⟨hc2,hf2⟩:=qa hb2))
 all_goals go_ret
 all_goals exact ⟨kT (HT.out▸(by omega)),by repeat (first|(with_reducible exact Below.refl _ _)|(with_reducible assumption)|((with_reducible refine Below.alloc ?_ ?_ _);rotate_left;focus (simp;try omega))|((with_reducible refine Below.setCell ?_ ?_ _);rotate_left;focus (simp;try omega))|(with_reducible refine jy ?_ (by assumption)))⟩
theorem juZ (x:Dd) (a:Value) (S:List Nat) (w:World) (own:Bool) (left:Int) (ha:AggRep w own (jg x) a S) (h0:0≤left) (h1:left≤1048576):
 Calls Tryz.prog 29 #[a,.int .i64 left] w fun e w'=>e=.returned (.int .i64 (szf (vQ x) left))∧Below w.heap.size w w':=by
 obtain ⟨_,rfl,ha⟩:=ha;obtain ⟨av0,rfl,ah0⟩:=kE ha;clear ha;have hs0:=kI (zR x.plan) (left);have hs:=kI (vQ x) left;have ht:vQ x=zR x.plan:=rfl;rw [ht] at hs;have HT:=Lib.hid ht;clear ht
 go_enter Tryz.func29,Tryz.ntmps29
 go_wp2_with (first
  |(go_at_call 103;refine (joP x.plan _ _ _ _ _ ⟨_,rfl,jfS (ah0.below (by repeat (first|(with_reducible exact Below.refl _ _)|(with_reducible assumption)|((with_reducible refine Below.alloc ?_ ?_ _);rotate_left;focus (simp;try omega))|((with_reducible refine Below.setCell ?_ ?_ _);rotate_left;focus (simp;try omega))|(with_reducible refine jy ?_ (by assumption)))) (Nat.le_refl _))⟩ (by omega) (by omega)).mono ?_;rintro e w1 ⟨rfl,hb1⟩;obtain ⟨hc1,hf1⟩:=qa hb1))
 all_goals go_ret
 all_goals exact ⟨kT (HT.out▸(by omega)),by repeat (first|(with_reducible exact Below.refl _ _)|(with_reducible assumption)|((with_reducible refine Below.alloc ?_ ?_ _);rotate_left;focus (simp;try omega))|((with_reducible refine Below.setCell ?_ ?_ _);rotate_left;focus (simp;try omega))|(with_reducible refine jy ?_ (by assumption)))⟩
end Go.Proofs.YtmnpailnelmpiaaGreat
