/- Parts. -/
import Derived.Test.YtmnpailnelmpiaaGreatQBase2
import Derived.Test.YtmnpailnelmpiaaGreatRows
set_option linter.unusedSimpArgs false
set_option linter.unusedVariables false
set_option maxHeartbeats 1000000
namespace Go.Proofs.YtmnpailnelmpiaaGreat
open Go.RowKit
structure Ed where
 src:Int
 dst:Int
 deriving DecidableEq,Inhabited
structure Pl where
 prio:Int
 most:Int
 wait:Int
 tasks:Int
 edges:List Ed
 deriving DecidableEq,Inhabited
structure En where
 prio:Int
 seq:Int
 run:Int
 task:Int
 deriving DecidableEq,Inhabited
structure Tk where
 state:Int
 need:Int
 tri:Int
 til:Int
 deriving DecidableEq,Inhabited
structure Rn where
 id:Int
 plan:Pl
 state:Int
 tasks:List Tk
 deriving DecidableEq,Inhabited
structure Yd where
 now:Int
 seq:Int
 shelf:List (List En)
 runs:List Rn
 deriving DecidableEq,Inhabited
structure Dd where
 kind:Int
 run:Int
 plan:Pl
 task:Int
 tri:Int
 worker:Int
 draw:Int
 deriving DecidableEq,Inhabited
structure Nt where
 seq:Int
 deed:Dd
 deriving DecidableEq,Inhabited
abbrev tEdS:TypeId:=69
abbrev tTkS:TypeId:=106
abbrev jy0:TypeId:=35
abbrev tSh:TypeId:=34
abbrev tNtS:TypeId:=94
abbrev tEd:TypeId:=253
abbrev tEn:TypeId:=111
abbrev tTk:TypeId:=172
abbrev tRn:TypeId:=108
abbrev jno:TypeId:=102
abbrev tNt:TypeId:=165
abbrev tYd:TypeId:=37
abbrev tPl:TypeId:=71
abbrev jfE:TypeId:=3
abbrev iv (n:Int):D:=.val (.int .i64 n)
def jg (l:List Int):D:=.sl 1 jfE (l.flatMap fun n=>[iv n])
def jH (e:Ed):List D:=[iv e.src,iv e.dst]
def jA (l:List Ed):D:=.sl 2 tEd (l.flatMap jH)
def ja (p:Pl):List D:=[iv p.prio,iv p.most,iv p.wait,iv p.tasks,jA p.edges]
def jf (e:En):List D:=[iv e.prio,iv e.seq,iv e.run,iv e.task]
def ji (l:List En):D:=.sl 4 tEn (l.flatMap jf)
def jn (t:Tk):List D:=[iv t.state,iv t.need,iv t.tri,iv t.til]
def jx (l:List Tk):D:=.sl 4 tTk (l.flatMap jn)
def jd (r:Rn):List D:=iv r.id::(ja r.plan++[iv r.state,jx r.tasks])
def jM (l:List Rn):D:=.sl 8 tRn (l.flatMap jd)
def kt (l:List (List En)):D:=.sl 1 jno (l.flatMap fun es=>[ji es])
def jb (y:Yd):List D:=[iv y.now,iv y.seq,kt y.shelf,jM y.runs]
def jh (d:Dd):List D:=iv d.kind::iv d.run::(ja d.plan++[iv d.task,iv d.tri,iv d.worker,iv d.draw])
def jN (n:Nt):List D:=iv n.seq::jh n.deed
def qa (l:List Nt):D:=.sl 12 tNt (l.flatMap jN)
section
variable {w:World} {own:Bool} {vs:List Value} {v:Value} {S:List Nat}
theorem qs {e:En} (h:RepL w own (jf e) vs S):vs=[.int .i64 e.prio,.int .i64 e.seq,.int .i64 e.run,.int .i64 e.task]∧S=[]:=by
 obtain ⟨_,rfl,g1⟩:=RepL.val_inv h;obtain ⟨_,rfl,g2⟩:=RepL.val_inv g1;obtain ⟨_,rfl,g3⟩:=RepL.val_inv g2;obtain ⟨_,rfl,g4⟩:=RepL.val_inv g3;obtain ⟨rfl,rfl⟩:=g4;exact ⟨rfl,rfl⟩
theorem qE {e:Tk} (h:RepL w own (jn e) vs S):vs=[.int .i64 e.state,.int .i64 e.need,.int .i64 e.tri,.int .i64 e.til]∧S=[]:=by
 obtain ⟨_,rfl,g1⟩:=RepL.val_inv h;obtain ⟨_,rfl,g2⟩:=RepL.val_inv g1;obtain ⟨_,rfl,g3⟩:=RepL.val_inv g2;obtain ⟨_,rfl,g4⟩:=RepL.val_inv g3;obtain ⟨rfl,rfl⟩:=g4;exact ⟨rfl,rfl⟩
theorem vX {e:Ed} (h:RepL w own (jH e) vs S):vs=[.int .i64 e.src,.int .i64 e.dst]∧S=[]:=by
 obtain ⟨_,rfl,g1⟩:=RepL.val_inv h;obtain ⟨_,rfl,g2⟩:=RepL.val_inv g1;obtain ⟨rfl,rfl⟩:=g2;exact ⟨rfl,rfl⟩
theorem vB {p:Pl} (h:RepL w own (ja p) vs S):∃ev,vs=[.int .i64 p.prio,.int .i64 p.most,.int .i64 p.wait,.int .i64 p.tasks,ev]∧Rep w own (jA p.edges) ev S:=by
 obtain ⟨_,rfl,g1⟩:=RepL.val_inv h;obtain ⟨_,rfl,g2⟩:=RepL.val_inv g1;obtain ⟨_,rfl,g3⟩:=RepL.val_inv g2;obtain ⟨_,rfl,g4⟩:=RepL.val_inv g3;obtain ⟨ev,_,S1,S2,rfl,rfl,h1,rfl,rfl⟩:=g4;exact ⟨ev,rfl,by simpa using h1⟩
theorem kh {r:Rn} (h:RepL w own (jd r) vs S):∃ev tv S1 S2,vs=[.int .i64 r.id,.int .i64 r.plan.prio,.int .i64 r.plan.most,.int .i64 r.plan.wait,.int .i64 r.plan.tasks,ev,.int .i64 r.state,tv]
 ∧Rep w own (jA r.plan.edges) ev S1∧Rep w own (jx r.tasks) tv S2∧S=S1++S2:=by
 obtain ⟨_,rfl,g1⟩:=RepL.val_inv h;obtain ⟨v1,v2,S1,S2,rfl,rfl,h1,h2⟩:=RepL.append_inv _ g1;obtain ⟨ev,rfl,k1⟩:=vB h1;obtain ⟨_,rfl,g2⟩:=RepL.val_inv h2;obtain ⟨tv,_,S3,S4,rfl,rfl,h3,rfl,rfl⟩:=g2;exact ⟨ev,tv,S1,S3,rfl,k1,h3,by simp⟩
theorem qe {y:Yd} (h:RepL w own (jb y) vs S):∃sv rv S1 S2,vs=[.int .i64 y.now,.int .i64 y.seq,sv,rv]∧Rep w own (kt y.shelf) sv S1∧Rep w own (jM y.runs) rv S2∧S=S1++S2:=by
 obtain ⟨_,rfl,g1⟩:=RepL.val_inv h;obtain ⟨_,rfl,g2⟩:=RepL.val_inv g1;obtain ⟨sv,_,S1,S2,rfl,rfl,h1,k⟩:=g2;obtain ⟨rv,_,S3,S4,rfl,rfl,h3,rfl,rfl⟩:=k;exact ⟨sv,rv,S1,S3,rfl,h1,h3,by simp⟩
theorem jaE {d:Dd} (h:RepL w own (jh d) vs S):∃ev,vs=[.int .i64 d.kind,.int .i64 d.run,.int .i64 d.plan.prio,.int .i64 d.plan.most,.int .i64 d.plan.wait,.int .i64 d.plan.tasks,ev,.int .i64 d.task,.int .i64 d.tri,.int .i64 d.worker,.int .i64 d.draw]
 ∧Rep w own (jA d.plan.edges) ev S:=by
 obtain ⟨_,rfl,g1⟩:=RepL.val_inv h;obtain ⟨_,rfl,g2⟩:=RepL.val_inv g1;obtain ⟨v1,v2,S1,S2,rfl,rfl,h1,h2⟩:=RepL.append_inv _ g2;obtain ⟨ev,rfl,k1⟩:=vB h1;obtain ⟨_,rfl,g3⟩:=RepL.val_inv h2;obtain ⟨_,rfl,g4⟩:=RepL.val_inv g3;obtain ⟨_,rfl,g5⟩:=RepL.val_inv g4;obtain ⟨_,rfl,g6⟩:=RepL.val_inv g5;obtain ⟨rfl,rfl⟩:=g6;exact ⟨ev,rfl,by simpa using k1⟩
theorem kH {n:Nt} (h:RepL w own (jN n) vs S):∃ev,vs=[.int .i64 n.seq,.int .i64 n.deed.kind,.int .i64 n.deed.run,.int .i64 n.deed.plan.prio,.int .i64 n.deed.plan.most,.int .i64 n.deed.plan.wait,.int .i64 n.deed.plan.tasks,ev,.int .i64 n.deed.task,.int .i64 n.deed.tri,.int .i64 n.deed.worker,.int .i64 n.deed.draw]
 ∧Rep w own (jA n.deed.plan.edges) ev S:=by
 obtain ⟨_,rfl,g1⟩:=RepL.val_inv h;obtain ⟨ev,rfl,k1⟩:=jaE g1;exact ⟨ev,rfl,k1⟩
theorem jju (w:World) (own:Bool) (e:En):RepL w own (jf e) [.int .i64 e.prio,.int .i64 e.seq,.int .i64 e.run,.int .i64 e.task] []:=RepL.val_ (RepL.val_ (RepL.val_ (RepL.val_ RepL.nil_)))
theorem jpK (w:World) (own:Bool) (e:Tk):RepL w own (jn e) [.int .i64 e.state,.int .i64 e.need,.int .i64 e.tri,.int .i64 e.til] []:=RepL.val_ (RepL.val_ (RepL.val_ (RepL.val_ RepL.nil_)))
theorem jvT (w:World) (own:Bool) (e:Ed):RepL w own (jH e) [.int .i64 e.src,.int .i64 e.dst] []:=RepL.val_ (RepL.val_ RepL.nil_)
theorem jfN {p:Pl} {ev:Value} (h:Rep w own (jA p.edges) ev S):RepL w own (ja p) [.int .i64 p.prio,.int .i64 p.most,.int .i64 p.wait,.int .i64 p.tasks,ev] S:=by
 have:=RepL.val_ (u:=.int .i64 p.prio) (RepL.val_ (u:=.int .i64 p.most) (RepL.val_ (u:=.int .i64 p.wait) (RepL.val_ (u:=.int .i64 p.tasks) (RepL.cons_ h (RepL.nil_ (w:=w) (own:=own))))))
 rwa [List.append_nil] at this
theorem ji8 {r:Rn} {ev tv:Value} {S1 S2:List Nat} (h:Rep w own (jA r.plan.edges) ev S1) (h2:Rep w own (jx r.tasks) tv S2):
 RepL w own (jd r) [.int .i64 r.id,.int .i64 r.plan.prio,.int .i64 r.plan.most,.int .i64 r.plan.wait,.int .i64 r.plan.tasks,ev,.int .i64 r.state,tv] (S1++S2):=by
 have:=RepL.val_ (u:=.int .i64 r.id) (RepL.append_ _ (jfN h) (RepL.val_ (u:=.int .i64 r.state) (RepL.cons_ h2 (RepL.nil_ (w:=w) (own:=own)))))
 rwa [List.append_nil] at this
theorem jaq {y:Yd} {sv rv:Value} {S1 S2:List Nat} (h:Rep w own (kt y.shelf) sv S1) (h2:Rep w own (jM y.runs) rv S2):
 RepL w own (jb y) [.int .i64 y.now,.int .i64 y.seq,sv,rv] (S1++S2):=by
 have:=RepL.val_ (u:=.int .i64 y.now) (RepL.val_ (u:=.int .i64 y.seq) (RepL.cons_ h (RepL.cons_ h2 (RepL.nil_ (w:=w) (own:=own)))))
 rwa [List.append_nil] at this
theorem jq2 {d:Dd} {ev:Value} (h:Rep w own (jA d.plan.edges) ev S):RepL w own (jh d) [.int .i64 d.kind,.int .i64 d.run,.int .i64 d.plan.prio,.int .i64 d.plan.most,.int .i64 d.plan.wait,.int .i64 d.plan.tasks,ev,.int .i64 d.task,.int .i64 d.tri,.int .i64 d.worker,.int .i64 d.draw] S:=by
 have:=RepL.val_ (u:=.int .i64 d.kind) (RepL.val_ (u:=.int .i64 d.run) (RepL.append_ _ (jfN h) (RepL.val_ (u:=.int .i64 d.task) (RepL.val_ (u:=.int .i64 d.tri) (RepL.val_ (u:=.int .i64 d.worker) (RepL.val_ (u:=.int .i64 d.draw) (RepL.nil_ (w:=w) (own:=own))))))))
 rwa [List.append_nil] at this
theorem jev {n:Nt} {ev:Value} (h:Rep w own (jA n.deed.plan.edges) ev S):RepL w own (jN n) [.int .i64 n.seq,.int .i64 n.deed.kind,.int .i64 n.deed.run,.int .i64 n.deed.plan.prio,.int .i64 n.deed.plan.most,.int .i64 n.deed.plan.wait,.int .i64 n.deed.plan.tasks,ev,.int .i64 n.deed.task,.int .i64 n.deed.tri,.int .i64 n.deed.worker,.int .i64 n.deed.draw] S:=
 RepL.val_ (u:=.int .i64 n.seq) (jq2 h)
theorem jtw (r:Rn):(jd r).length=8:=rfl
theorem jty (r:Nt):(jN r).length=12:=rfl
end
theorem jbm {α:Type} {l m:List α} {k:Nat} {x:α} (hx:l[k]?=some x) (hy:m[k]?=some x) (h:l.take k=m.take k):l.take (k+1)=m.take (k+1):=by
 rw [List.take_add_one,List.take_add_one,h,hx,hy]
theorem jiC {α:Type} {l m:List α} {k:Nat} {x y:α} (hx:l[k]?=some x) (hy:m[k]?=some y) (h:x≠y):l≠m:=by
 intro e;subst e;rw [hx] at hy;exact h (Option.some.inj hy)
theorem jbn {α:Type} {l m:List α} {k:Nat} (hl:l.length≤k) (hm:m.length≤k) (h:l.take k=m.take k):l=m:=by
 rwa [List.take_of_length_le hl,List.take_of_length_le hm] at h
theorem je {α:Type} {l:List α} {k:Nat} (h:k<l.length):∃x,l[k]?=some x:=⟨l[k],List.getElem?_eq_getElem h⟩
theorem jy {b b':Bool} (h:b=b'):Ending.returned (.bool b)=Ending.returned (.bool b'):=by rw [h]
theorem jfX {P:Program} {e:TypeId} {size bytes:Nat} {z:Value} (h:(P.info? e).map (fun i=>(i.zero,i.size,i.bytes))=some (some z,size,bytes)):
 ∃i zv,P.info? e=some i∧i.zero=some zv∧zv.cells=z.cells∧i.size=size∧i.bytes=bytes:=by
 cases hq:P.info? e with
 |none=>rw [hq] at h;simp at h
 |some i=>
  rw [hq] at h;simp at h;exact ⟨i,z,rfl,h.1,rfl,h.2.1,h.2.2⟩
def jfY {α:Type} (l:List α) (z:α) (k:Nat):List α:=l.take k++List.replicate (l.length-k) z
theorem jaZ {α:Type} (l:List α) (z:α):jfY l z 0=List.replicate l.length z:=by simp [jfY]
theorem va {α:Type} (l:List α) (z:α) (k:Nat) (h:k≤l.length):(jfY l z k).length=l.length:=by simp [jfY];omega
theorem jcS {α:Type} (l:List α) (z:α):jfY l z l.length=l:=by simp [jfY]
theorem jcR {α:Type} {l:List α} {z x:α} {k:Nat} (hx:l[k]?=some x):(jfY l z k).set k x=jfY l z (k+1):=by
 have hk:k<l.length:=(List.getElem?_eq_some_iff.1 hx).1;have hx':l[k]=x:=by rw [List.getElem?_eq_getElem hk] at hx;exact Option.some.inj hx
 unfold jfY;rw [List.set_append_right _ _ (by rw [List.length_take];exact Nat.min_le_left _ _),List.length_take,Nat.min_eq_left (by omega),Nat.sub_self]
 obtain ⟨m,hm⟩:∃m,l.length-k=m+1:=⟨l.length-k-1,by omega⟩
 rw [hm,List.replicate_succ,List.set_cons_zero,List.take_succ_eq_append_getElem hk,hx',List.append_assoc,show l.length-(k+1)=m by omega]
 rfl
theorem cb {P:Program} {f:FuncId} {args:Array Value} {w:World} {b b':Bool} (h:Calls P f args w fun e w'=>e=.returned (.bool b)∧Below w.heap.size w w') (hb:b=b'):Calls P f args w fun e w'=>e=.returned (.bool b')∧Below w.heap.size w w':=by subst hb;exact h
theorem kX {W w1:World} (hb:Below W.heap.size W w1):(∀b o,b<W.heap.size→w1.cell? ⟨b,o,none⟩=W.cell? ⟨b,o,none⟩)∧(∀b o,b<W.heap.size→w1.frozen? ⟨b,o,none⟩=W.frozen? ⟨b,o,none⟩):=
 ⟨fun b o h=>hb.cell (p:=⟨b,o,none⟩) h,fun b o h=>hb.frozen (p:=⟨b,o,none⟩) h⟩
theorem jbk {w:World} {own:Bool} {d:D} {v:Value} {S:List Nat} {p:Addr} {u:Value} (h:Rep w own d v S) (hp:∀b∈S,b≠p.block):Rep (w.setCell p u) own d v S:=
 Rep.keep d h fun b hb=>Below.heap_setCell w p u b (hp b hb)
theorem Rep.form {w:World} {own:Bool} {size:Nat} {ty:TypeId} {cs:List D} {v:Value} {S:List Nat} (h:Rep w own (.sl size ty cs) v S):∃A n c,v=.slice A n c:=by
 obtain ⟨vs,T,S',hr,_,_⟩:=h;obtain ⟨_,A,n,c,rfl,_⟩:=hr.ro;exact ⟨A,n,c,rfl⟩
def kj {α:Type} (tot:α→Nat) (l:List α):Nat:=(l.map tot).sum
theorem jab {α:Type} (tot:α→Nat) (l m:List α):kj tot (l++m)=kj tot l+kj tot m:=by simp [kj]
theorem kJ {α:Type} {tot:α→Nat} {l:List α} {k:Nat} {x:α} (h:l[k]?=some x):kj tot (l.take (k+1))=kj tot (l.take k)+tot x:=by
 rw [List.take_add_one,h,jab];simp [kj]
theorem qD {α:Type} (tot:α→Nat) (l:List α) (k:Nat):kj tot (l.take k)≤kj tot l:=by
 conv=>rhs;rw [←List.take_append_drop k l,jab]
 exact Nat.le_add_right _ _
theorem jkq {α:Type} {tot:α→Nat} {l:List α} {k:Nat} {x:α} (h:l[k]?=some x):tot x≤kj tot l:=by
 have h1:=kJ (tot:=tot) h;have h2:=qD tot l (k+1);omega
def zP (p:Pl):Nat:=p.edges.length
def km (r:Rn):Nat:=zP r.plan+r.tasks.length
def kO (l:List En):Nat:=l.length
def vL (l:List (List En)):Nat:=l.length+kj kO l
def qz (l:List Rn):Nat:=l.length+kj km l
def jt (y:Yd):Nat:=vL y.shelf+qz y.runs
def jac (d:Dd):Nat:=zP d.plan
def jba (n:Nt):Nat:=jac n.deed
def zb (l:List Nt):Nat:=l.length+kj jba l
def szf (tot:Nat) (left:Int):Int:=if (tot:Int)≤left then left-tot else -1
theorem kz (tot:Nat) (left:Int):((tot:Int)≤left∧szf tot left=left-tot)∨(left<tot∧szf tot left=-1):=by
 unfold szf;split
 ·exact .inl ⟨by assumption,rfl⟩
 ·exact .inr ⟨by omega,rfl⟩
theorem kM {a b:Int} (h:a=b):Ending.returned (.int .i64 a)=Ending.returned (.int .i64 b):=by rw [h]
theorem jvd {α:Type} {enc:α→List D} {w:World} {ty:TypeId} {xs:List α} {S:List Nat} {g n c k:Nat} (hl:∀x,(enc x).length=1) (h:Rep w true (.sl 1 ty (xs.flatMap enc)) (.slice (some ⟨g,0,none⟩) n c) S) (hk:k<xs.length):
 (∃u,w.cell? ⟨g,k,none⟩=some u)∧w.frozen? ⟨g,k,none⟩=false:=by
 obtain ⟨vs,S1,hown,hrl,rfl⟩:=Rep.own hl (by decide) h
 have hn:n=xs.length:=by
  rcases hown.2 with ⟨e,_⟩|⟨g',cap',cur,e,_⟩
  ·cases e
  ·simp only [Value.slice.injEq] at e;exact e.2.1
 subst hn;have:=jeu hown k 1 (by omega) 0 (by omega)
 exact ⟨Option.isSome_iff_exists.1 (by simpa using this.1),by simpa using this.2⟩
def jfH (rs:List Rn) (id:Int):Int:=match rs.findIdx? (fun r=>r.id==id) with
 |some k=>k
 |none=>-1
def runAt (y:Yd) (id:Int):Int:=if 8<y.runs.length then -1 else jfH y.runs id
theorem jdQ {rs:List Rn} {id:Int} {k:Nat} {x:Rn} (hx:rs[k]?=some x) (h:x.id=id) (hno:∀j,j<k→∀z,rs[j]?=some z→z.id≠id):jfH rs id=k:=by
 have hk:k<rs.length:=(List.getElem?_eq_some_iff.1 hx).1
 have:rs.findIdx? (fun r=>r.id==id)=some k:=by
  rw [List.findIdx?_eq_some_iff_getElem];refine ⟨hk,?_,fun j hj=>?_⟩
  ·rw [List.getElem?_eq_getElem hk] at hx
   simp only [Option.some.injEq] at hx;simp [hx,h]
  ·have:=hno j hj rs[j] (List.getElem?_eq_getElem (by omega))
   simpa using this
 simp [jfH,this]
theorem jfG {rs:List Rn} {id:Int} (hno:∀j,j<rs.length→∀z,rs[j]?=some z→z.id≠id):jfH rs id=-1:=by
 have:rs.findIdx? (fun r=>r.id==id)=none:=by
  rw [List.findIdx?_eq_none_iff];intro x hx;obtain ⟨j,hj,rfl⟩:=List.getElem_of_mem hx;simpa using hno j hj rs[j] (List.getElem?_eq_getElem hj)
 simp [jfH,this]
theorem jid (rs:List Rn) (id:Int):(∃(k:Nat) (x:Rn),rs[k]?=some x∧x.id=id∧(∀j,j<k→∀z,rs[j]?=some z→z.id≠id)∧jfH rs id=k)∨((∀x∈rs,x.id≠id)∧jfH rs id=-1):=by
 cases h:rs.findIdx? (fun r=>r.id==id) with
 |none=>
  right;rw [List.findIdx?_eq_none_iff] at h;have h':∀x∈rs,x.id≠id:=fun x hx=>by simpa using h x hx
  exact ⟨h',jfG fun j hj z hz=>h' z (List.mem_of_getElem? hz)⟩
 |some k=>
  left;rw [List.findIdx?_eq_some_iff_getElem] at h;obtain ⟨hk,h1,h2⟩:=h;have hx:rs[k]?=some rs[k]:=List.getElem?_eq_getElem hk;have h1':rs[k].id=id:=by simpa using h1
  have hno:∀j,j<k→∀z,rs[j]?=some z→z.id≠id:=fun j hj z hz=>by
   have:=h2 j hj;rw [List.getElem?_eq_getElem (by omega)] at hz
   simp only [Option.some.injEq] at hz;subst hz;simpa using this
  exact ⟨k,rs[k],hx,h1',hno,jdQ hx h1' hno⟩
def jc9 (y:Yd) (id task:Int):Option Tk:=
 if runAt y id<0 then none else match y.runs[(runAt y id).toNat]? with
 |some r=>if 0≤task then r.tasks[task.toNat]? else none
 |none=>none
def kr (y:Yd) (e:En):Bool:=match jc9 y e.run e.task with
 |some t=>t.state==2
 |none=>false
def vN (y:Yd) (id task tri:Int):Bool:=match jc9 y id task with
 |some t=>t.state==3&&t.tri==tri
 |none=>false
theorem vE (y:Yd) (id task:Int):(runAt y id=-1∧jc9 y id task=none)∨
 (∃(k:Nat) (r:Rn),runAt y id=k∧y.runs[k]?=some r∧((¬(0≤task∧task≤(r.tasks.length:Int)-1)∧jc9 y id task=none)∨
  (∃(j:Nat) (t:Tk),task=j∧r.tasks[j]?=some t∧jc9 y id task=some t))):=by
 have h1:runAt y id=-1∨∃(k:Nat) (r:Rn),runAt y id=k∧y.runs[k]?=some r:=by
  unfold runAt;split
  ·exact .inl rfl
  ·rcases jid y.runs id with ⟨k,x,hx,_,_,he⟩|⟨_,he⟩
   ·exact .inr ⟨k,x,he,hx⟩
   ·exact .inl he
 rcases h1 with h|⟨k,r,h,hr⟩
 ·exact .inl ⟨h,by unfold jc9;rw [if_pos (by omega)]⟩
 ·right
  refine ⟨k,r,h,hr,?_⟩
  have e:jc9 y id task=if 0≤task then r.tasks[task.toNat]? else none:=by
   unfold jc9;rw [if_neg (by omega),h,Int.toNat_natCast,hr]
  by_cases h0:0≤task
  ·rw [if_pos h0] at e
   by_cases hl:task.toNat<r.tasks.length
   ·right
    exact ⟨task.toNat,r.tasks[task.toNat],by omega,List.getElem?_eq_getElem hl,by rw [e,List.getElem?_eq_getElem hl]⟩
   ·left
    exact ⟨by omega,by rw [e,List.getElem?_eq_none (by omega)]⟩
  ·left
   rw [if_neg h0] at e;exact ⟨by omega,e⟩
def jaj (r:Rn):Nat:=if r.state=1 then r.tasks.length else 0
def qP (y:Yd) (l:List En):Nat:=l.countP (fun e=>!kr y e)
def ja9 (y:Yd):List En:=y.shelf.flatten
def qp (y:Yd):Int:=kj jaj y.runs+qP y (ja9 y)
def jae (y:Yd) (p:Pl):Bool:=decide (y.runs.length<8)&&(decide (0≤p.tasks∧p.tasks≤12)&&(decide (qp y+p.tasks≤40)&&decide (y.seq≤1000000000-1000-p.tasks)))
theorem jh0 (l:List Rn):kj jaj l≤kj km l:=by
 induction l with
 |nil=>simp [kj]
 |cons r l ih=>
  have h:jaj r≤km r:=by unfold jaj km;split<;>omega
  simp only [kj,List.map_cons,List.sum_cons] at*;omega
theorem qV (l:List (List En)):l.flatten.length=kj kO l:=by
 induction l with
 |nil=>simp [kj]
 |cons r l ih=>simp only [List.flatten_cons,List.length_append,kj,List.map_cons,List.sum_cons,kO] at*;omega
theorem jkx (y:Yd) (l:List En):qP y l≤l.length:=List.countP_le_length
theorem jjN {y:Yd} {l:List En} {k:Nat} {e:En} (h:l[k]?=some e):qP y (l.take (k+1))=qP y (l.take k)+(if kr y e then 0 else 1):=by
 unfold qP;rw [List.take_add_one,h,List.countP_append];cases hf:kr y e<;>simp [hf]
theorem jjM (y:Yd) (l:List En) (k:Nat):qP y (l.take k)≤qP y l:=by
 unfold qP;exact (List.take_sublist k l).countP_le
theorem ja0 {l:List (List En)} {k:Nat} {es:List En} (h:l[k]?=some es):(l.take (k+1)).flatten=(l.take k).flatten++es:=by
 rw [List.take_add_one,h,List.flatten_append];simp
open Go.RowKit
theorem iEd:(Tryz.prog.info? tEd).map (fun i=>(i.zero,i.size,i.bytes))=some (some (.agg #[.int .i64 0,.int .i64 0]),2,16):=by kernel_rfl
theorem slEd:SlT Tryz.prog tEdS tEd 2 16 [.int .i64 0,.int .i64 0]:=⟨by kernel_rfl,jfX iEd,rfl,by decide⟩
theorem szEd:(Tryz.prog.info? tEd).map (·.size)=some 2:=by kernel_rfl
theorem iEn:(Tryz.prog.info? tEn).map (fun i=>(i.zero,i.size,i.bytes))=some (some (.agg #[.int .i64 0,.int .i64 0,.int .i64 0,.int .i64 0]),4,32):=by kernel_rfl
theorem slEn:SlT Tryz.prog jno tEn 4 32 [.int .i64 0,.int .i64 0,.int .i64 0,.int .i64 0]:=⟨by kernel_rfl,jfX iEn,rfl,by decide⟩
theorem jy1:(Tryz.prog.info? tEn).map (·.size)=some 4:=by kernel_rfl
theorem iTk:(Tryz.prog.info? tTk).map (fun i=>(i.zero,i.size,i.bytes))=some (some (.agg #[.int .i64 0,.int .i64 0,.int .i64 0,.int .i64 0]),4,32):=by kernel_rfl
theorem slTk:SlT Tryz.prog tTkS tTk 4 32 [.int .i64 0,.int .i64 0,.int .i64 0,.int .i64 0]:=⟨by kernel_rfl,jfX iTk,rfl,by decide⟩
theorem szTk:(Tryz.prog.info? tTk).map (·.size)=some 4:=by kernel_rfl
theorem iEnS:(Tryz.prog.info? jno).map (fun i=>(i.zero,i.size,i.bytes))=some (some (.slice none 0 0),1,24):=by kernel_rfl
theorem slEnS:SlT Tryz.prog tSh jno 1 24 [.slice none 0 0]:=⟨by kernel_rfl,jfX iEnS,rfl,by decide⟩
theorem iRn:(Tryz.prog.info? tRn).map (fun i=>(i.zero,i.size,i.bytes))=some (some (.agg #[.int .i64 0,.int .i64 0,.int .i64 0,.int .i64 0,.int .i64 0,.slice none 0 0,.int .i64 0,.slice none 0 0]),8,96):=by kernel_rfl
theorem slRn:SlT Tryz.prog jy0 tRn 8 96 [.int .i64 0,.int .i64 0,.int .i64 0,.int .i64 0,.int .i64 0,.slice none 0 0,.int .i64 0,.slice none 0 0]:=⟨by kernel_rfl,jfX iRn,rfl,by decide⟩
theorem szRn:(Tryz.prog.info? tRn).map (·.size)=some 8:=by kernel_rfl
theorem iNt:(Tryz.prog.info? tNt).map (fun i=>(i.zero,i.size,i.bytes))=some (some (.agg #[.int .i64 0,.int .i64 0,.int .i64 0,.int .i64 0,.int .i64 0,.int .i64 0,.int .i64 0,.slice none 0 0,.int .i64 0,.int .i64 0,.int .i64 0,.int .i64 0]),12,112):=by kernel_rfl
theorem slNt:SlT Tryz.prog tNtS tNt 12 112 [.int .i64 0,.int .i64 0,.int .i64 0,.int .i64 0,.int .i64 0,.int .i64 0,.int .i64 0,.slice none 0 0,.int .i64 0,.int .i64 0,.int .i64 0,.int .i64 0]:=⟨by kernel_rfl,jfX iNt,rfl,by decide⟩
theorem szNt:(Tryz.prog.info? tNt).map (·.size)=some 12:=by kernel_rfl
theorem jtz:∀(y:Ed),∀d∈jH y,d.one:=by intro y d hd;simp [jH] at hd;rcases hd with rfl|rfl<;>trivial
theorem jmR:∀(y:En),∀d∈jf y,d.one:=by intro y d hd;simp [jf] at hd;rcases hd with rfl|rfl|rfl|rfl<;>trivial
theorem jtu:∀(y:Tk),∀d∈jn y,d.one:=by intro y d hd;simp [jn] at hd;rcases hd with rfl|rfl|rfl|rfl<;>trivial
theorem jtv:∀(y:Rn),∀d∈jd y,d.one:=by intro y d hd;simp [jd,ja,jA,jx] at hd;rcases hd with rfl|rfl|rfl|rfl|rfl|rfl|rfl|rfl<;>trivial
theorem jtx:∀(y:Nt),∀d∈jN y,d.one:=by intro y d hd;simp [jN,jh,ja,jA] at hd;rcases hd with rfl|rfl|rfl|rfl|rfl|rfl|rfl|rfl|rfl|rfl|rfl|rfl<;>trivial
theorem zRn (w:World):RepL w true (jd ⟨0,⟨0,0,0,0,[]⟩,0,[]⟩) [.int .i64 0,.int .i64 0,.int .i64 0,.int .i64 0,.int .i64 0,.slice none 0 0,.int .i64 0,.slice none 0 0] []:=ji8 (r:=⟨0,⟨0,0,0,0,[]⟩,0,[]⟩) (Rep.nil_ w 2 tEd) (Rep.nil_ w 4 tTk)
theorem zNt (w:World):RepL w true (jN ⟨0,⟨0,0,⟨0,0,0,0,[]⟩,0,0,0,0⟩⟩) [.int .i64 0,.int .i64 0,.int .i64 0,.int .i64 0,.int .i64 0,.int .i64 0,.int .i64 0,.slice none 0 0,.int .i64 0,.int .i64 0,.int .i64 0,.int .i64 0] []:=jev (n:=⟨0,⟨0,0,⟨0,0,0,0,[]⟩,0,0,0,0⟩⟩) (Rep.nil_ w 2 tEd)
theorem zEn (w:World):RepL w true (jf ⟨0,0,0,0⟩) [.int .i64 0,.int .i64 0,.int .i64 0,.int .i64 0] []:=jju w true ⟨0,0,0,0⟩
theorem zTk (w:World):RepL w true (jn ⟨0,0,0,0⟩) [.int .i64 0,.int .i64 0,.int .i64 0,.int .i64 0] []:=jpK w true ⟨0,0,0,0⟩
theorem zEd (w:World):RepL w true (jH ⟨0,0⟩) [.int .i64 0,.int .i64 0] []:=jvT w true ⟨0,0⟩
theorem zEnS (w:World):RepL w true [ji []] [.slice none 0 0] []:=RepL.cons_ (Rep.nil_ w 4 tEn) RepL.nil_
open Go.RowKit Go.Sort Go.BigFrame
theorem jay (y:Yd) (id:Int) (a:Value) (S:List Nat) (w:World) (own:Bool) (ha:AggRep w own (jb y) a S):
 Calls Tryz.prog 152 #[a,.int .i64 id] w fun e w'=>e=.returned (.int .i64 (runAt y id))∧Below w.heap.size w w':=by
 obtain ⟨_,rfl,ha⟩:=ha;obtain ⟨sv,rv,S1,S2,rfl,ah0,ah1,rfl⟩:=qe ha;clear ha ah0;obtain ⟨A,c,rfl,hc1,hc2,hca⟩:=Rep.open_ (size:=8) (enc:=jd) (fun _=>rfl) (by decide) ah1
 unfold maxLen at hc2;have hl1:y.runs.length≤9223372036854775807:=by omega
 by_cases h8:8<y.runs.length
 ·clear hca
  have hr:runAt y id=-1:=by simp [runAt,h8]
  rw [hr];clear hr
  go_enter Tryz.func152,Tryz.ntmps152
  go_wp2
  go_loop [5] (fun i=>i=.int .i64 0) (fun _=>0)
  case atStart=>rfl
  case round=>
   subst hrel
   go_wp2
   all_goals go_ret
   all_goals exact ⟨rfl,(Below.refl _ _).alloc (by simp) _⟩
 ·have hr:runAt y id=jfH y.runs id:=by simp [runAt,h8]
  rw [hr];clear hr
  go_enter Tryz.func152,Tryz.ntmps152
  go_wp2
  go_loop [5] (fun i=>∃k:Nat,k≤y.runs.length∧i=.int .i64 k∧∀j,j<k→∀z,y.runs[j]?=some z→z.id≠id) (fun i=>y.runs.length-(intOf i).toNat)
  case atStart=>exact ⟨0,by omega,rfl,by simp⟩
  case round=>
   obtain ⟨k,hk,rfl,hno⟩:=hrel;have HN:=Lib.hid hno;clear hno;by_cases hlt:k<y.runs.length
   ·obtain ⟨x,hx⟩:=je hlt
    obtain ⟨b1,o1,vk1,T1,rfl,-,hr1,-,-,hb1,hx1⟩:=hca k x hx;clear hca;obtain ⟨v0,v1,U0,U1,rfl,-,-,-⟩:=kh hr1;have HX:=Lib.hid hx;clear hx;have p0:w.cell? ⟨b1,o1+k*8,none⟩=some (.int .i64 x.id):=hx1 0 _ rfl;clear hx1 hr1;by_cases he:x.id=id
    ·have hb:(x.id==id)=true:=by simpa using he
     have HE:=Lib.hid he;clear he
     go_wp2
     go_ret
     exact ⟨kM (jdQ HX.out HE.out HN.out).symm,(Below.refl _ _).alloc (by simp) _⟩
    ·have hb:(x.id==id)=false:=by simpa using he
     have HE:=Lib.hid he;clear he
     go_wp2
     go_round
     case rel=>
      refine ⟨k+1,by omega,by go_num,fun j hj z hz=>?_⟩
      by_cases hjk:j=k
      ·subst hjk
       have:=HX.out;rw [hz] at this;cases this;exact HE.out
      ·exact HN.out j (by omega) z hz
     case measure=>simp [intOf];omega
   ·obtain rfl:k=y.runs.length:=by omega
    clear hca
    go_wp2
    go_ret
    exact ⟨kM (jfG HN.out).symm,(Below.refl _ _).alloc (by simp) _⟩
theorem jmH (x:Rn) (id:Int) (a:Value) (S:List Nat) (g:Nat) (w:World) (own:Bool) (ha:AggRep w own (jd x) a S) (hg:w.cell? ⟨g,0,none⟩=some (.int .i64 id)):
 Calls Tryz.prog 135 #[a,.pointer (some ⟨g,0,none⟩)] w fun e w'=>e=.returned (.bool (x.id==id))∧Below w.heap.size w w':=by
 obtain ⟨_,rfl,ha⟩:=ha;obtain ⟨v0,v1,U0,U1,rfl,-,-,-⟩:=kh ha;clear ha;have hlt:=World.block_lt_of_cell? w _ hg
 go_enter Tryz.func135,Tryz.ntmps135
 go_wp2
 go_ret
 exact ⟨rfl,(Below.refl _ _).alloc (by simp) _⟩
theorem jn7 (rs:List Rn) (id:Int) (a:Value) (S:List Nat) (g:Nat) (w:World) (own:Bool) (ha:Rep w own (jM rs) a S) (hg:w.cell? ⟨g,0,none⟩=some (.int .i64 id)):
 Calls Tryz.prog 134 #[a,.func (.func 135) #[] #[.pointer (some ⟨g,0,none⟩)]] w fun e w'=>e=.returned (.int .i64 (jfH rs id))∧Below w.heap.size w w':=by
 obtain ⟨A,c,rfl,hc1,hc2,hca⟩:=Rep.open_ (size:=8) (enc:=jd) (fun _=>rfl) (by decide) ha
 unfold maxLen at hc2;have hl1:rs.length≤9223372036854775807:=by omega
 have hglt:=World.block_lt_of_cell? w _ hg;clear ha
 go_enter Tryz.func134,Tryz.ntmps134
 go_wp2
 go_loopw [5,8] (fun _ i wr=>∃k:Nat,k≤rs.length∧i=.int .i64 k∧(∀j,j<k→∀z,rs[j]?=some z→z.id≠id)∧Below w.heap.size w wr) (fun _ i _=>rs.length-(intOf i).toNat)
 case atStart=>exact ⟨0,by omega,rfl,by simp,Below.refl _ _⟩
 case round=>
  obtain ⟨k,hk,rfl,hno,hbel⟩:=hrel;have HN:=Lib.hid hno;clear hno;have hgr:wr.cell? ⟨g,0,none⟩=some (.int .i64 id):=(hbel.cell (p:=⟨g,0,none⟩) hglt).trans hg;by_cases hlt:k<rs.length
  ·obtain ⟨x,hx⟩:=je hlt
   obtain ⟨b1,o1,vk1,T1,rfl,-,hr1,-,-,hb1,hx1⟩:=hca k x hx;clear hca;obtain ⟨v0,v1,U0,U1,rfl,-,-,-⟩:=kh hr1;have HX:=Lib.hid hx;clear hx;have p0:=(hbel.cell (p:=⟨b1,o1+k*8,none⟩) hb1).trans (hx1 0 _ rfl:w.cell? ⟨b1,o1+k*8,none⟩=_);have p1:=(hbel.cell (p:=⟨b1,o1+k*8+1,none⟩) hb1).trans (hx1 1 _ rfl);have p2:=(hbel.cell (p:=⟨b1,o1+k*8+2,none⟩) hb1).trans (hx1 2 _ rfl);have p3:=(hbel.cell (p:=⟨b1,o1+k*8+3,none⟩) hb1).trans (hx1 3 _ rfl);have p4:=(hbel.cell (p:=⟨b1,o1+k*8+4,none⟩) hb1).trans (hx1 4 _ rfl);have p5:=(hbel.cell (p:=⟨b1,o1+k*8+5,none⟩) hb1).trans (hx1 5 _ rfl);have p6:=(hbel.cell (p:=⟨b1,o1+k*8+6,none⟩) hb1).trans (hx1 6 _ rfl);have p7:=(hbel.cell (p:=⟨b1,o1+k*8+7,none⟩) hb1).trans (hx1 7 _ rfl);clear hx1;by_cases he:x.id=id
   ·have hb:(x.id==id)=true:=by simpa using he
    have HE:=Lib.hid he;clear he
    go_wp2_with (go_at_call 135;refine (jmH x id _ _ _ _ own ⟨_,rfl,hr1.below hbel (Nat.le_refl _)⟩ hgr).mono ?_;rintro e w2 ⟨rfl,hb2⟩)
    go_ret
    exact ⟨kM (jdQ HX.out HE.out HN.out).symm,jv hbel hb2⟩
   ·have hb:(x.id==id)=false:=by simpa using he
    have HE:=Lib.hid he;clear he
    go_wp2_with (go_at_call 135;refine (jmH x id _ _ _ _ own ⟨_,rfl,hr1.below hbel (Nat.le_refl _)⟩ hgr).mono ?_;rintro e w2 ⟨rfl,hb2⟩)
    go_roundw
    case rel=>
     refine ⟨k+1,by omega,by go_num,fun j hj z hz=>?_,jv hbel hb2⟩
     by_cases hjk:j=k
     ·subst hjk
      have:=HX.out;rw [hz] at this;cases this;exact HE.out
     ·exact HN.out j (by omega) z hz
    case measure=>simp [intOf];omega
  ·obtain rfl:k=rs.length:=by omega
   clear hca
   go_wp2
   go_ret
   exact ⟨kM (jfG HN.out).symm,hbel⟩
theorem jaC (y:Yd) (id:Int) (a:Value) (S:List Nat) (w:World) (own:Bool) (ha:AggRep w own (jb y) a S):
 Calls Tryz.prog 56 #[a,.int .i64 id] w fun e w'=>e=.returned (.int .i64 (runAt y id))∧Below w.heap.size w w':=by
 obtain ⟨_,rfl,ha⟩:=ha;obtain ⟨sv,rv,S1,S2,rfl,ah0,ah1,rfl⟩:=qe ha;clear ha ah0;obtain ⟨A,c,rfl,hc1,hc2,hca⟩:=Rep.open_ (size:=8) (enc:=jd) (fun _=>rfl) (by decide) ah1
 unfold maxLen at hc2;have hl1:y.runs.length≤9223372036854775807:=by omega
 clear hca;by_cases h8:8<y.runs.length
 ·have hr:runAt y id=-1:=by simp [runAt,h8]
  rw [hr];clear hr
  go_enter Tryz.func56,Tryz.ntmps56
  go_wp2
  go_ret
  exact ⟨rfl,((Below.refl _ _).alloc (by simp) _).alloc (by simp) _⟩
 ·have hr:runAt y id=jfH y.runs id:=by simp [runAt,h8]
  rw [hr];clear hr
  go_enter Tryz.func56,Tryz.ntmps56
  go_wp2_with (go_at_call 134;refine (jn7 y.runs id _ _ _ _ own (ah1.below (((Below.refl _ _).alloc (by simp) _).alloc (by simp) _) (Nat.le_refl _)) (by simp [go_sem])).mono ?_;rintro e w2 ⟨rfl,hb2⟩)
  go_ret
  exact ⟨rfl,jv (((Below.refl _ _).alloc (by simp) _).alloc (by simp) _) hb2⟩
end Go.Proofs.YtmnpailnelmpiaaGreat
