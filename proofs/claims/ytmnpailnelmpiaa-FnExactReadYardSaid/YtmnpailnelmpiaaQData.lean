/- Parts. -/
import Derived.Test.YtmnpailnelmpiaaQBase2
set_option linter.unusedSimpArgs false
set_option linter.unusedVariables false
namespace Go.Proofs.Ytmnpailnelmpiaa
open Go.RowKit
structure Ed where
 src:Int
 dst:Int
 deriving DecidableEq,Inhabited
structure Pl where
 prio:Int
 most:Int
 wait:Int
 tasks:Int
 edges:List Ed
 deriving DecidableEq,Inhabited
structure En where
 prio:Int
 seq:Int
 run:Int
 task:Int
 deriving DecidableEq,Inhabited
structure Tk where
 state:Int
 need:Int
 tri:Int
 til:Int
 deriving DecidableEq,Inhabited
structure Rn where
 id:Int
 plan:Pl
 state:Int
 tasks:List Tk
 deriving DecidableEq,Inhabited
structure Yd where
 now:Int
 seq:Int
 shelf:List (List En)
 runs:List Rn
 deriving DecidableEq,Inhabited
structure Dd where
 kind:Int
 run:Int
 plan:Pl
 task:Int
 tri:Int
 worker:Int
 draw:Int
 deriving DecidableEq,Inhabited
structure Nt where
 seq:Int
 deed:Dd
 deriving DecidableEq,Inhabited
abbrev tEd:TypeId:=103
abbrev tEn:TypeId:=82
abbrev tTk:TypeId:=84
abbrev tRn:TypeId:=78
abbrev joQ:TypeId:=74
abbrev tNt:TypeId:=28
abbrev tYd:TypeId:=42
abbrev jiY:TypeId:=3
abbrev iv (n:Int):D:=.val (.int .i64 n)
def jj (l:List Int):D:=.sl 1 jiY (l.flatMap fun n=>[iv n])
def jF (e:Ed):List D:=[iv e.src,iv e.dst]
def jv (l:List Ed):D:=.sl 2 tEd (l.flatMap jF)
def ja (p:Pl):List D:=[iv p.prio,iv p.most,iv p.wait,iv p.tasks,jv p.edges]
def jk (e:En):List D:=[iv e.prio,iv e.seq,iv e.run,iv e.task]
def js (l:List En):D:=.sl 4 tEn (l.flatMap jk)
def jn (t:Tk):List D:=[iv t.state,iv t.need,iv t.tri,iv t.til]
def km (l:List Tk):D:=.sl 4 tTk (l.flatMap jn)
def jc (r:Rn):List D:=iv r.id::(ja r.plan++[iv r.state,km r.tasks])
def kr (l:List Rn):D:=.sl 8 tRn (l.flatMap jc)
def kO (l:List (List En)):D:=.sl 1 joQ (l.flatMap fun es=>[js es])
def jd (y:Yd):List D:=[iv y.now,iv y.seq,kO y.shelf,kr y.runs]
def je (d:Dd):List D:=iv d.kind::iv d.run::(ja d.plan++[iv d.task,iv d.tri,iv d.worker,iv d.draw])
def jq (n:Nt):List D:=iv n.seq::je n.deed
def ke (l:List Nt):D:=.sl 12 tNt (l.flatMap jq)
section
variable {w:World} {own:Bool} {vs:List Value} {v:Value} {S:List Nat}
theorem qd {e:En} (h:RepL w own (jk e) vs S):vs=[.int .i64 e.prio,.int .i64 e.seq,.int .i64 e.run,.int .i64 e.task]∧S=[]:=by
 obtain ⟨_,rfl,g1⟩:=RepL.val_inv h;obtain ⟨_,rfl,g2⟩:=RepL.val_inv g1;obtain ⟨_,rfl,g3⟩:=RepL.val_inv g2;obtain ⟨_,rfl,g4⟩:=RepL.val_inv g3;obtain ⟨rfl,rfl⟩:=g4;exact ⟨rfl,rfl⟩
theorem qv {e:Tk} (h:RepL w own (jn e) vs S):vs=[.int .i64 e.state,.int .i64 e.need,.int .i64 e.tri,.int .i64 e.til]∧S=[]:=by
 obtain ⟨_,rfl,g1⟩:=RepL.val_inv h;obtain ⟨_,rfl,g2⟩:=RepL.val_inv g1;obtain ⟨_,rfl,g3⟩:=RepL.val_inv g2;obtain ⟨_,rfl,g4⟩:=RepL.val_inv g3;obtain ⟨rfl,rfl⟩:=g4;exact ⟨rfl,rfl⟩
theorem vn {e:Ed} (h:RepL w own (jF e) vs S):vs=[.int .i64 e.src,.int .i64 e.dst]∧S=[]:=by
 obtain ⟨_,rfl,g1⟩:=RepL.val_inv h;obtain ⟨_,rfl,g2⟩:=RepL.val_inv g1;obtain ⟨rfl,rfl⟩:=g2;exact ⟨rfl,rfl⟩
theorem vN {p:Pl} (h:RepL w own (ja p) vs S):∃ev,vs=[.int .i64 p.prio,.int .i64 p.most,.int .i64 p.wait,.int .i64 p.tasks,ev]∧Rep w own (jv p.edges) ev S:=by
 obtain ⟨_,rfl,g1⟩:=RepL.val_inv h;obtain ⟨_,rfl,g2⟩:=RepL.val_inv g1;obtain ⟨_,rfl,g3⟩:=RepL.val_inv g2;obtain ⟨_,rfl,g4⟩:=RepL.val_inv g3;obtain ⟨ev,_,S1,S2,rfl,rfl,h1,rfl,rfl⟩:=g4;exact ⟨ev,rfl,by simpa using h1⟩
theorem jZ {r:Rn} (h:RepL w own (jc r) vs S):∃ev tv S1 S2,vs=[.int .i64 r.id,.int .i64 r.plan.prio,.int .i64 r.plan.most,.int .i64 r.plan.wait,.int .i64 r.plan.tasks,ev,.int .i64 r.state,tv]
 ∧Rep w own (jv r.plan.edges) ev S1∧Rep w own (km r.tasks) tv S2∧S=S1++S2:=by
 obtain ⟨_,rfl,g1⟩:=RepL.val_inv h;obtain ⟨v1,v2,S1,S2,rfl,rfl,h1,h2⟩:=RepL.append_inv _ g1;obtain ⟨ev,rfl,k1⟩:=vN h1;obtain ⟨_,rfl,g2⟩:=RepL.val_inv h2;obtain ⟨tv,_,S3,S4,rfl,rfl,h3,rfl,rfl⟩:=g2;exact ⟨ev,tv,S1,S3,rfl,k1,h3,by simp⟩
theorem qs {y:Yd} (h:RepL w own (jd y) vs S):∃sv rv S1 S2,vs=[.int .i64 y.now,.int .i64 y.seq,sv,rv]∧Rep w own (kO y.shelf) sv S1∧Rep w own (kr y.runs) rv S2∧S=S1++S2:=by
 obtain ⟨_,rfl,g1⟩:=RepL.val_inv h;obtain ⟨_,rfl,g2⟩:=RepL.val_inv g1;obtain ⟨sv,_,S1,S2,rfl,rfl,h1,k⟩:=g2;obtain ⟨rv,_,S3,S4,rfl,rfl,h3,rfl,rfl⟩:=k;exact ⟨sv,rv,S1,S3,rfl,h1,h3,by simp⟩
theorem zJ {d:Dd} (h:RepL w own (je d) vs S):∃ev,vs=[.int .i64 d.kind,.int .i64 d.run,.int .i64 d.plan.prio,.int .i64 d.plan.most,.int .i64 d.plan.wait,.int .i64 d.plan.tasks,ev,.int .i64 d.task,.int .i64 d.tri,.int .i64 d.worker,.int .i64 d.draw]
 ∧Rep w own (jv d.plan.edges) ev S:=by
 obtain ⟨_,rfl,g1⟩:=RepL.val_inv h;obtain ⟨_,rfl,g2⟩:=RepL.val_inv g1;obtain ⟨v1,v2,S1,S2,rfl,rfl,h1,h2⟩:=RepL.append_inv _ g2;obtain ⟨ev,rfl,k1⟩:=vN h1;obtain ⟨_,rfl,g3⟩:=RepL.val_inv h2;obtain ⟨_,rfl,g4⟩:=RepL.val_inv g3;obtain ⟨_,rfl,g5⟩:=RepL.val_inv g4;obtain ⟨_,rfl,g6⟩:=RepL.val_inv g5;obtain ⟨rfl,rfl⟩:=g6;exact ⟨ev,rfl,by simpa using k1⟩
theorem kj {n:Nt} (h:RepL w own (jq n) vs S):∃ev,vs=[.int .i64 n.seq,.int .i64 n.deed.kind,.int .i64 n.deed.run,.int .i64 n.deed.plan.prio,.int .i64 n.deed.plan.most,.int .i64 n.deed.plan.wait,.int .i64 n.deed.plan.tasks,ev,.int .i64 n.deed.task,.int .i64 n.deed.tri,.int .i64 n.deed.worker,.int .i64 n.deed.draw]
 ∧Rep w own (jv n.deed.plan.edges) ev S:=by
 obtain ⟨_,rfl,g1⟩:=RepL.val_inv h;obtain ⟨ev,rfl,k1⟩:=zJ g1;exact ⟨ev,rfl,k1⟩
theorem jjV (w:World) (own:Bool) (e:En):RepL w own (jk e) [.int .i64 e.prio,.int .i64 e.seq,.int .i64 e.run,.int .i64 e.task] []:=RepL.val_ (RepL.val_ (RepL.val_ (RepL.val_ RepL.nil_)))
theorem jpa (w:World) (own:Bool) (e:Tk):RepL w own (jn e) [.int .i64 e.state,.int .i64 e.need,.int .i64 e.tri,.int .i64 e.til] []:=RepL.val_ (RepL.val_ (RepL.val_ (RepL.val_ RepL.nil_)))
theorem ju3 (w:World) (own:Bool) (e:Ed):RepL w own (jF e) [.int .i64 e.src,.int .i64 e.dst] []:=RepL.val_ (RepL.val_ RepL.nil_)
theorem jfK {p:Pl} {ev:Value} (h:Rep w own (jv p.edges) ev S):RepL w own (ja p) [.int .i64 p.prio,.int .i64 p.most,.int .i64 p.wait,.int .i64 p.tasks,ev] S:=by
 have:=RepL.val_ (u:=.int .i64 p.prio) (RepL.val_ (u:=.int .i64 p.most) (RepL.val_ (u:=.int .i64 p.wait) (RepL.val_ (u:=.int .i64 p.tasks) (RepL.cons_ h (RepL.nil_ (w:=w) (own:=own))))))
 rwa [List.append_nil] at this
theorem jhS {r:Rn} {ev tv:Value} {S1 S2:List Nat} (h:Rep w own (jv r.plan.edges) ev S1) (h2:Rep w own (km r.tasks) tv S2):
 RepL w own (jc r) [.int .i64 r.id,.int .i64 r.plan.prio,.int .i64 r.plan.most,.int .i64 r.plan.wait,.int .i64 r.plan.tasks,ev,.int .i64 r.state,tv] (S1++S2):=by
 have:=RepL.val_ (u:=.int .i64 r.id) (RepL.append_ _ (jfK h) (RepL.val_ (u:=.int .i64 r.state) (RepL.cons_ h2 (RepL.nil_ (w:=w) (own:=own)))))
 rwa [List.append_nil] at this
theorem jeC {y:Yd} {sv rv:Value} {S1 S2:List Nat} (h:Rep w own (kO y.shelf) sv S1) (h2:Rep w own (kr y.runs) rv S2):
 RepL w own (jd y) [.int .i64 y.now,.int .i64 y.seq,sv,rv] (S1++S2):=by
 have:=RepL.val_ (u:=.int .i64 y.now) (RepL.val_ (u:=.int .i64 y.seq) (RepL.cons_ h (RepL.cons_ h2 (RepL.nil_ (w:=w) (own:=own)))))
 rwa [List.append_nil] at this
theorem jol {d:Dd} {ev:Value} (h:Rep w own (jv d.plan.edges) ev S):RepL w own (je d) [.int .i64 d.kind,.int .i64 d.run,.int .i64 d.plan.prio,.int .i64 d.plan.most,.int .i64 d.plan.wait,.int .i64 d.plan.tasks,ev,.int .i64 d.task,.int .i64 d.tri,.int .i64 d.worker,.int .i64 d.draw] S:=by
 have:=RepL.val_ (u:=.int .i64 d.kind) (RepL.val_ (u:=.int .i64 d.run) (RepL.append_ _ (jfK h) (RepL.val_ (u:=.int .i64 d.task) (RepL.val_ (u:=.int .i64 d.tri) (RepL.val_ (u:=.int .i64 d.worker) (RepL.val_ (u:=.int .i64 d.draw) (RepL.nil_ (w:=w) (own:=own))))))))
 rwa [List.append_nil] at this
theorem jdc {n:Nt} {ev:Value} (h:Rep w own (jv n.deed.plan.edges) ev S):RepL w own (jq n) [.int .i64 n.seq,.int .i64 n.deed.kind,.int .i64 n.deed.run,.int .i64 n.deed.plan.prio,.int .i64 n.deed.plan.most,.int .i64 n.deed.plan.wait,.int .i64 n.deed.plan.tasks,ev,.int .i64 n.deed.task,.int .i64 n.deed.tri,.int .i64 n.deed.worker,.int .i64 n.deed.draw] S:=
 RepL.val_ (u:=.int .i64 n.seq) (jol h)
end
theorem zG {α:Type} {l m:List α} {k:Nat} {x:α} (hx:l[k]?=some x) (hy:m[k]?=some x) (h:l.take k=m.take k):l.take (k+1)=m.take (k+1):=by
 rw [List.take_add_one,List.take_add_one,h,hx,hy]
theorem jfk {α:Type} {l m:List α} {k:Nat} {x y:α} (hx:l[k]?=some x) (hy:m[k]?=some y) (h:x≠y):l≠m:=by
 intro e;subst e;rw [hx] at hy;exact h (Option.some.inj hy)
theorem zH {α:Type} {l m:List α} {k:Nat} (hl:l.length≤k) (hm:m.length≤k) (h:l.take k=m.take k):l=m:=by
 rwa [List.take_of_length_le hl,List.take_of_length_le hm] at h
theorem jg {α:Type} {l:List α} {k:Nat} (h:k<l.length):∃x,l[k]?=some x:=⟨l[k],List.getElem?_eq_getElem h⟩
theorem jB {b b':Bool} (h:b=b'):Ending.returned (.bool b)=Ending.returned (.bool b'):=by rw [h]
theorem jst {P:Program} {e:TypeId} {size bytes:Nat} {z:Value} (h:(P.info? e).map (fun i=>(i.zero,i.size,i.bytes))=some (some z,size,bytes)):
 ∃i zv,P.info? e=some i∧i.zero=some zv∧zv.cells=z.cells∧i.size=size∧i.bytes=bytes:=by
 cases hq:P.info? e with
 |none=>rw [hq] at h;simp at h
 |some i=>
  rw [hq] at h;simp at h;exact ⟨i,z,rfl,h.1,rfl,h.2.1,h.2.2⟩
theorem cb {P:Program} {f:FuncId} {args:Array Value} {w:World} {b b':Bool} (h:Calls P f args w fun e w'=>e=.returned (.bool b)∧Below w.heap.size w w') (hb:b=b'):Calls P f args w fun e w'=>e=.returned (.bool b')∧Below w.heap.size w w':=by subst hb;exact h
theorem vL {W w1:World} (hb:Below W.heap.size W w1):(∀b o,b<W.heap.size→w1.cell? ⟨b,o,none⟩=W.cell? ⟨b,o,none⟩)∧(∀b o,b<W.heap.size→w1.frozen? ⟨b,o,none⟩=W.frozen? ⟨b,o,none⟩):=
 ⟨fun b o h=>hb.cell (p:=⟨b,o,none⟩) h,fun b o h=>hb.frozen (p:=⟨b,o,none⟩) h⟩
theorem Rep.form {w:World} {own:Bool} {size:Nat} {ty:TypeId} {cs:List D} {v:Value} {S:List Nat} (h:Rep w own (.sl size ty cs) v S):∃A n c,v=.slice A n c:=by
 obtain ⟨vs,T,S',hr,_,_⟩:=h;obtain ⟨_,A,n,c,rfl,_⟩:=hr.ro;exact ⟨A,n,c,rfl⟩
def jP {α:Type} (tot:α→Nat) (l:List α):Nat:=(l.map tot).sum
theorem jeE {α:Type} (tot:α→Nat) (l m:List α):jP tot (l++m)=jP tot l+jP tot m:=by simp [jP]
theorem qu {α:Type} {tot:α→Nat} {l:List α} {k:Nat} {x:α} (h:l[k]?=some x):jP tot (l.take (k+1))=jP tot (l.take k)+tot x:=by
 rw [List.take_add_one,h,jeE];simp [jP]
theorem vt {α:Type} (tot:α→Nat) (l:List α) (k:Nat):jP tot (l.take k)≤jP tot l:=by
 conv=>rhs;rw [←List.take_append_drop k l,jeE]
 exact Nat.le_add_right _ _
def jdY (p:Pl):Nat:=p.edges.length
def jac (r:Rn):Nat:=jdY r.plan+r.tasks.length
def vM (l:List En):Nat:=l.length
def jeF (l:List (List En)):Nat:=l.length+jP vM l
def jb2 (l:List Rn):Nat:=l.length+jP jac l
def kH (y:Yd):Nat:=jeF y.shelf+jb2 y.runs
def jbF (d:Dd):Nat:=jdY d.plan
def zz (n:Nt):Nat:=jbF n.deed
def jf6 (l:List Nt):Nat:=l.length+jP zz l
theorem jao {a b:Int} (h:a=b):Ending.returned (.int .i64 a)=Ending.returned (.int .i64 b):=by rw [h]
def jfH (rs:List Rn) (id:Int):Int:=match rs.findIdx? (fun r=>r.id==id) with
 |some k=>k
 |none=>-1
def qF (y:Yd) (id:Int):Int:=if 8<y.runs.length then -1 else jfH y.runs id
theorem jbH {rs:List Rn} {id:Int} {k:Nat} {x:Rn} (hx:rs[k]?=some x) (h:x.id=id) (hno:∀j,j<k→∀z,rs[j]?=some z→z.id≠id):jfH rs id=k:=by
 have hk:k<rs.length:=(List.getElem?_eq_some_iff.1 hx).1
 have:rs.findIdx? (fun r=>r.id==id)=some k:=by
  rw [List.findIdx?_eq_some_iff_getElem];refine ⟨hk,?_,fun j hj=>?_⟩
  ·rw [List.getElem?_eq_getElem hk] at hx
   simp only [Option.some.injEq] at hx;simp [hx,h]
  ·have:=hno j hj rs[j] (List.getElem?_eq_getElem (by omega))
   simpa using this
 simp [jfH,this]
theorem jc4 {rs:List Rn} {id:Int} (hno:∀j,j<rs.length→∀z,rs[j]?=some z→z.id≠id):jfH rs id=-1:=by
 have:rs.findIdx? (fun r=>r.id==id)=none:=by
  rw [List.findIdx?_eq_none_iff];intro x hx;obtain ⟨j,hj,rfl⟩:=List.getElem_of_mem hx;simpa using hno j hj rs[j] (List.getElem?_eq_getElem hj)
 simp [jfH,this]
theorem ji6 (rs:List Rn) (id:Int):(∃(k:Nat) (x:Rn),rs[k]?=some x∧x.id=id∧(∀j,j<k→∀z,rs[j]?=some z→z.id≠id)∧jfH rs id=k)∨((∀x∈rs,x.id≠id)∧jfH rs id=-1):=by
 cases h:rs.findIdx? (fun r=>r.id==id) with
 |none=>
  right;rw [List.findIdx?_eq_none_iff] at h;have h':∀x∈rs,x.id≠id:=fun x hx=>by simpa using h x hx
  exact ⟨h',jc4 fun j hj z hz=>h' z (List.mem_of_getElem? hz)⟩
 |some k=>
  left;rw [List.findIdx?_eq_some_iff_getElem] at h;obtain ⟨hk,h1,h2⟩:=h;have hx:rs[k]?=some rs[k]:=List.getElem?_eq_getElem hk;have h1':rs[k].id=id:=by simpa using h1
  have hno:∀j,j<k→∀z,rs[j]?=some z→z.id≠id:=fun j hj z hz=>by
   have:=h2 j hj;rw [List.getElem?_eq_getElem (by omega)] at hz
   simp only [Option.some.injEq] at hz;subst hz;simpa using this
  exact ⟨k,rs[k],hx,h1',hno,jbH hx h1' hno⟩
def jeI (y:Yd) (id task:Int):Option Tk:=
 if qF y id<0 then none else match y.runs[(qF y id).toNat]? with
 |some r=>if 0≤task then r.tasks[task.toNat]? else none
 |none=>none
def vB (y:Yd) (e:En):Bool:=match jeI y e.run e.task with
 |some t=>t.state==2
 |none=>false
theorem jdH (y:Yd) (id task:Int):(qF y id=-1∧jeI y id task=none)∨
 (∃(k:Nat) (r:Rn),qF y id=k∧y.runs[k]?=some r∧((¬(0≤task∧task≤(r.tasks.length:Int)-1)∧jeI y id task=none)∨
  (∃(j:Nat) (t:Tk),task=j∧r.tasks[j]?=some t∧jeI y id task=some t))):=by
 have h1:qF y id=-1∨∃(k:Nat) (r:Rn),qF y id=k∧y.runs[k]?=some r:=by
  unfold qF;split
  ·exact .inl rfl
  ·rcases ji6 y.runs id with ⟨k,x,hx,_,_,he⟩|⟨_,he⟩
   ·exact .inr ⟨k,x,he,hx⟩
   ·exact .inl he
 rcases h1 with h|⟨k,r,h,hr⟩
 ·exact .inl ⟨h,by unfold jeI;rw [if_pos (by omega)]⟩
 ·right
  refine ⟨k,r,h,hr,?_⟩
  have e:jeI y id task=if 0≤task then r.tasks[task.toNat]? else none:=by
   unfold jeI;rw [if_neg (by omega),h,Int.toNat_natCast,hr]
  by_cases h0:0≤task
  ·rw [if_pos h0] at e
   by_cases hl:task.toNat<r.tasks.length
   ·right
    exact ⟨task.toNat,r.tasks[task.toNat],by omega,List.getElem?_eq_getElem hl,by rw [e,List.getElem?_eq_getElem hl]⟩
   ·left
    exact ⟨by omega,by rw [e,List.getElem?_eq_none (by omega)]⟩
  ·left
   rw [if_neg h0] at e;exact ⟨by omega,e⟩
def vJ (r:Rn):Nat:=if r.state=1 then r.tasks.length else 0
def kT (y:Yd) (l:List En):Nat:=l.countP (fun e=>!vB y e)
def jaU (y:Yd):List En:=y.shelf.flatten
def vu (y:Yd):Int:=jP vJ y.runs+kT y (jaU y)
theorem jhE (l:List Rn):jP vJ l≤jP jac l:=by
 induction l with
 |nil=>simp [jP]
 |cons r l ih=>
  have h:vJ r≤jac r:=by unfold vJ jac;split<;>omega
  simp only [jP,List.map_cons,List.sum_cons] at*;omega
theorem ql (l:List (List En)):l.flatten.length=jP vM l:=by
 induction l with
 |nil=>simp [jP]
 |cons r l ih=>simp only [List.flatten_cons,List.length_append,jP,List.map_cons,List.sum_cons,vM] at*;omega
theorem jkd (y:Yd) (l:List En):kT y l≤l.length:=List.countP_le_length
theorem jf8 {y:Yd} {l:List En} {k:Nat} {e:En} (h:l[k]?=some e):kT y (l.take (k+1))=kT y (l.take k)+(if vB y e then 0 else 1):=by
 unfold kT;rw [List.take_add_one,h,List.countP_append];cases hf:vB y e<;>simp [hf]
theorem jf7 (y:Yd) (l:List En) (k:Nat):kT y (l.take k)≤kT y l:=by
 unfold kT;exact (List.take_sublist k l).countP_le
theorem zm {l:List (List En)} {k:Nat} {es:List En} (h:l[k]?=some es):(l.take (k+1)).flatten=(l.take k).flatten++es:=by
 rw [List.take_add_one,h,List.flatten_append];simp
end Go.Proofs.Ytmnpailnelmpiaa
