/- Parts. -/
import Derived.Test.YtmnpailnelmpiaaGreatQBase2
set_option linter.unusedSimpArgs false
set_option linter.unusedVariables false
namespace Go.Proofs.YtmnpailnelmpiaaGreat
open Go.RowKit
structure Ed where
 src:Int
 dst:Int
 deriving DecidableEq,Inhabited
structure Pl where
 prio:Int
 most:Int
 wait:Int
 tasks:Int
 edges:List Ed
 deriving DecidableEq,Inhabited
structure En where
 prio:Int
 seq:Int
 run:Int
 task:Int
 deriving DecidableEq,Inhabited
structure Tk where
 state:Int
 need:Int
 tri:Int
 til:Int
 deriving DecidableEq,Inhabited
structure Rn where
 id:Int
 plan:Pl
 state:Int
 tasks:List Tk
 deriving DecidableEq,Inhabited
structure Yd where
 now:Int
 seq:Int
 shelf:List (List En)
 runs:List Rn
 deriving DecidableEq,Inhabited
structure Dd where
 kind:Int
 run:Int
 plan:Pl
 task:Int
 tri:Int
 worker:Int
 draw:Int
 deriving DecidableEq,Inhabited
structure Nt where
 seq:Int
 deed:Dd
 deriving DecidableEq,Inhabited
abbrev tEdS:TypeId:=69
abbrev tTkS:TypeId:=106
abbrev jyw:TypeId:=35
abbrev tSh:TypeId:=34
abbrev tEd:TypeId:=253
abbrev tEn:TypeId:=111
abbrev tTk:TypeId:=172
abbrev tRn:TypeId:=108
abbrev jng:TypeId:=102
abbrev tYd:TypeId:=37
abbrev tPl:TypeId:=71
abbrev jfx:TypeId:=3
abbrev iv (n:Int):D:=.val (.int .i64 n)
def jh (l:List Int):D:=.sl 1 jfx (l.flatMap fun n=>[iv n])
def jH (e:Ed):List D:=[iv e.src,iv e.dst]
def jC (l:List Ed):D:=.sl 2 tEd (l.flatMap jH)
def ja (p:Pl):List D:=[iv p.prio,iv p.most,iv p.wait,iv p.tasks,jC p.edges]
def jf (e:En):List D:=[iv e.prio,iv e.seq,iv e.run,iv e.task]
def ji (l:List En):D:=.sl 4 tEn (l.flatMap jf)
def jm (t:Tk):List D:=[iv t.state,iv t.need,iv t.tri,iv t.til]
def jw (l:List Tk):D:=.sl 4 tTk (l.flatMap jm)
def jd (r:Rn):List D:=iv r.id::(ja r.plan++[iv r.state,jw r.tasks])
def jM (l:List Rn):D:=.sl 8 tRn (l.flatMap jd)
def ko (l:List (List En)):D:=.sl 1 jng (l.flatMap fun es=>[ji es])
def jb (y:Yd):List D:=[iv y.now,iv y.seq,ko y.shelf,jM y.runs]
def jg (d:Dd):List D:=iv d.kind::iv d.run::(ja d.plan++[iv d.task,iv d.tri,iv d.worker,iv d.draw])
def kC (n:Nt):List D:=iv n.seq::jg n.deed
section
variable {w:World} {own:Bool} {vs:List Value} {v:Value} {S:List Nat}
theorem qo {e:En} (h:RepL w own (jf e) vs S):vs=[.int .i64 e.prio,.int .i64 e.seq,.int .i64 e.run,.int .i64 e.task]∧S=[]:=by
 obtain ⟨_,rfl,g1⟩:=RepL.val_inv h;obtain ⟨_,rfl,g2⟩:=RepL.val_inv g1;obtain ⟨_,rfl,g3⟩:=RepL.val_inv g2;obtain ⟨_,rfl,g4⟩:=RepL.val_inv g3;obtain ⟨rfl,rfl⟩:=g4;exact ⟨rfl,rfl⟩
theorem qy {e:Tk} (h:RepL w own (jm e) vs S):vs=[.int .i64 e.state,.int .i64 e.need,.int .i64 e.tri,.int .i64 e.til]∧S=[]:=by
 obtain ⟨_,rfl,g1⟩:=RepL.val_inv h;obtain ⟨_,rfl,g2⟩:=RepL.val_inv g1;obtain ⟨_,rfl,g3⟩:=RepL.val_inv g2;obtain ⟨_,rfl,g4⟩:=RepL.val_inv g3;obtain ⟨rfl,rfl⟩:=g4;exact ⟨rfl,rfl⟩
theorem vW {e:Ed} (h:RepL w own (jH e) vs S):vs=[.int .i64 e.src,.int .i64 e.dst]∧S=[]:=by
 obtain ⟨_,rfl,g1⟩:=RepL.val_inv h;obtain ⟨_,rfl,g2⟩:=RepL.val_inv g1;obtain ⟨rfl,rfl⟩:=g2;exact ⟨rfl,rfl⟩
theorem qL {p:Pl} (h:RepL w own (ja p) vs S):∃ev,vs=[.int .i64 p.prio,.int .i64 p.most,.int .i64 p.wait,.int .i64 p.tasks,ev]∧Rep w own (jC p.edges) ev S:=by
 obtain ⟨_,rfl,g1⟩:=RepL.val_inv h;obtain ⟨_,rfl,g2⟩:=RepL.val_inv g1;obtain ⟨_,rfl,g3⟩:=RepL.val_inv g2;obtain ⟨_,rfl,g4⟩:=RepL.val_inv g3;obtain ⟨ev,_,S1,S2,rfl,rfl,h1,rfl,rfl⟩:=g4;exact ⟨ev,rfl,by simpa using h1⟩
theorem ke {r:Rn} (h:RepL w own (jd r) vs S):∃ev tv S1 S2,vs=[.int .i64 r.id,.int .i64 r.plan.prio,.int .i64 r.plan.most,.int .i64 r.plan.wait,.int .i64 r.plan.tasks,ev,.int .i64 r.state,tv]
 ∧Rep w own (jC r.plan.edges) ev S1∧Rep w own (jw r.tasks) tv S2∧S=S1++S2:=by
 obtain ⟨_,rfl,g1⟩:=RepL.val_inv h;obtain ⟨v1,v2,S1,S2,rfl,rfl,h1,h2⟩:=RepL.append_inv _ g1;obtain ⟨ev,rfl,k1⟩:=qL h1;obtain ⟨_,rfl,g2⟩:=RepL.val_inv h2;obtain ⟨tv,_,S3,S4,rfl,rfl,h3,rfl,rfl⟩:=g2;exact ⟨ev,tv,S1,S3,rfl,k1,h3,by simp⟩
theorem kY {y:Yd} (h:RepL w own (jb y) vs S):∃sv rv S1 S2,vs=[.int .i64 y.now,.int .i64 y.seq,sv,rv]∧Rep w own (ko y.shelf) sv S1∧Rep w own (jM y.runs) rv S2∧S=S1++S2:=by
 obtain ⟨_,rfl,g1⟩:=RepL.val_inv h;obtain ⟨_,rfl,g2⟩:=RepL.val_inv g1;obtain ⟨sv,_,S1,S2,rfl,rfl,h1,k⟩:=g2;obtain ⟨rv,_,S3,S4,rfl,rfl,h3,rfl,rfl⟩:=k;exact ⟨sv,rv,S1,S3,rfl,h1,h3,by simp⟩
theorem jbh {d:Dd} (h:RepL w own (jg d) vs S):∃ev,vs=[.int .i64 d.kind,.int .i64 d.run,.int .i64 d.plan.prio,.int .i64 d.plan.most,.int .i64 d.plan.wait,.int .i64 d.plan.tasks,ev,.int .i64 d.task,.int .i64 d.tri,.int .i64 d.worker,.int .i64 d.draw]
 ∧Rep w own (jC d.plan.edges) ev S:=by
 obtain ⟨_,rfl,g1⟩:=RepL.val_inv h;obtain ⟨_,rfl,g2⟩:=RepL.val_inv g1;obtain ⟨v1,v2,S1,S2,rfl,rfl,h1,h2⟩:=RepL.append_inv _ g2;obtain ⟨ev,rfl,k1⟩:=qL h1;obtain ⟨_,rfl,g3⟩:=RepL.val_inv h2;obtain ⟨_,rfl,g4⟩:=RepL.val_inv g3;obtain ⟨_,rfl,g5⟩:=RepL.val_inv g4;obtain ⟨_,rfl,g6⟩:=RepL.val_inv g5;obtain ⟨rfl,rfl⟩:=g6;exact ⟨ev,rfl,by simpa using k1⟩
theorem jjk (w:World) (own:Bool) (e:En):RepL w own (jf e) [.int .i64 e.prio,.int .i64 e.seq,.int .i64 e.run,.int .i64 e.task] []:=RepL.val_ (RepL.val_ (RepL.val_ (RepL.val_ RepL.nil_)))
theorem jpA (w:World) (own:Bool) (e:Tk):RepL w own (jm e) [.int .i64 e.state,.int .i64 e.need,.int .i64 e.tri,.int .i64 e.til] []:=RepL.val_ (RepL.val_ (RepL.val_ (RepL.val_ RepL.nil_)))
theorem jvp (w:World) (own:Bool) (e:Ed):RepL w own (jH e) [.int .i64 e.src,.int .i64 e.dst] []:=RepL.val_ (RepL.val_ RepL.nil_)
theorem jdP {p:Pl} {ev:Value} (h:Rep w own (jC p.edges) ev S):RepL w own (ja p) [.int .i64 p.prio,.int .i64 p.most,.int .i64 p.wait,.int .i64 p.tasks,ev] S:=by
 have:=RepL.val_ (u:=.int .i64 p.prio) (RepL.val_ (u:=.int .i64 p.most) (RepL.val_ (u:=.int .i64 p.wait) (RepL.val_ (u:=.int .i64 p.tasks) (RepL.cons_ h (RepL.nil_ (w:=w) (own:=own))))))
 rwa [List.append_nil] at this
theorem jiY {r:Rn} {ev tv:Value} {S1 S2:List Nat} (h:Rep w own (jC r.plan.edges) ev S1) (h2:Rep w own (jw r.tasks) tv S2):
 RepL w own (jd r) [.int .i64 r.id,.int .i64 r.plan.prio,.int .i64 r.plan.most,.int .i64 r.plan.wait,.int .i64 r.plan.tasks,ev,.int .i64 r.state,tv] (S1++S2):=by
 have:=RepL.val_ (u:=.int .i64 r.id) (RepL.append_ _ (jdP h) (RepL.val_ (u:=.int .i64 r.state) (RepL.cons_ h2 (RepL.nil_ (w:=w) (own:=own)))))
 rwa [List.append_nil] at this
theorem jao {y:Yd} {sv rv:Value} {S1 S2:List Nat} (h:Rep w own (ko y.shelf) sv S1) (h2:Rep w own (jM y.runs) rv S2):
 RepL w own (jb y) [.int .i64 y.now,.int .i64 y.seq,sv,rv] (S1++S2):=by
 have:=RepL.val_ (u:=.int .i64 y.now) (RepL.val_ (u:=.int .i64 y.seq) (RepL.cons_ h (RepL.cons_ h2 (RepL.nil_ (w:=w) (own:=own)))))
 rwa [List.append_nil] at this
theorem jAh {d:Dd} {ev:Value} (h:Rep w own (jC d.plan.edges) ev S):RepL w own (jg d) [.int .i64 d.kind,.int .i64 d.run,.int .i64 d.plan.prio,.int .i64 d.plan.most,.int .i64 d.plan.wait,.int .i64 d.plan.tasks,ev,.int .i64 d.task,.int .i64 d.tri,.int .i64 d.worker,.int .i64 d.draw] S:=by
 have:=RepL.val_ (u:=.int .i64 d.kind) (RepL.val_ (u:=.int .i64 d.run) (RepL.append_ _ (jdP h) (RepL.val_ (u:=.int .i64 d.task) (RepL.val_ (u:=.int .i64 d.tri) (RepL.val_ (u:=.int .i64 d.worker) (RepL.val_ (u:=.int .i64 d.draw) (RepL.nil_ (w:=w) (own:=own))))))))
 rwa [List.append_nil] at this
theorem js9 (r:Rn):(jd r).length=8:=rfl
end
theorem jcK {α:Type} {l m:List α} {k:Nat} {x:α} (hx:l[k]?=some x) (hy:m[k]?=some x) (h:l.take k=m.take k):l.take (k+1)=m.take (k+1):=by
 rw [List.take_add_one,List.take_add_one,h,hx,hy]
theorem jj3 {α:Type} {l m:List α} {k:Nat} {x y:α} (hx:l[k]?=some x) (hy:m[k]?=some y) (h:x≠y):l≠m:=by
 intro e;subst e;rw [hx] at hy;exact h (Option.some.inj hy)
theorem jcL {α:Type} {l m:List α} {k:Nat} (hl:l.length≤k) (hm:m.length≤k) (h:l.take k=m.take k):l=m:=by
 rwa [List.take_of_length_le hl,List.take_of_length_le hm] at h
theorem je {α:Type} {l:List α} {k:Nat} (h:k<l.length):∃x,l[k]?=some x:=⟨l[k],List.getElem?_eq_getElem h⟩
theorem jz {b b':Bool} (h:b=b'):Ending.returned (.bool b)=Ending.returned (.bool b'):=by rw [h]
theorem jik {P:Program} {e:TypeId} {size bytes:Nat} {z:Value} (h:(P.info? e).map (fun i=>(i.zero,i.size,i.bytes))=some (some z,size,bytes)):
 ∃i zv,P.info? e=some i∧i.zero=some zv∧zv.cells=z.cells∧i.size=size∧i.bytes=bytes:=by
 cases hq:P.info? e with
 |none=>rw [hq] at h;simp at h
 |some i=>
  rw [hq] at h;simp at h;exact ⟨i,z,rfl,h.1,rfl,h.2.1,h.2.2⟩
def jhC {α:Type} (l:List α) (z:α) (k:Nat):List α:=l.take k++List.replicate (l.length-k) z
theorem jb1 {α:Type} (l:List α) (z:α):jhC l z 0=List.replicate l.length z:=by simp [jhC]
theorem vV {α:Type} (l:List α) (z:α) (k:Nat) (h:k≤l.length):(jhC l z k).length=l.length:=by simp [jhC];omega
theorem jeD {α:Type} (l:List α) (z:α):jhC l z l.length=l:=by simp [jhC]
theorem jeC {α:Type} {l:List α} {z x:α} {k:Nat} (hx:l[k]?=some x):(jhC l z k).set k x=jhC l z (k+1):=by
 have hk:k<l.length:=(List.getElem?_eq_some_iff.1 hx).1;have hx':l[k]=x:=by rw [List.getElem?_eq_getElem hk] at hx;exact Option.some.inj hx
 unfold jhC;rw [List.set_append_right _ _ (by rw [List.length_take];exact Nat.min_le_left _ _),List.length_take,Nat.min_eq_left (by omega),Nat.sub_self]
 obtain ⟨m,hm⟩:∃m,l.length-k=m+1:=⟨l.length-k-1,by omega⟩
 rw [hm,List.replicate_succ,List.set_cons_zero,List.take_succ_eq_append_getElem hk,hx',List.append_assoc,show l.length-(k+1)=m by omega]
 rfl
theorem cb {P:Program} {f:FuncId} {args:Array Value} {w:World} {b b':Bool} (h:Calls P f args w fun e w'=>e=.returned (.bool b)∧Below w.heap.size w w') (hb:b=b'):Calls P f args w fun e w'=>e=.returned (.bool b')∧Below w.heap.size w w':=by subst hb;exact h
theorem kU {W w1:World} (hb:Below W.heap.size W w1):(∀b o,b<W.heap.size→w1.cell? ⟨b,o,none⟩=W.cell? ⟨b,o,none⟩)∧(∀b o,b<W.heap.size→w1.frozen? ⟨b,o,none⟩=W.frozen? ⟨b,o,none⟩):=
 ⟨fun b o h=>hb.cell (p:=⟨b,o,none⟩) h,fun b o h=>hb.frozen (p:=⟨b,o,none⟩) h⟩
theorem jcH {w:World} {own:Bool} {d:D} {v:Value} {S:List Nat} {p:Addr} {u:Value} (h:Rep w own d v S) (hp:∀b∈S,b≠p.block):Rep (w.setCell p u) own d v S:=
 Rep.keep d h fun b hb=>Below.heap_setCell w p u b (hp b hb)
theorem Rep.form {w:World} {own:Bool} {size:Nat} {ty:TypeId} {cs:List D} {v:Value} {S:List Nat} (h:Rep w own (.sl size ty cs) v S):∃A n c,v=.slice A n c:=by
 obtain ⟨vs,T,S',hr,_,_⟩:=h;obtain ⟨_,A,n,c,rfl,_⟩:=hr.ro;exact ⟨A,n,c,rfl⟩
def kt {α:Type} (tot:α→Nat) (l:List α):Nat:=(l.map tot).sum
theorem zW {α:Type} (tot:α→Nat) (l m:List α):kt tot (l++m)=kt tot l+kt tot m:=by simp [kt]
theorem kZ {α:Type} {tot:α→Nat} {l:List α} {k:Nat} {x:α} (h:l[k]?=some x):kt tot (l.take (k+1))=kt tot (l.take k)+tot x:=by
 rw [List.take_add_one,h,zW];simp [kt]
theorem vf {α:Type} (tot:α→Nat) (l:List α) (k:Nat):kt tot (l.take k)≤kt tot l:=by
 conv=>rhs;rw [←List.take_append_drop k l,zW]
 exact Nat.le_add_right _ _
theorem joo {α:Type} {tot:α→Nat} {l:List α} {k:Nat} {x:α} (h:l[k]?=some x):tot x≤kt tot l:=by
 have h1:=kZ (tot:=tot) h;have h2:=vf tot l (k+1);omega
def zK (p:Pl):Nat:=p.edges.length
def kh (r:Rn):Nat:=zK r.plan+r.tasks.length
def kS (l:List En):Nat:=l.length
def vJ (l:List (List En)):Nat:=l.length+kt kS l
def qu (l:List Rn):Nat:=l.length+kt kh l
def jt (y:Yd):Nat:=vJ y.shelf+qu y.runs
def zX (d:Dd):Nat:=zK d.plan
def szf (tot:Nat) (left:Int):Int:=if (tot:Int)≤left then left-tot else -1
theorem kK (tot:Nat) (left:Int):((tot:Int)≤left∧szf tot left=left-tot)∨(left<tot∧szf tot left=-1):=by
 unfold szf;split
 ·exact .inl ⟨by assumption,rfl⟩
 ·exact .inr ⟨by omega,rfl⟩
theorem ql {a b:Int} (h:a=b):Ending.returned (.int .i64 a)=Ending.returned (.int .i64 b):=by rw [h]
theorem juL {α:Type} {enc:α→List D} {w:World} {ty:TypeId} {xs:List α} {S:List Nat} {g n c k:Nat} (hl:∀x,(enc x).length=1) (h:Rep w true (.sl 1 ty (xs.flatMap enc)) (.slice (some ⟨g,0,none⟩) n c) S) (hk:k<xs.length):
 (∃u,w.cell? ⟨g,k,none⟩=some u)∧w.frozen? ⟨g,k,none⟩=false:=by
 obtain ⟨vs,S1,hown,hrl,rfl⟩:=Rep.own hl (by decide) h
 have hn:n=xs.length:=by
  rcases hown.2 with ⟨e,_⟩|⟨g',cap',cur,e,_⟩
  ·cases e
  ·simp only [Value.slice.injEq] at e;exact e.2.1
 subst hn;have:=jeq hown k 1 (by omega) 0 (by omega)
 exact ⟨Option.isSome_iff_exists.1 (by simpa using this.1),by simpa using this.2⟩
def jfA (rs:List Rn) (id:Int):Int:=match rs.findIdx? (fun r=>r.id==id) with
 |some k=>k
 |none=>-1
def runAt (y:Yd) (id:Int):Int:=if 8<y.runs.length then -1 else jfA y.runs id
theorem jdK {rs:List Rn} {id:Int} {k:Nat} {x:Rn} (hx:rs[k]?=some x) (h:x.id=id) (hno:∀j,j<k→∀z,rs[j]?=some z→z.id≠id):jfA rs id=k:=by
 have hk:k<rs.length:=(List.getElem?_eq_some_iff.1 hx).1
 have:rs.findIdx? (fun r=>r.id==id)=some k:=by
  rw [List.findIdx?_eq_some_iff_getElem];refine ⟨hk,?_,fun j hj=>?_⟩
  ·rw [List.getElem?_eq_getElem hk] at hx
   simp only [Option.some.injEq] at hx;simp [hx,h]
  ·have:=hno j hj rs[j] (List.getElem?_eq_getElem (by omega))
   simpa using this
 simp [jfA,this]
theorem jfz {rs:List Rn} {id:Int} (hno:∀j,j<rs.length→∀z,rs[j]?=some z→z.id≠id):jfA rs id=-1:=by
 have:rs.findIdx? (fun r=>r.id==id)=none:=by
  rw [List.findIdx?_eq_none_iff];intro x hx;obtain ⟨j,hj,rfl⟩:=List.getElem_of_mem hx;simpa using hno j hj rs[j] (List.getElem?_eq_getElem hj)
 simp [jfA,this]
theorem jhX (rs:List Rn) (id:Int):(∃(k:Nat) (x:Rn),rs[k]?=some x∧x.id=id∧(∀j,j<k→∀z,rs[j]?=some z→z.id≠id)∧jfA rs id=k)∨((∀x∈rs,x.id≠id)∧jfA rs id=-1):=by
 cases h:rs.findIdx? (fun r=>r.id==id) with
 |none=>
  right;rw [List.findIdx?_eq_none_iff] at h;have h':∀x∈rs,x.id≠id:=fun x hx=>by simpa using h x hx
  exact ⟨h',jfz fun j hj z hz=>h' z (List.mem_of_getElem? hz)⟩
 |some k=>
  left;rw [List.findIdx?_eq_some_iff_getElem] at h;obtain ⟨hk,h1,h2⟩:=h;have hx:rs[k]?=some rs[k]:=List.getElem?_eq_getElem hk;have h1':rs[k].id=id:=by simpa using h1
  have hno:∀j,j<k→∀z,rs[j]?=some z→z.id≠id:=fun j hj z hz=>by
   have:=h2 j hj;rw [List.getElem?_eq_getElem (by omega)] at hz
   simp only [Option.some.injEq] at hz;subst hz;simpa using this
  exact ⟨k,rs[k],hx,h1',hno,jdK hx h1' hno⟩
def jc2 (y:Yd) (id task:Int):Option Tk:=
 if runAt y id<0 then none else match y.runs[(runAt y id).toNat]? with
 |some r=>if 0≤task then r.tasks[task.toNat]? else none
 |none=>none
def kn (y:Yd) (e:En):Bool:=match jc2 y e.run e.task with
 |some t=>t.state==2
 |none=>false
def vL (y:Yd) (id task tri:Int):Bool:=match jc2 y id task with
 |some t=>t.state==3&&t.tri==tri
 |none=>false
theorem vC (y:Yd) (id task:Int):(runAt y id=-1∧jc2 y id task=none)∨
 (∃(k:Nat) (r:Rn),runAt y id=k∧y.runs[k]?=some r∧((¬(0≤task∧task≤(r.tasks.length:Int)-1)∧jc2 y id task=none)∨
  (∃(j:Nat) (t:Tk),task=j∧r.tasks[j]?=some t∧jc2 y id task=some t))):=by
 have h1:runAt y id=-1∨∃(k:Nat) (r:Rn),runAt y id=k∧y.runs[k]?=some r:=by
  unfold runAt;split
  ·exact .inl rfl
  ·rcases jhX y.runs id with ⟨k,x,hx,_,_,he⟩|⟨_,he⟩
   ·exact .inr ⟨k,x,he,hx⟩
   ·exact .inl he
 rcases h1 with h|⟨k,r,h,hr⟩
 ·exact .inl ⟨h,by unfold jc2;rw [if_pos (by omega)]⟩
 ·right
  refine ⟨k,r,h,hr,?_⟩
  have e:jc2 y id task=if 0≤task then r.tasks[task.toNat]? else none:=by
   unfold jc2;rw [if_neg (by omega),h,Int.toNat_natCast,hr]
  by_cases h0:0≤task
  ·rw [if_pos h0] at e
   by_cases hl:task.toNat<r.tasks.length
   ·right
    exact ⟨task.toNat,r.tasks[task.toNat],by omega,List.getElem?_eq_getElem hl,by rw [e,List.getElem?_eq_getElem hl]⟩
   ·left
    exact ⟨by omega,by rw [e,List.getElem?_eq_none (by omega)]⟩
  ·left
   rw [if_neg h0] at e;exact ⟨by omega,e⟩
def jah (r:Rn):Nat:=if r.state=1 then r.tasks.length else 0
def qJ (y:Yd) (l:List En):Nat:=l.countP (fun e=>!kn y e)
def ja6 (y:Yd):List En:=y.shelf.flatten
def qk (y:Yd):Int:=kt jah y.runs+qJ y (ja6 y)
def zZ (y:Yd) (p:Pl):Bool:=decide (y.runs.length<8)&&(decide (0≤p.tasks∧p.tasks≤12)&&(decide (qk y+p.tasks≤40)&&decide (y.seq≤1000000000-1000-p.tasks)))
theorem jhK (l:List Rn):kt jah l≤kt kh l:=by
 induction l with
 |nil=>simp [kt]
 |cons r l ih=>
  have h:jah r≤kh r:=by unfold jah kh;split<;>omega
  simp only [kt,List.map_cons,List.sum_cons] at*;omega
theorem qR (l:List (List En)):l.flatten.length=kt kS l:=by
 induction l with
 |nil=>simp [kt]
 |cons r l ih=>simp only [List.flatten_cons,List.length_append,kt,List.map_cons,List.sum_cons,kS] at*;omega
theorem jkn (y:Yd) (l:List En):qJ y l≤l.length:=List.countP_le_length
theorem jjE {y:Yd} {l:List En} {k:Nat} {e:En} (h:l[k]?=some e):qJ y (l.take (k+1))=qJ y (l.take k)+(if kn y e then 0 else 1):=by
 unfold qJ;rw [List.take_add_one,h,List.countP_append];cases hf:kn y e<;>simp [hf]
theorem jjD (y:Yd) (l:List En) (k:Nat):qJ y (l.take k)≤qJ y l:=by
 unfold qJ;exact (List.take_sublist k l).countP_le
theorem jaX {l:List (List En)} {k:Nat} {es:List En} (h:l[k]?=some es):(l.take (k+1)).flatten=(l.take k).flatten++es:=by
 rw [List.take_add_one,h,List.flatten_append];simp
end Go.Proofs.YtmnpailnelmpiaaGreat
