/- Parts. -/
import Derived.Test.YtmnpailnelmpiaaGreatQDeedB
import Derived.Test.YtmnpailnelmpiaaGreatQSub
import Derived.Laws.Strings
import Derived.Lib.SliceRun
import Derived.Deep.RegionLaw
set_option linter.unusedSimpArgs false
set_option linter.unusedVariables false
set_option maxHeartbeats 8000000
set_option maxRecDepth 100000
namespace Go.Proofs.YtmnpailnelmpiaaGreat
open Go.RowKit Go.Sort
abbrev jcB (l:List UInt8):D:=.sl 1 5 (l.map qY)
theorem jak (l:List UInt8):(jcB l).len=l.length:=by simp [D.len,D.cells,D.size]
noncomputable def jau (r:Rn):Rn:=if (kF r&&r.state==1)=true then ⟨r.id,r.plan,4,qV jA r.tasks r.tasks.length⟩ else r
theorem jim {r:Rn} (h:(kF r&&r.state==1)=false):jau r=r:=by simp [jau,h]
theorem jnm {r:Rn} (h:(kF r&&r.state==1)=true):jau r=⟨r.id,r.plan,4,qV jA r.tasks r.tasks.length⟩:=by simp [jau,h]
theorem jAt {r:Rn} (h:RunOkP r) (h1:r.state=1):cS 5 r.tasks=0:=by
 have h2:=h.state;rw [h1] at h2;unfold jf6 at h2;split at h2
 ·omega
 split at h2
 ·omega
 split at h2
 ·omega
 split at h2
 ·rename_i h3;exact h3.1
 ·omega
theorem jrE {ts:List Tk} (h:cS 5 ts=0) (k:Nat):qV (qk (-1)) ts k=qV jA ts k:=by
 refine jkM (fun j y hy=>?_) k
 have h5:y.state≠5:=jqx h hy;have hj:(j:Int)≠-1:=by omega
 simp [qk,jA,h5,hj]
def jg8 (y:Yd) (k:Nat) (r:Rn):Yd:=⟨y.now,y.seq,y.shelf,y.runs.set k r⟩
noncomputable def qb (y:Yd) (id:Int):Int:=if jC y=false then 8 else if runAt y id<0 then 10 else if ((y.runs[(runAt y id).toNat]?).getD default).state=1 then 0 else 12
noncomputable def kT (y:Yd) (id:Int):Yd:=if qb y id=0 then jg8 y (runAt y id).toNat (jau ((y.runs[(runAt y id).toNat]?).getD default)) else y
def kL (y:Yd) (k:Nat) (r:Rn):Yd:=jrF ⟨y.now,y.seq,y.shelf,y.runs.set k r⟩ r (vO ((y.runs[k]?).getD default).tasks r.tasks r.tasks.length)
def jbt (l:List Rn) (k:Nat) (row:List D):List D:=(l.take k).flatMap jd++(row++(l.drop (k+1)).flatMap jd)
abbrev rnV (r:Rn) (x5 x7:Value):List D:=[.val (.int .i64 r.id),.val (.int .i64 r.plan.prio),.val (.int .i64 r.plan.most),.val (.int .i64 r.plan.wait),.val (.int .i64 r.plan.tasks),.val x5,.val (.int .i64 r.state),.val x7]
section
variable {l:List Rn} {k:Nat} {r:Rn} {row row':List D}
theorem qE (hk:k<l.length):((l.take k).flatMap jd).length=k*8:=by rw [jge,List.length_take,Nat.min_eq_left (Nat.le_of_lt hk)]
theorem jls (h:l[k]?=some r):l.flatMap jd=jbt l k (jd r):=ja3 (enc:=jd) h
theorem jaC (hk:k<l.length) (j:Nat) (hj:j<row.length):(jbt l k row)[k*8+j]?=row[j]?:=by
 rw [jbt,List.getElem?_append_right (by rw [qE hk];omega),qE hk,Nat.add_sub_cancel_left,List.getElem?_append_left hj]
theorem zT (hk:k<l.length) (j:Nat) (hj:j<row.length) (d:D):(jbt l k row).set (k*8+j) d=jbt l k (row.set j d):=by
 rw [jbt,List.set_append_right _ _ (by rw [qE hk];omega),qE hk,Nat.add_sub_cancel_left,List.set_append_left _ _ hj];rfl
theorem js2 (hk:k<l.length) (h8:row.length=8):((jbt l k row).drop (k*8)).take 8=row:=by
 rw [jbt,List.drop_append_of_le_length (by rw [qE hk];exact Nat.le_refl _),List.drop_eq_nil_of_le (by rw [qE hk];exact Nat.le_refl _),List.nil_append,←h8,List.take_left]
theorem jig (hk:k<l.length) (h8:row.length=8):(jbt l k row).length=l.length*8:=by
 have h1:=jge (l.drop (k+1));rw [List.length_drop] at h1;rw [jbt,List.length_append,List.length_append,qE hk,h1,h8];omega
theorem jvt (hk:k<l.length) (h8:row.length=8) (h8':row'.length=8):kC (jbt l k row) (k*8) row'=jbt l k row':=by
 have h1:=qE hk;have h2:=jig hk h8;rw [kQ _ _ _ (by rw [h2,h8'];omega),jbt,List.take_left' h1,h8']
 have:((l.take k).flatMap jd++(row++(l.drop (k+1)).flatMap jd)).drop (k*8+8)=(l.drop (k+1)).flatMap jd:=by
  rw [←List.append_assoc];exact List.drop_left' (by rw [List.length_append,h1,h8])
 rw [this,jbt,List.append_assoc]
theorem jmV (hk:k<l.length) (h8:row.length=8):(D.sl 8 tRn (jbt l k row)).len=l.length:=by
 simp only [D.len,D.cells,D.size,jig hk h8];exact Nat.mul_div_cancel _ (by decide)
theorem jlr (hk:k<l.length):D.sl 8 tRn (jbt l k (jd r))=jO (l.set k r):=by
 have h1:(l.set k r)[k]?=some r:=List.getElem?_set_self hk;have h2:=jls h1
 have h3:jbt (l.set k r) k (jd r)=jbt l k (jd r):=by
  rw [jbt,jbt,List.take_set_of_le (Nat.le_refl _),List.drop_set_of_lt (Nat.lt_succ_self k)]
 rw [jO,h2,h3]
end
theorem jxA {flat:Bool} {p:List Nat} {k n:Nat} {η:jq} {K:jq→Prop} (h:∀η',K η'):stH flat p k n η K:=by
 cases flat with
 |true=>exact h _
 |false=>exact fun η' _=>h η'
theorem jer (r:Rn) (t:Int):(qJ r t).tasks.length=r.tasks.length:=by
 unfold qJ;split
 ·simp only [jhD,jbf]
 ·rfl
theorem kV (r:Rn) (t:Int):(jE r t).tasks.length=r.tasks.length:=by
 unfold jE;split
 ·unfold zb
  split
  ·simp only [List.length_set]
  ·simp only [vV,List.length_set]
 ·rfl
theorem RunOkP.le12 {r:Rn} (h:RunOkP r):r.tasks.length≤12:=by
 obtain ⟨n,h1,_,h2,_⟩:=jck h.plan;have:=h.len;omega
theorem jyf {was ts:List Tk} {k:Nat} {x z:Tk} (h:ts[k]?=some x) (hz:was[k]?=some z):jod was ts k=((x.state==2)&&!(z.state==2)):=by
 have:=(List.getElem?_eq_some_iff.1 hz).1;simp [jod,kv h,kv hz,this]
section
variable {P:Program} {β:Nat} {s:St} {K:St→Prop} {d:Option Nat} {g:Option (Nat×Bool)}
theorem Inl.weak {f:FuncId} {args:List AV} {o:Nat→Ob} {R R':AV→(Nat→Ob)→Prop} (h:Inl P f args o R) (hk:∀av o',R av o'→R' av o'):Inl P f args o R':=
 ⟨h.1,fun B w F xs h1 h2=>(h.2 B w F xs h1 h2).mono fun e w' ⟨v,av,o',F',k1,k2,k3,k4⟩=>⟨v,av,o',F',k1,k2,k3,hk _ _ k4⟩⟩
theorem jky {f:Nat} {args:List X} {R:AV→(Nat→Ob)→Prop} (h:Inl P f (args.map s.ev) s.o R) (hk:∀av o',R av o'→K (St.put ⟨s.t,o'⟩ d av)):vg P β ⟨d,g,.call f args⟩ s K:=kS (h.weak hk)
theorem kM {f:Nat} {args:List X} {vs:List AV} {R:AV→(Nat→Ob)→Prop} (ha:args.map s.ev=vs) (h:Inl P f vs s.o R) (hk:∀av o',R av o'→K (St.put ⟨s.t,o'⟩ d av)):vg P β ⟨d,g,.call f args⟩ s K:=by subst ha;exact jky h hk
theorem jmI (x:A0):x.sim x=True:=by cases x<;>simp [A0.sim]
theorem jmG:∀l:List A0,simL l l=True
 |[]=>rfl
 |x::l=>by simp [simL,jmI,jmG l]
theorem jmF (x:Cell):x.sim x=True:=by cases x<;>simp [Cell.sim,jmI]
theorem jmH:∀l:List Cell,simC l l=True
 |[]=>rfl
 |x::l=>by simp [simC,jmF,jmH l]
theorem jU (x:Ob):x.sim x=True:=by cases x<;>simp [Ob.sim,jmH]
end
abbrev jBi (o o':Nat→Ob):Prop:=o' 92=o 92∧o' 93=o 93∧o' 94=o 94∧o' 95=o 95∧o' 96=o 96∧o' 97=o 97
def EpK (P:Program) (f:FuncId) (k:Nat) (t:Int) (y:Yd) (r2:Rn):Prop:=∀(o:Nat→Ob) (b:Nat) (e2 e3:jq),o 90=kt b tYd y.now y.seq y.shelf e2 y.runs e3→
 Inl P f [.c (.ep 90 3 [] (k*8) (e3 [])),Ni t] o fun av o'=>av=.tup []∧o' 90=kt b tYd y.now y.seq y.shelf e2 (y.runs.set k r2) e3∧o' 91=o 91∧jBi o o'
def juX (P:Program) (f:FuncId) (caps:List A0) (H:Ob) (k:Nat) (y:Yd) (r2:Rn):Prop:=∀(o:Nat→Ob) (b:Nat) (e2 e3:jq),o 90=kt b tYd y.now y.seq y.shelf e2 y.runs e3→o 91=H→
 Turns P f ([.c (.ep 90 3 [] (k*8) (e3 []))]++caps.map .c) o fun rt o'=>rt=.tup []∧o' 90=kt b tYd y.now y.seq y.shelf e2 (y.runs.set k r2) e3∧o' 91=H∧jBi o o'
section
variable {l:List Rn} {k:Nat} {r:Rn}
theorem qZ (h:l[k]?=some r):((l.flatMap jd).drop (k*8+7)).take 1=[jI r.tasks]:=qv (enc:=jd) (size:=8) (fun _=>rfl) h (j:=7) (n:=1) (by decide)
theorem jxh (h:l[k]?=some r):((l.flatMap jd).drop (k*8+6)).take 1=[.val (.int .i64 r.state)]:=qv (enc:=jd) (size:=8) (fun _=>rfl) h (j:=6) (n:=1) (by decide)
theorem jBc (h:l[k]?=some r):((l.flatMap jd).drop (k*8+1)).take 5=ja r.plan:=qv (enc:=jd) (size:=8) (fun _=>rfl) h (j:=1) (n:=5) (by decide)
theorem jBd (h:l[k]?=some r):((l.flatMap jd).drop (k*8+1+1)).take 1=[.val (.int .i64 r.plan.most)]:=qv (enc:=jd) (size:=8) (fun _=>rfl) h (j:=2) (n:=1) (by decide)
theorem vo (h:l[k]?=some r):k*8+7+1≤(l.flatMap jd).length:=qs (enc:=jd) (size:=8) (fun _=>rfl) h (j:=7) (n:=1) (by decide)
theorem jw2 (h:l[k]?=some r):k*8+6+1≤(l.flatMap jd).length:=qs (enc:=jd) (size:=8) (fun _=>rfl) h (j:=6) (n:=1) (by decide)
theorem jAC (h:l[k]?=some r):k*8+1+5≤(l.flatMap jd).length:=qs (enc:=jd) (size:=8) (fun _=>rfl) h (j:=1) (n:=5) (by decide)
theorem jAD (h:l[k]?=some r):k*8+1+1+1≤(l.flatMap jd).length:=qs (enc:=jd) (size:=8) (fun _=>rfl) h (j:=2) (n:=1) (by decide)
theorem jtc (h:l[k]?=some r) (v:Int):D.put [] (k*8+6) [.val (.int .i64 v)] (jO l)=jO (l.set k ⟨r.id,r.plan,v,r.tasks⟩):=ja7 (enc:=jd) (size:=8) (fun _=>rfl) h (j:=6) rfl (by simp [jd,ja])
theorem qK (h:l[k]?=some r) {ts:List Tk} {i:Nat} {ds:List D} (hp:D.put [] i ds (jI r.tasks)=jI ts):D.put [k*8+7] i ds (jO l)=jO (l.set k ⟨r.id,r.plan,r.state,ts⟩):=by
 have hk:=(List.getElem?_eq_some_iff.1 h).1;have h7:(l.flatMap jd)[k*8+7]?=some (jI r.tasks):=joo (j:=7) h (by decide)
 have e:(l.flatMap jd).set (k*8+7) (jI ts)=jbt l k (jd ⟨r.id,r.plan,r.state,ts⟩):=by
  rw [jls h,zT hk 7 (by simp [jd,ja])];rfl
 rw [←jlr hk,←e];simp only [jO,D.put,h7,hp]
end
theorem jyJ {k t:Nat} {y:Yd} {r:Rn} (hr:y.runs[k]?=some r) (hrun:vu r t=true):EpK Tryz.prog 223 k t y (qJ r t):=by
 intro o b10 e2 e3 h10;refine ql (β:=7000000) Tryz.func223 jke (by simp) ?_
 unfold jjA;obtain ⟨t',x,ht',hx,hs,hP⟩:=jaB hrun;obtain rfl:t=t':=by omega
 obtain ⟨n,hn,hn1,h12,h30,hes,hnd,-⟩:=jck hP.plan;have hlen:=hP.len;have hkl:=(List.getElem?_eq_some_iff.1 hr).1;have htl':=(List.getElem?_eq_some_iff.1 hx).1;have h0t:(t:Int)≥0:=by omega
 have hx2:(r.tasks.set t ⟨4,x.need,x.tri,x.til⟩)[t]?=some ⟨4,x.need,x.tri,x.til⟩:=List.getElem?_set_self htl';have htl2:t<(r.tasks.set t ⟨4,x.need,x.tri,x.til⟩).length:=by rw [List.length_set];exact htl'
 have hS:∀r':Rn,(y.runs.set k r')[k]?=some r':=fun r'=>List.getElem?_set_self hkl
 have hr2:=hS ⟨r.id,r.plan,r.state,r.tasks.set t ⟨4,x.need,x.tri,x.til⟩⟩;have hr3:=hS ⟨r.id,r.plan,r.state,r.tasks.set t ⟨4,x.need,x.tri,0⟩⟩;simp only [go_sem,h10,Nat.add_zero,htl',h0t,qZ hr,vo hr,jZ hr,qK hr (jaQ hx 4),qK hr (zu hx 4),vn hx,qy hx,zP hx,vY hx,htl2,qZ hr2,vo hr2,jZ hr2,ji7 hx2,juI hx2,qK hr2 (jes hx2 0),List.set_set,jBc hr3,jAC hr3,ja,kb hr3];refine jc (jiW r.plan t hP.plan) (by simp only [go_sem,jd,ja,jbA hr3,kb hr3]) fun ηb=>?_
 simp only [go_sem,jd,ja,jbA hr3,kb hr3];have hbl:=jqz hn h12 h30 t;have hlD:(vG r.plan r.tasks t x).length=r.tasks.length:=jbf _ _ _ _;have hR:qJ r t=jhD r t x:=jeq hx hrun;generalize hts:r.tasks.set t ⟨4,x.need,x.tri,0⟩=ts0 at*;have htl:ts0.length=r.tasks.length:=by rw [←hts,List.length_set]
 have hdn:vG r.plan r.tasks t x=(jbo r.plan t).foldl jar ts0:=by rw [←hts];rfl
 refine jp (fun i:Nat=>St.of [(0,.c (.ep 90 3 [] (k*8) (e3 []))),(26,Hd 26 (ηb 0)),(27,Ni (jbo r.plan t).length),(28,Ni i)] [(90,kt b10 tYd y.now y.seq y.shelf e2 (y.runs.set k ⟨r.id,r.plan,r.state,((jbo r.plan t).take i).foldl jar ts0⟩) e3),(91,o 91),(92,o 92),(93,o 93),(94,o 94),(95,o 95),(96,o 96),(97,o 97),(26,.loose (jh (jbo r.plan t)) (ηb 0))]) (fun i=>i≤(jbo r.plan t).length) (fun i=>(jbo r.plan t).length-i) 0 (by (try dsimp only);first|omega|(simp;done)|(and_intros<;>first|omega|simp)) (jj [some 90,some 91,some 92,some 93,some 94,some 95,some 96,some 97,some 700002600] (by simp only [go_sem,jd,ja,List.take_zero,List.foldl_nil,jU]<;>and_intros<;>first|rfl|assumption|trivial)) ?_
 rintro j hj;by_cases hlt:j<(jbo r.plan t).length
 ·have hlt':(j:Int)<(jbo r.plan t).length:=by omega
  obtain ⟨v,hv⟩:=je hlt;have hvb:=jpd hn (List.mem_of_getElem? hv);have hfl:=jff ((jbo r.plan t).take j) ts0;have hft:=jkV hv ts0;generalize ((jbo r.plan t).take j).foldl jar ts0=ts at*;have hvl:v.toNat<ts.length:=by omega
  have hv0:=hvb.1;obtain ⟨z,hz0⟩:=je hvl;have hw:IntKind.i64.wrap ((j:Int)+1)=((j+1:Nat):Int):=jg (by omega) (by omega)
  rw [jpu hz0] at hft;generalize hnd':IntKind.i64.wrap (z.need-1)=nd at*;have hy1:(ts.set v.toNat ⟨z.state,nd,z.tri,z.til⟩)[v.toNat]?=some ⟨z.state,nd,z.tri,z.til⟩:=List.getElem?_set_self hvl;have q1:=hS ⟨r.id,r.plan,r.state,ts⟩;have q2:=hS ⟨r.id,r.plan,r.state,ts.set v.toNat ⟨z.state,nd,z.tri,z.til⟩⟩;cases hz:nd==0
  ·have hz':¬nd=0:=by simpa using hz
   rw [if_neg hz'] at hft;simp only [go_sem,jd,ja,Nat.add_zero,hlt,hlt',jk hv,ji hlt,qZ q1,vo q1,jZ q1,hvl,hv0,jqD hz0,jp6 hz0,hnd',qK q1 (jtb hz0 nd),List.set_set,qZ q2,vo q2,jZ q2,jqD hy1,jp6 hy1,hz,hw];exact ⟨j+1,by (try dsimp only);first|omega|assumption|(and_intros<;>first|omega|assumption),(jj [some 90,some 91,some 92,some 93,some 94,some 95,some 96,some 97,some 26] (by simp only [go_sem,jd,ja,hft,jU]<;>and_intros<;>first|rfl|assumption|trivial)),by (try dsimp only);omega⟩
  ·have hz':nd=0:=by simpa using hz
   rw [if_pos hz'] at hft;simp only [go_sem,jd,ja,Nat.add_zero,hlt,hlt',jk hv,ji hlt,qZ q1,vo q1,jZ q1,hvl,hv0,jqD hz0,jp6 hz0,hnd',qK q1 (jtb hz0 nd),List.set_set,qZ q2,vo q2,jZ q2,jqD hy1,jp6 hy1,hz,vn hy1,qy hy1,qK q2 (jaQ hy1 2),qK q2 (zu hy1 2),hw];exact ⟨j+1,by (try dsimp only);first|omega|assumption|(and_intros<;>first|omega|assumption),(jj [some 90,some 91,some 92,some 93,some 94,some 95,some 96,some 97,some 26] (by simp only [go_sem,jd,ja,hft,jU]<;>and_intros<;>first|rfl|assumption|trivial)),by (try dsimp only);omega⟩
 have hlt':¬(j:Int)<(jbo r.plan t).length:=by omega
 rw [List.take_of_length_le (by omega)]
 rw [hR,←hdn];have hrr:jhD r t x=⟨r.id,r.plan,if (qB 4 (vG r.plan r.tasks t x)).length=r.tasks.length then 2 else r.state,vG r.plan r.tasks t x⟩:=rfl
 rw [hrr];generalize vG r.plan r.tasks t x=tD at*;have q3:=hS ⟨r.id,r.plan,r.state,tD⟩;simp only [go_sem,jd,ja,Nat.add_zero,hlt',jg3 q3,jcv q3,qZ q3,vo q3,jZ q3,kn q3,kb q3];refine jc (qo ⟨r.id,r.plan,r.state,tD⟩ 4 (by simp only;omega)) (by simp only [go_sem,jd,ja,kb q3,kn q3,jZ q3]) fun η=>?_
 simp only [go_sem,jd,ja,kb q3,kn q3,jZ q3];rw [←hlD];generalize hq:(qB 4 tD).length=q at*;cases he:(q:Int)==(tD.length:Int)
 ·have he':¬q=tD.length:=jtX he
  rw [if_neg he'];simp only [go_sem,jd,ja,Nat.add_zero,he,hq];exact ⟨rfl,rfl,rfl,rfl,rfl,rfl⟩
 ·have he':q=tD.length:=jtW he
  rw [if_pos he'];simp only [go_sem,jd,ja,Nat.add_zero,he,hq,jxh q3,jw2 q3,jtc q3,List.set_set];exact ⟨rfl,rfl,rfl,rfl,rfl,rfl⟩
theorem jmb {k t:Nat} {y:Yd} {r:Rn} (hr:y.runs[k]?=some r) (hrun:vu r t=true):EpK Tryz.prog 225 k t y (jE r t):=by
 intro o b10 e2 e3 h10;refine ql (β:=7000000) Tryz.func225 jjs (by simp) ?_
 unfold jho;obtain ⟨t',x,ht',hx,hs,hP⟩:=jaB hrun;obtain rfl:t=t':=by omega
 obtain ⟨n,hn,hn1,h12,h30,hes,hnd,-⟩:=jck hP.plan;have hlen:=hP.len;have hkl:=(List.getElem?_eq_some_iff.1 hr).1;have htl':=(List.getElem?_eq_some_iff.1 hx).1;have h0t:(t:Int)≥0:=by omega
 have hx2:(r.tasks.set t ⟨x.state,x.need,x.tri,0⟩)[t]?=some ⟨x.state,x.need,x.tri,0⟩:=List.getElem?_set_self htl';have hS:∀r':Rn,(y.runs.set k r')[k]?=some r':=fun r'=>List.getElem?_set_self hkl
 have q1:=hS ⟨r.id,r.plan,r.state,r.tasks.set t ⟨x.state,x.need,x.tri,0⟩⟩;simp only [go_sem,h10,Nat.add_zero,htl',h0t,qZ hr,vo hr,jZ hr,ji7 hx,juI hx,qK hr (jes hx 0),qZ q1,vo q1,jZ q1,jk6 hx2,jkR hx2,jBd q1,jAD q1];by_cases hm:x.tri<r.plan.most
 ·have hR:jE r t=⟨r.id,r.plan,r.state,r.tasks.set t ⟨2,x.need,x.tri,0⟩⟩:=by rw [qD hx hrun,zb,if_pos hm]
  simp only [go_sem,Nat.add_zero,hm,hR,qZ q1,vo q1,jZ q1,zP hx2,vn hx2,vY hx2,qy hx2,qK q1 (jaQ hx2 2),qK q1 (zu hx2 2),List.set_set];exact ⟨rfl,rfl,rfl,rfl,rfl,rfl⟩
 have hR:jE r t=⟨r.id,r.plan,3,qV jA (r.tasks.set t ⟨5,x.need,x.tri,0⟩) r.tasks.length⟩:=by rw [qD hx hrun,zb,if_neg hm]
 rw [hR,←jo8 hP hx hs];simp only [go_sem,Nat.add_zero,hm,qZ q1,vo q1,jZ q1,zP hx2,vn hx2,vY hx2,qy hx2,qK q1 (jaQ hx2 5),qK q1 (zu hx2 5),List.set_set];have htl:(r.tasks.set t ⟨5,x.need,x.tri,0⟩).length=r.tasks.length:=by rw [List.length_set]
 generalize r.tasks.set t ⟨5,x.need,x.tri,0⟩=ts0 at*;refine kS (ql (β:=8000000) Tryz.func236 jcG (by simp) ?_)
 unfold jcT;have q2:=hS ⟨r.id,r.plan,r.state,ts0⟩;simp only [go_sem,Nat.add_zero,qZ q2,vo q2,jZ q2];refine jp (fun i:Nat=>St.of [(0,.c (.ep 90 3 [] (k*8) (e3 []))),(1,Ni t),(10,Ni ts0.length),(11,Ni i)] [(90,kt b10 tYd y.now y.seq y.shelf e2 (y.runs.set k ⟨r.id,r.plan,r.state,qV (qk t) ts0 i⟩) e3),(91,o 91),(92,o 92),(93,o 93),(94,o 94),(95,o 95),(96,o 96),(97,o 97)]) (fun i=>i≤ts0.length) (fun i=>ts0.length-i) 0 (by (try dsimp only);first|omega|(simp;done)|(and_intros<;>first|omega|simp)) (jj [some 90,some 91,some 92,some 93,some 94,some 95,some 96,some 97] (by simp only [go_sem,jd,ja,jpY,jU]<;>and_intros<;>first|rfl|assumption|trivial)) ?_
 rintro j hj;have hml:=vV (f:=qk t) (ts:=ts0) (k:=j);by_cases hlt:j<ts0.length
 ·have hlt':(j:Int)<ts0.length:=by omega
  have h0j:(j:Int)≥0:=by omega
  obtain ⟨z,hz⟩:=je hlt;have hyk:=je1 (f:=qk t) hz;have hset:=je0 (f:=qk t) hz;have hsame:=jnj (f:=qk t) hz;generalize qV (qk t) ts0 j=M at*;have hw:IntKind.i64.wrap ((j:Int)+1)=((j+1:Nat):Int):=jg (by omega) (by omega)
  have hlm:j<M.length:=by omega
  have p1:=hS ⟨r.id,r.plan,r.state,M⟩;cases hne:(j:Int) !=(t:Int)
  ·have hg:qk t j z=z:=by have:(j:Int)=t:=by simpa using hne
                          simp [qk,this]
   have hq:=hsame hg;simp only [go_sem,jd,ja,Nat.add_zero,hml,hlt',h0j,hlt,qZ p1,vo p1,jZ p1,hne,hw];exact ⟨j+1,by (try dsimp only);first|omega|assumption|(and_intros<;>first|omega|assumption),(jj [some 90,some 91,some 92,some 93,some 94,some 95,some 96,some 97] (by simp only [go_sem,jd,ja,hq,jU]<;>and_intros<;>first|rfl|assumption|trivial)),by (try dsimp only);omega⟩
  have hne':¬(j:Int)=t:=by simpa using hne
  cases hc4:z.state !=4
  ·have hg:qk t j z=z:=by have:z.state=4:=by simpa using hc4
                          simp [qk,this]
   have hq:=hsame hg;simp only [go_sem,jd,ja,Nat.add_zero,hml,hlt',h0j,hlt,qZ p1,vo p1,jZ p1,hne,zP hyk,vY hyk,vn hyk,qy hyk,hc4,hw];exact ⟨j+1,by (try dsimp only);first|omega|assumption|(and_intros<;>first|omega|assumption),(jj [some 90,some 91,some 92,some 93,some 94,some 95,some 96,some 97] (by simp only [go_sem,jd,ja,hq,jU]<;>and_intros<;>first|rfl|assumption|trivial)),by (try dsimp only);omega⟩
  ·have hg:qk t j z=⟨6,z.need,z.tri,0⟩:=by
    have h1:¬z.state=4:=by simpa using hc4
    simp [qk,h1,hne']
   rw [hg] at hset;have hyk2:(M.set j ⟨6,z.need,z.tri,z.til⟩)[j]?=some ⟨6,z.need,z.tri,z.til⟩:=List.getElem?_set_self hlm;have p2:=hS ⟨r.id,r.plan,r.state,M.set j ⟨6,z.need,z.tri,z.til⟩⟩;simp only [go_sem,jd,ja,Nat.add_zero,hml,hlt',h0j,hlt,qZ p1,vo p1,jZ p1,hne,zP hyk,vY hyk,vn hyk,qy hyk,hc4,qK p1 (jaQ hyk 6),qK p1 (zu hyk 6),qZ p2,vo p2,jZ p2,qK p2 (jes hyk2 0),ji7 hyk2,juI hyk2,List.set_set,hset,hw];exact ⟨j+1,by (try dsimp only);first|omega|assumption|(and_intros<;>first|omega|assumption),(jj [some 90,some 91,some 92,some 93,some 94,some 95,some 96,some 97] (by simp only [go_sem,jd,ja,jU]<;>and_intros<;>first|rfl|assumption|trivial)),by (try dsimp only);omega⟩
 have hlt':¬(j:Int)<ts0.length:=by omega
 obtain rfl:j=ts0.length:=by omega
 rw [←htl];generalize qV (qk t) ts0 ts0.length=M at*;have p3:=hS ⟨r.id,r.plan,r.state,M⟩;simp only [go_sem,jd,ja,Nat.add_zero,hml,hlt',jxh p3,jw2 p3,jtc p3,List.set_set];exact ⟨rfl,rfl,rfl,rfl,rfl,rfl⟩
section
variable {s:St} {K:St→Prop}
theorem jxv (g c sz lo n:Nat) (p:List Nat) (x:Value) (l:List A0) (R:List Cell→St→Prop):qA s (.hs g c p x sz lo n::l) R=qA s l (fun cs s'=>R (.a (.hs g c p x sz lo n)::cs) s'):=by simp [qA,A0.one]
theorem jpt {w:World} {d:D} {u:Value} {S:List Nat} (hd:d.isSl=true) (hs:0<d.size) (h:Rep w true d u S):jie u d.size 0 d.len=u:=by
 cases d with
 |val _=>cases hd
 |sl size ty cs=>
  obtain ⟨vs,T,S',hr,hl,_⟩:=h;have hlen:=RepL.length _ hl;rcases qx hr with ⟨rfl,rfl⟩|⟨g,n,c,rfl,_,h3,_⟩
  ·have:cs=[]:=List.eq_nil_of_length_eq_zero (by simpa using hlen.symm)
   subst this;simp [jie,D.len,D.cells,D.size]
  ·have e:(D.sl size ty cs).len=n:=by
    simp only [D.len,D.cells,D.size];rw [←hlen,h3];exact Nat.mul_div_cancel _ hs
   rw [e];simp only [jie,Nat.zero_mul,Nat.sub_zero];split
   ·rfl
   ·simp [Addr.add_lit]
theorem jjD {B:Nat} {w:World} {a a':A0} (h:∀u,A0Rel B w a u→A0Rel B w a' u):∀{c:Nat} {l:List Cell} {us:List Value} {S:List Nat},CRel B w l us S→l[c]?=some (.a a)→CRel B w (l.set c (.a a')) us S
 |_,[],_,_,_,hc=>by simp at hc
 |0,.a x::l,_,S,⟨v,us',e,h1,h2⟩,hc=>by
  simp at hc;subst hc;exact ⟨v,us',e,h _ h1,h2⟩
 |0,.own e ε::l,_,_,_,hc=>by simp at hc
 |c+1,.a x::l,_,S,⟨v,us',e,h1,h2⟩,hc=>by
  simp at hc;exact ⟨v,us',e,h1,jjD h h2 hc⟩
 |c+1,.own e ε::l,_,_,⟨v,us',T1,T2,e1,e2,h1,h2,h3,h4⟩,hc=>by
  simp at hc;exact ⟨v,us',T1,T2,e1,e2,h1,h2,h3,jjD h h4 hc⟩
theorem jms (g c:Nat) {b ty:Nat} {cs:List Cell} {a a':A0} (hb:s.o g=.box b ty cs) (hc:cs[c]?=some (.a a)) (h:∀(B N:Nat) (w0 w:World) (act:Act) (F:Nat→List Nat),RelF B w0 N s act w F→∀u,A0Rel B w a u→A0Rel B w a' u) (hk:WkK (s.setO g (.box b ty (cs.set c (.a a')))) K):WkK s K:=by
 intro B N w0 w act F hr;have h4:=hr.ob g;rw [hb] at h4;obtain ⟨us,S1,q1,q2,q3⟩:=h4;refine hk _ _ _ _ _ _ (hr.setO (g:=g) (ob:=.box b ty (cs.set c (.a a'))) (S:=F g) ⟨us,S1,q1,jjD (h _ _ _ _ _ _ hr) q2 hc,q3⟩ (hr.fr g) fun g' hg' x hx hx'=>hr.dj g' g hg' x hx' hx)
theorem jf8 (g c g2:Nat) {b ty:Nat} {cs:List Cell} {d:D} {η:jq} (hb:s.o g=.box b ty cs) (hc:cs[c]?=some (.own d η)) (h2:s.o g2=.none) (hne:g2≠g) (hsz:0<d.size)
 (hk:WkK (((s.rm g c).setO g2 (.loose d η)).setO g (.box b ty (cs.set c (.a (.hs g2 0 [] (η []) d.size 0 d.len))))) K):WkK s K:=by
 have hcl:=(List.getElem?_eq_some_iff.1 hc).1;have ho:(s.o g).own c=some (d,η):=by rw [hb];simp [Ob.own,hc]
 refine qH g c g2 ho h2 hne fun hone=>?_
 have hrm:(s.rm g c).o g=.box b ty (cs.set c (.a (.v (η [])))):=by
  show (if g=g then (s.o g).rm c else _)=_
  rw [if_pos rfl,hb];simp only [Ob.rm,hc,rmC]
 refine jms g c (a:=.v (η [])) (b:=b) (ty:=ty) (cs:=cs.set c (.a (.v (η [])))) (by
  show (if g=g2 then _ else (s.rm g c).o g)=_
  rw [if_neg (Ne.symm hne)];exact hrm) (List.getElem?_set_self hcl) (a':=.hs g2 0 [] (η []) d.size 0 d.len) (fun B N w0 w act F hr u hu=>?_) ?_
 ·have h3:=hr.ob g2
  have e:((s.rm g c).setO g2 (.loose d η)).o g2=.loose d η:=by show (if g2=g2 then _ else _)=_;rw [if_pos rfl]
  rw [e] at h3;obtain ⟨k1,u',k2,k3⟩:=h3;have e2:η []=u':=by rw [k3,zG k1]
  have hu':u=η []:=hu;rw [hu'];exact ⟨.inl (by rw [e2,jpt k1 hsz k2]),hone⟩
 ·rw [List.set_set];exact hk
theorem jaX (g c g2:Nat) {g3 sz n b ty:Nat} {cs:List Cell} {d:D} {η:jq} {x:Value} (hb:s.o g=.box b ty cs) (hc:cs[c]?=some (.a (.hs g3 0 [] x sz 0 n))) (hx:x=η []) (hs:sz=d.size) (hn:n=d.len) (h2:s.o g2=.loose d η) (hsz:0<d.size)
 (hk:WkK (((s.setO g (.box b ty (cs.set c (.a (.v (η [])))))).setO g2 .none).setO g (.box b ty (cs.set c (.own d η)))) K):WkK s K:=by
 have hcl:=(List.getElem?_eq_some_iff.1 hc).1;have hne:g2≠g:=fun e=>by rw [e,hb] at h2;cases h2
 subst hx hs hn;refine jms g c (a:=.hs g3 0 [] (η []) d.size 0 d.len) hb hc (a':=.v (η [])) (fun B N w0 w act F hr u hu=>?_) ?_
 ·have h3:=hr.ob g2
  rw [h2] at h3;obtain ⟨k1,u',k2,k3⟩:=h3;have e2:η []=u':=by rw [k3,zG k1]
  obtain ⟨h5,_⟩:=hu;have h5:=h5.resolve_right fun h=>absurd h.1 (Nat.lt_irrefl 0)
  show u=η [];rw [h5,e2,jpt k1 hsz k2]
 ·refine qM g c g2 (b:=b) (ty:=ty) (cs:=cs.set c (.a (.v (η [])))) (d:=d) (η:=η) (by show (if g=g then _ else _)=_;rw [if_pos rfl]) (List.getElem?_set_self hcl) (by show (if g2=g then _ else s.o g2)=_;rw [if_neg hne];exact h2) ?_
  rw [List.set_set];exact hk
end
attribute [go_sem] jxv
def CutR:List Rn→List D→(Nat→Ob)→Prop
 |[],rows,fam=>rows=[]∧∀j,fam j=.none
 |r::l,rows,fam=>∃(η5 η7:jq) (rows':List D),rows=rnV r (η5 []) (η7 [])++rows'∧(η5 []).oneCell'=true∧(η7 []).oneCell'=true∧fam 0=.loose (jy r.plan.edges) η5∧fam 1=.loose (jI r.tasks) η7∧CutR l rows' (fun j=>fam (j+2))
theorem CutR.len:∀{l:List Rn} {rows:List D} {fam:Nat→Ob},CutR l rows fam→rows.length=l.length*8
 |[],_,_,⟨h,_⟩=>by rw [h];rfl
 |r::l,_,_,⟨_,_,rows',h,_,_,_,_,h2⟩=>by
  have:=CutR.len h2;rw [h,List.length_append,List.length_cons,this];simp only [List.length_cons,List.length_nil];omega
theorem CutR.flat:∀{l:List Rn} {rows:List D} {fam:Nat→Ob},CutR l rows fam→ka rows=true
 |[],_,_,⟨h,_⟩=>by rw [h];rfl
 |r::l,_,_,⟨η5,η7,rows',h,h5,h7,_,_,h2⟩=>by
  have:=CutR.flat h2;rw [h,vB,this];simp [ka,h5,h7];exact ⟨rfl,rfl,rfl,rfl,rfl,rfl⟩
theorem CutR.erase:∀{l:List Rn} {rows:List D} {fam:Nat→Ob} {k:Nat},CutR l rows fam→k<l.length→CutR (l.eraseIdx k) (rows.take (k*8)++rows.drop ((k+1)*8)) (fun j=>fam (if j<2*k then j else j+2))
 |[],_,_,_,_,h=>by simp at h
 |r::l,_,fam,0,⟨η5,η7,rows',h,_,_,_,_,h2⟩,_=>by
  have e1:(rnV r (η5 []) (η7 [])++rows').drop ((0+1)*8)=rows':=List.drop_left' rfl;rw [h,e1,Nat.zero_mul,List.take_zero,List.nil_append];simpa using h2
 |r::l,_,fam,k+1,⟨η5,η7,rows',h,h5,h7,f0,f1,h2⟩,hk=>by
  have ih:=CutR.erase (k:=k) h2 (by simpa using hk)
  have e1:(rnV r (η5 []) (η7 [])++rows').take ((k+1)*8)=rnV r (η5 []) (η7 [])++rows'.take (k*8):=by
   rw [show (k+1)*8=(rnV r (η5 []) (η7 [])).length+k*8 by rw [show (rnV r (η5 []) (η7 [])).length=8 from rfl];omega];exact List.take_length_add_append _
  have e2:(rnV r (η5 []) (η7 [])++rows').drop ((k+1+1)*8)=rows'.drop ((k+1)*8):=by
   rw [show (k+1+1)*8=(rnV r (η5 []) (η7 [])).length+(k+1)*8 by rw [show (rnV r (η5 []) (η7 [])).length=8 from rfl];omega];exact List.drop_length_add_append _
  rw [h,e1,e2,List.eraseIdx_cons_succ];refine ⟨η5,η7,_,by rw [List.append_assoc],h5,h7,?_,?_,?_⟩
  ·dsimp only;rw [if_pos (by omega)];exact f0
  ·dsimp only;rw [if_pos (by omega)];exact f1
  ·have:(fun j=>fam (if j+2<2*(k+1) then j+2 else j+2+2))=(fun j=>fam ((if j<2*k then j else j+2)+2)):=by
    funext j
    by_cases c:j<2*k
    ·rw [if_pos c,if_pos (by omega)]
    ·rw [if_neg c,if_neg (by omega)]
   rw [this];exact ih
theorem jpR {ob:Ob} {c:Nat} {d d':D} {η η':jq} (h:ob.own c=some (d,η)):(ob.putOwn c d' η').own c=some (d',η'):=by
 cases ob with
 |none=>simp [Ob.own] at h
 |loose e ε=>cases c with
  |zero=>rfl
  |succ c=>simp [Ob.own] at h
 |box b ty cs=>
  simp only [Ob.own] at h;split at h
  ·rename_i d0 η0 hc
   have:=(List.getElem?_eq_some_iff.1 hc).1;simp [Ob.own,Ob.putOwn,List.getElem?_set_self this]
  ·simp at h
theorem jtd {ob:Ob} {c:Nat} {d:D} {η:jq} (h:ob.own c=some (d,η)):ob.putOwn c d η=ob:=by
 cases ob with
 |none=>rfl
 |loose e ε=>cases c with
  |zero=>simp [Ob.own] at h;obtain ⟨rfl,rfl⟩:=h;rfl
  |succ c=>simp [Ob.own] at h
 |box b ty cs=>
  simp only [Ob.own] at h;split at h
  ·rename_i d0 η0 hc
   simp at h;obtain ⟨rfl,rfl⟩:=h;simp only [Ob.putOwn];rw [zS hc]
  ·simp at h
theorem jpI {ob:Ob} {c:Nat} {d d':D} {η η':jq}:(ob.putOwn c d η).putOwn c d' η'=ob.putOwn c d' η':=by
 cases ob with
 |none=>rfl
 |loose e ε=>rfl
 |box b ty cs=>simp [Ob.putOwn,List.set_set]
theorem jlo {α:Type} {A B:List α} (k:Nat) (hk:k<B.length) (x:α):(A++B).set (A.length+k) x=A++B.set k x:=by
 rw [List.set_append_right _ _ (by omega),Nat.add_sub_cancel_left]
theorem jl4 {α:Type} {A B:List α} (k:Nat):(A++B)[A.length+k]?=B[k]?:=by
 rw [List.getElem?_append_right (by omega),Nat.add_sub_cancel_left]
theorem jiw {K:St→Prop} (g c:Nat):∀(l:List Rn) (pre:List D) (b:Nat) (s:St) (η:jq),(s.o g).own c=some (.sl 8 tRn (pre++l.flatMap jd),η)→g<b→(∀j,b≤j→s.o j=.none)→
 (∀(rows:List D) (fam:Nat→Ob) (η':jq),CutR l rows fam→η' []=η []→WkK ⟨s.t,fun j=>if b≤j then fam (j-b) else if j=g then (s.o g).putOwn c (.sl 8 tRn (pre++rows)) η' else s.o j⟩ K)→WkK s K
 |[],pre,b,s,η,ho,hg,hn,hK=>by
  have:=hK [] (fun _=>.none) η ⟨rfl,fun _=>rfl⟩ rfl
  have e:(⟨s.t,fun j=>if b≤j then Ob.none else if j=g then (s.o g).putOwn c (.sl 8 tRn (pre++[])) η else s.o j⟩:St)=s:=by
   have:(fun j=>if b≤j then Ob.none else if j=g then (s.o g).putOwn c (.sl 8 tRn (pre++[])) η else s.o j)=s.o:=by
    funext j
    by_cases h1:b≤j
    ·rw [if_pos h1,hn j h1]
    ·rw [if_neg h1]
     by_cases h2:j=g
     ·subst h2;rw [if_pos rfl];exact jtd ho
     ·rw [if_neg h2]
   rw [this]
  rwa [e] at this
 |r::l,pre,b,s,η,ho,hg,hn,hK=>by
  rw [List.flatMap_cons] at ho;have h8:(jd r).length=8:=rfl;refine jem g c (pre.length+5) b (η:=η) (sz:=8) (tyo:=tRn) (cs:=r.plan.edges.flatMap jP) ho (by rw [jl4];rfl) (hn b (Nat.le_refl b)) (by omega) fun ηa ηA hA1 hA2 hA3=>?_
  rw [jlo 5 (by rw [List.length_append,h8];omega),List.set_append_left _ _ (by rw [h8];omega)]
  have hbg:b≠g:=by omega
  have hog:∀(x y:Ob),(((s.setO g x).setO b y).o g)=x:=fun x y=>by
   show (if g=b then y else if g=g then x else s.o g)=x
   rw [if_neg (by omega),if_pos rfl]
  have ho2:((((s.setO g ((s.o g).putOwn c (.sl 8 tRn (pre++((jd r).set 5 (.val (η [pre.length+5]))++l.flatMap jd))) ηA)).setO b (.loose (.sl 2 tEd (r.plan.edges.flatMap jP)) ηa)).o g)).own c=some (.sl 8 tRn (pre++((jd r).set 5 (.val (η [pre.length+5]))++l.flatMap jd)),ηA):=by
   rw [hog];exact jpR ho
  refine jem g c (pre.length+7) (b+1) (η:=ηA) (sz:=8) (tyo:=tRn) (cs:=r.tasks.flatMap jn) ho2 (by rw [jl4];rfl) (by
   show (if b+1=b then _ else if b+1=g then _ else s.o (b+1))=_
   rw [if_neg (by omega),if_neg (by omega)];exact hn _ (by omega)) (by omega) fun ηb ηB hB1 hB2 hB3=>?_
  rw [hog,jpI,jlo 7 (by rw [List.length_append,List.length_set,h8];omega),List.set_append_left _ _ (by rw [List.length_set,h8];omega)]
  rw [←hA2] at hA3⊢;rw [←hB2] at hB3⊢;have hV:((jd r).set 5 (.val (ηa []))).set 7 (.val (ηb []))=rnV r (ηa []) (ηb []):=rfl;rw [hV];obtain ⟨s2,hs2⟩:∃s2,(((s.setO g ((s.o g).putOwn c (.sl 8 tRn (pre++((jd r).set 5 (.val (ηa []))++l.flatMap jd))) ηA)).setO b (.loose (.sl 2 tEd (r.plan.edges.flatMap jP)) ηa)).setO g ((s.o g).putOwn c (.sl 8 tRn (pre++(rnV r (ηa []) (ηb [])++l.flatMap jd))) ηB)).setO (b+1) (.loose (.sl 4 tTk (r.tasks.flatMap jn)) ηb)=s2:=⟨_,rfl⟩;rw [hs2]
  have q0:s2.o g=(s.o g).putOwn c (.sl 8 tRn (pre++(rnV r (ηa []) (ηb [])++l.flatMap jd))) ηB:=by
   rw [←hs2];show (if g=b+1 then _ else if g=g then _ else _)=_
   rw [if_neg (by omega),if_pos rfl]
  have q1:s2.o b=.loose (jy r.plan.edges) ηa:=by
   rw [←hs2];show (if b=b+1 then _ else if b=g then _ else if b=b then _ else _)=_
   rw [if_neg (by omega),if_neg (by omega),if_pos rfl];rfl
  have q2:s2.o (b+1)=.loose (jI r.tasks) ηb:=by
   rw [←hs2];show (if b+1=b+1 then _ else _)=_
   rw [if_pos rfl];rfl
  have q3:∀j,j≠g→j≠b→j≠b+1→s2.o j=s.o j:=fun j n1 n2 n3=>by
   rw [←hs2];show (if j=b+1 then _ else if j=g then _ else if j=b then _ else if j=g then _ else s.o j)=_
   rw [if_neg n3,if_neg n1,if_neg n2,if_neg n1]
  have qt:s2.t=s.t:=by rw [←hs2];rfl
  refine jiw g c l (pre++rnV r (ηa []) (ηb [])) (b+2) s2 ηB (by rw [q0,List.append_assoc];exact jpR ho) (by omega) (fun j hj=>by rw [q3 j (by omega) (by omega) (by omega)];exact hn j (by omega)) fun rows fam η' hcr hη=>?_
  have:=hK (rnV r (ηa []) (ηb [])++rows) (fun j=>if j=0 then .loose (jy r.plan.edges) ηa else if j=1 then .loose (jI r.tasks) ηb else fam (j-2)) η' ⟨ηa,ηb,rows,rfl,hA3,hB3,rfl,rfl,hcr⟩ (by rw [hη,hB1,hA1])
  have e:(fun j=>if b+2≤j then fam (j-(b+2)) else if j=g then (s2.o g).putOwn c (.sl 8 tRn (pre++rnV r (ηa []) (ηb [])++rows)) η' else s2.o j)=(fun j=>if b≤j then (if j-b=0 then Ob.loose (jy r.plan.edges) ηa else if j-b=1 then .loose (jI r.tasks) ηb else fam (j-b-2)) else if j=g then (s.o g).putOwn c (.sl 8 tRn (pre++(rnV r (ηa []) (ηb [])++rows))) η' else s.o j):=by
   funext j
   by_cases c1:b+2≤j
   ·rw [if_pos c1,if_pos (by omega),if_neg (by omega),if_neg (by omega),show j-(b+2)=j-b-2 by omega]
   ·rw [if_neg c1]
    by_cases c2:j=b
    ·subst c2;rw [if_neg (by omega),if_pos (Nat.le_refl _),if_pos (by omega),q1]
    ·by_cases c3:j=b+1
     ·subst c3;rw [if_neg (by omega),if_pos (by omega),if_neg (by omega),if_pos (by omega),q2]
     ·by_cases c4:j=g
      ·subst c4;rw [if_pos rfl,if_neg (by omega),if_pos rfl,q0,jpI,List.append_assoc]
      ·rw [if_neg c4,if_neg (by omega),if_neg c4,q3 j c4 c2 c3]
  rw [qt,e];exact this
theorem jel {K:St→Prop} (g c:Nat):∀(l:List Rn) (pre:List D) (b:Nat) (s:St) (η:jq) (rows:List D) (fam:Nat→Ob),CutR l rows fam→(s.o g).own c=some (.sl 8 tRn (pre++rows),η)→g<b→(∀j,b≤j→s.o j=fam (j-b))→
 (∀η':jq,η' []=η []→WkK ⟨s.t,fun j=>if b≤j then .none else if j=g then (s.o g).putOwn c (.sl 8 tRn (pre++l.flatMap jd)) η' else s.o j⟩ K)→WkK s K
 |[],pre,b,s,η,_,fam,⟨rfl,hf⟩,ho,hg,hn,hK=>by
  have:=hK η rfl
  have e:(⟨s.t,fun j=>if b≤j then Ob.none else if j=g then (s.o g).putOwn c (.sl 8 tRn (pre++List.flatMap jd [])) η else s.o j⟩:St)=s:=by
   have:(fun j=>if b≤j then Ob.none else if j=g then (s.o g).putOwn c (.sl 8 tRn (pre++List.flatMap jd [])) η else s.o j)=s.o:=by
    funext j
    by_cases h1:b≤j
    ·rw [if_pos h1,hn j h1,hf]
    ·rw [if_neg h1]
     by_cases h2:j=g
     ·subst h2;rw [if_pos rfl];exact jtd ho
     ·rw [if_neg h2]
   rw [this]
  rwa [e] at this
 |r::l,pre,b,s,η,_,fam,⟨η5,η7,rows,rfl,h5,h7,f0,f1,hcr⟩,ho,hg,hn,hK=>by
  have h8:(rnV r (η5 []) (η7 [])).length=8:=rfl;have hb0:s.o b=.loose (.sl 2 tEd (r.plan.edges.flatMap jP)) η5:=by rw [hn b (Nat.le_refl b),Nat.sub_self,f0];rfl
  have hb1:s.o (b+1)=.loose (.sl 4 tTk (r.tasks.flatMap jn)) η7:=by rw [hn (b+1) (by omega),Nat.add_sub_cancel_left,f1];rfl
  refine qw g c (pre.length+5) b (η:=η) (η2:=η5) (sz:=8) (tyo:=tRn) (cs:=r.plan.edges.flatMap jP) ho (by rw [jl4];rfl) (.inl rfl) hb0 (by omega) fun ηA hA=>?_
  rw [jlo 5 (by rw [List.length_append,h8];omega),List.set_append_left _ _ (by rw [h8];omega)]
  have hog:∀(x:Ob),(((s.setO b .none).setO g x).o g)=x:=fun x=>by
   show (if g=g then x else _)=x
   rw [if_pos rfl]
  refine qw g c (pre.length+7) (b+1) (η:=ηA) (η2:=η7) (sz:=8) (tyo:=tRn) (cs:=r.tasks.flatMap jn) (by rw [hog];exact jpR ho) (by rw [jl4];rfl) (.inl rfl) (by
   show (if b+1=g then _ else if b+1=b then _ else s.o (b+1))=_
   rw [if_neg (by omega),if_neg (by omega)];exact hb1) (by omega) fun ηB hB=>?_
  rw [hog,jpI,jlo 7 (by rw [List.length_append,List.length_set,h8];omega),List.set_append_left _ _ (by rw [List.length_set,h8];omega)]
  have hV:(((rnV r (η5 []) (η7 [])).set 5 (.sl 2 tEd (r.plan.edges.flatMap jP))).set 7 (.sl 4 tTk (r.tasks.flatMap jn)))=jd r:=rfl;rw [hV];obtain ⟨s2,hs2⟩:∃s2,(((s.setO b .none).setO g ((s.o g).putOwn c (.sl 8 tRn (pre++((rnV r (η5 []) (η7 [])).set 5 (.sl 2 tEd (r.plan.edges.flatMap jP))++rows))) ηA)).setO (b+1) .none).setO g ((s.o g).putOwn c (.sl 8 tRn (pre++(jd r++rows))) ηB)=s2:=⟨_,rfl⟩;rw [hs2]
  have q0:s2.o g=(s.o g).putOwn c (.sl 8 tRn (pre++(jd r++rows))) ηB:=by
   rw [←hs2];show (if g=g then _ else _)=_
   rw [if_pos rfl]
  have q3:∀j,j≠g→j≠b→j≠b+1→s2.o j=s.o j:=fun j n1 n2 n3=>by
   rw [←hs2];show (if j=g then _ else if j=b+1 then _ else if j=g then _ else if j=b then _ else s.o j)=_
   rw [if_neg n1,if_neg n3,if_neg n1,if_neg n2]
  have q1:s2.o b=.none:=by
   rw [←hs2];show (if b=g then _ else if b=b+1 then _ else if b=g then _ else if b=b then _ else s.o b)=_
   rw [if_neg (by omega),if_neg (by omega),if_neg (by omega),if_pos rfl]
  have q2:s2.o (b+1)=.none:=by
   rw [←hs2];show (if b+1=g then _ else if b+1=b+1 then _ else _)=_
   rw [if_neg (by omega),if_pos rfl]
  have qt:s2.t=s.t:=by rw [←hs2];rfl
  refine jel g c l (pre++jd r) (b+2) s2 ηB rows _ hcr (by rw [q0,List.append_assoc];exact jpR ho) (by omega) (fun j hj=>by rw [q3 j (by omega) (by omega) (by omega),hn j (by omega),show j-b=j-(b+2)+2 by omega]) fun η' hη=>?_
  have:=hK η' (by rw [hη,hB,hA])
  have e:(fun j=>if b+2≤j then Ob.none else if j=g then (s2.o g).putOwn c (.sl 8 tRn (pre++jd r++l.flatMap jd)) η' else s2.o j)=(fun j=>if b≤j then Ob.none else if j=g then (s.o g).putOwn c (.sl 8 tRn (pre++(r::l).flatMap jd)) η' else s.o j):=by
   funext j
   by_cases c1:b+2≤j
   ·rw [if_pos c1,if_pos (by omega)]
   ·rw [if_neg c1]
    by_cases c2:j=b
    ·subst c2;rw [if_neg (by omega),if_pos (Nat.le_refl _),q1]
    ·by_cases c3:j=b+1
     ·subst c3;rw [if_neg (by omega),if_pos (by omega),q2]
     ·by_cases c4:j=g
      ·subst c4;rw [if_pos rfl,if_neg (by omega),if_pos rfl,q0,jpI,List.append_assoc,List.flatMap_cons]
      ·rw [if_neg c4,if_neg (by omega),if_neg c4,q3 j c4 c2 c3]
  rw [qt,e];exact this
def St.ofF (T:List (Nat×AV)) (O:List (Nat×Ob)) (b:Nat) (fam:Nat→Ob):St:=⟨lkT T,fun j=>if b≤j then fam (j-b) else lkO O j⟩
theorem ofF_t (T:List (Nat×AV)) (O:List (Nat×Ob)) (b:Nat) (fam:Nat→Ob) (n:Nat):(St.ofF T O b fam).t n=lkT T n:=(rfl)
theorem ofF_o (T:List (Nat×AV)) (O:List (Nat×Ob)) (b:Nat) (fam:Nat→Ob) (n:Nat):(St.ofF T O b fam).o n=if b≤n then fam (n-b) else lkO O n:=(rfl)
attribute [go_sem] ofF_t ofF_o
theorem jmt {s:St} {T:List (Nat×AV)} {O:List (Nat×Ob)} {b:Nat} {fam:Nat→Ob} (ks:List (Option Nat)) (h:jw6 s T∧jqf s ks O) (hf:∀j,b≤j→s.o j=fam (j-b)) (hk:∀k∈jqV ks,k<b) (hn:jjH (jqV ks)=true:=by decide):Wk s (St.ofF T O b fam):=fun B N w0 w a F hr=>by
 have hob:=jt0 hr.ob h.2;have hdj:=jv5 (ks:=ks) (O:=O) hr.dj (jbG hn);refine ⟨fun j=>if b≤j then F j else fp F ks O j,⟨hr.below,hr.hB,hr.df,hr.sz,jv8 hr.sl h.1,fun g=>?_,fun g=>?_,fun g g' hne x hx hx'=>?_⟩,fun g x hx=>?_⟩
 ·by_cases c:b≤g
  ·simp only [St.ofF,if_pos c];rw [←hf g c];exact hr.ob g
  ·simp only [St.ofF,if_neg c];exact hob g
 ·by_cases c:b≤g
  ·simp only [if_pos c];exact hr.fr g
  ·simp only [if_neg c];exact jv4 hr.fr ks O g
 ·by_cases c:b≤g
  ·simp only [if_pos c] at hx
   by_cases c':b≤g'
   ·simp only [if_pos c'] at hx';exact hr.dj g g' hne x hx hx'
   ·simp only [if_neg c'] at hx'
    obtain ⟨k,h1,h2⟩:=jfd hx';exact hr.dj g k (by have:=hk k h1;omega) x hx h2
  ·simp only [if_neg c] at hx
   by_cases c':b≤g'
   ·simp only [if_pos c'] at hx'
    obtain ⟨k,h1,h2⟩:=jfd hx;exact hr.dj k g' (by have:=hk k h1;omega) x h2 hx'
   ·simp only [if_neg c'] at hx';exact hdj g g' hne x hx hx'
 ·by_cases c:b≤g
  ·simp only [if_pos c] at hx;exact ⟨g,hx⟩
  ·simp only [if_neg c] at hx
   obtain ⟨k,_,h2⟩:=jfd hx;exact ⟨k,h2⟩
theorem jmu {s:St} {b:Nat} {fam:Nat→Ob} (ρ:Nat→Nat) (hρ:∀i j,ρ i=ρ j→i=j) (hf:∀j,b≤j→s.o j=fam (j-b)):Wk s ⟨s.t,fun j=>if b≤j then fam (ρ (j-b)) else s.o j⟩:=fun B N w0 w a F hr=>by
 refine ⟨fun j=>if b≤j then F (b+ρ (j-b)) else F j,⟨hr.below,hr.hB,hr.df,hr.sz,hr.sl,fun g=>?_,fun g=>?_,fun g g' hne x hx hx'=>?_⟩,fun g x hx=>?_⟩
 ·by_cases c:b≤g
  ·simp only [if_pos c]
   have:=hr.ob (b+ρ (g-b))
   rwa [hf _ (Nat.le_add_right _ _),Nat.add_sub_cancel_left] at this
  ·simp only [if_neg c];exact hr.ob g
 ·by_cases c:b≤g
  ·simp only [if_pos c];exact hr.fr _
  ·simp only [if_neg c];exact hr.fr g
 ·by_cases c:b≤g
  ·simp only [if_pos c] at hx
   by_cases c':b≤g'
   ·simp only [if_pos c'] at hx'
    exact hr.dj _ _ (fun e=>hne (by have:=hρ _ _ (Nat.add_left_cancel e);omega)) x hx hx'
   ·simp only [if_neg c'] at hx';exact hr.dj _ _ (by omega) x hx hx'
  ·simp only [if_neg c] at hx
   by_cases c':b≤g'
   ·simp only [if_pos c'] at hx';exact hr.dj _ _ (by omega) x hx hx'
   ·simp only [if_neg c'] at hx';exact hr.dj _ _ hne x hx hx'
 ·by_cases c:b≤g
  ·simp only [if_pos c] at hx;exact ⟨_,hx⟩
  ·simp only [if_neg c] at hx;exact ⟨g,hx⟩
open Go.RowKit Go.Sort Go.Lib
abbrev fDel:FuncId:=146
theorem jlp {P:Program} (w:World) (t e ty:TypeId) (z:Value) (ht:P.underlying t=some (.slice e)) (hv:∀w,(zeroValue e).run P w=.ok z w) (h1:∀v∈z.cells.toList,v.oneCell'=true) (hs:z.cells.size=8) (b o c:Nat)
 (hc:∀j,j<8→(w.cell? ⟨b,o+j,none⟩).isSome=true) (hf:∀j,j<8→w.frozen? ⟨b,o+j,none⟩=false):
 (Builtin.clear_ #[t] ty #[.slice (some ⟨b,o,none⟩) 1 c]).run P w=.ok (.tuple #[]) (w.setCells b o z.cells.toList):=by
 have hzc:(Builtin.zeroCells z.cells 1).toList=z.cells.toList:=by
  simp only [Builtin.zeroCells,Nat.one_mul]
  apply List.ext_getElem
  ·simp
  ·intro i h1 h2
   have:i<z.cells.size:=by simpa using h2
   simp [Nat.mod_eq_of_lt this];exact getElem!_pos z.cells i this
 have hst:=run_storeCells_cells (P:=P) b o z.cells.toList 0 w (by simpa [hs] using hc) (by simpa [hs] using hf) h1
 simp only [Nat.add_zero] at hst;simp [Builtin.clear_,run_underlying ht,hv,hzc,hst]
abbrev zRnL:List Value:=[.int .i64 0,.int .i64 0,.int .i64 0,.int .i64 0,.int .i64 0,.slice none 0 0,.int .i64 0,.slice none 0 0]
theorem jyP (b n c k:Nat) (cs:List Value) (w:World) (hk:k<n) (hnc:n≤c) (hc63:c≤9223372036854775807) (hcl:cs.length=n*8)
 (hcs:∀j v,cs[j]?=some v→w.cell? ⟨b,j,none⟩=some v) (hfz:∀j,w.frozen? ⟨b,j,none⟩=false) (h1c:∀v∈cs,v.oneCell'=true):
 Calls Tryz.prog fDel #[.slice (some ⟨b,0,none⟩) n c,.int .i64 k,.int .i64 ((k:Int)+1)] w fun e w'=>
  e=.returned (.slice (some ⟨b,0,none⟩) (n-1) c)∧w'=(w.drew.setCells b (k*8) (cs.drop ((k+1)*8))).setCells b ((n-1)*8) zRnL:=by
 have mixed:Tryz.prog.follows .mixedOrders=true:=by kernel_rfl
 have t22:=Tryz.underlying35;have a22:=Tryz.isAgg35;have z22:=Tryz.sizeOf35;have u3:=Tryz.underlying3;have a3:=Tryz.isAgg3;have z3:=Tryz.sizeOf3;have u4:=Tryz.underlying4;have z23:=Tryz.sizeOf108;have hu:Tryz.prog.underlying jzh=some (.slice tRn):=slRn.1;obtain ⟨i0,zv,hi0,hz0,hzc,hzs,hzb⟩:=slRn.info;obtain ⟨news,hnews⟩:∃news,news=cs.drop ((k+1)*8):=⟨_,rfl⟩;have hlen:news.length=(n-(k+1))*8:=by rw [hnews,List.length_drop,hcl];omega
 have hget:∀t u,news[t]?=some u→w.cell? ⟨b,(k+1)*8+t,none⟩=some u:=fun t u hu=>by
  rw [hnews,List.getElem?_drop] at hu;exact hcs _ u hu
 obtain ⟨A,hA,hsrc⟩:∃A:Addr,(if c=k+1 then some (⟨b,0,none⟩:Addr) else some ⟨b,(k+1)*8,none⟩)=some A∧Hid (∀t u,news[t]?=some u→w.drew.cell? (A.add t)=some u):=by
  by_cases h:c=k+1
  ·refine ⟨⟨b,0,none⟩,by simp [h],fun t u hu=>?_⟩
   have h0:news.length=0:=by rw [hlen];omega
   rw [List.length_eq_zero_iff.1 h0] at hu;simp at hu
  ·refine ⟨⟨b,(k+1)*8,none⟩,by simp [h],fun t u hu=>?_⟩
   rw [Addr.add_lit];exact hget t u hu
 have s1:Hid (news.length=(n-(k+1))*8):=hlen;have s2:Hid (∀u∈news,u.oneCell'=true):=fun u hu=>by rw [hnews] at hu;exact h1c u (List.mem_of_mem_drop hu)
 have hsome:∀j,j<n*8→(w.cell? ⟨b,j,none⟩).isSome=true:=fun j hj=>by rw [hcs j _ (List.getElem?_eq_getElem (by omega))];rfl
 have s3:Hid (∀t,t<news.length→(w.drew.cell? ⟨b,0+k*8+t,none⟩).isSome=true∧w.drew.frozen? ⟨b,0+k*8+t,none⟩=false):=fun t ht=>by
  rw [hlen] at ht;exact ⟨hsome _ (by omega),hfz _⟩
 obtain ⟨W1,hW1⟩:∃W1,W1=w.drew.setCells b (0+k*8) news:=⟨_,rfl⟩
 have hsome1:∀j,j<n*8→(W1.cell? ⟨b,j,none⟩).isSome=true:=fun j hj=>by
  rw [hW1];exact isSome_setCells b news (0+k*8) w.drew (fun t ht=>hsome _ (by omega)) j (hsome j hj)
 have hz:∀w,(zeroValue tRn).run Tryz.prog w=.ok zv w:=fun w=>by simp [zeroValue,typeInfo,hi0,hz0]
 have hzl:zv.cells.toList=zRnL:=by rw [hzc]
 have hcl2:∀ty q,(Builtin.clear_ #[jzh] ty #[.slice (some ⟨b,(k+(n-(k+1)))*8,none⟩) 1 q]).run Tryz.prog W1=.ok (.tuple #[]) (W1.setCells b ((k+(n-(k+1)))*8) zRnL):=fun ty q=>by
  rw [←hzl];exact jlp W1 jzh tRn ty zv hu hz (by rw [hzl];decide) (by rw [hzc];rfl) b _ q (fun j hj=>hsome1 _ (by omega)) (fun j hj=>by rw [hW1,World.frozen?_setCells];exact hfz _)
 have hW:Hid (W1=w.drew.setCells b (0+k*8) news):=hW1;have hkc:k≤c:=by omega
 have hjc:k+1≤c:=by omega
 have hne:¬((k:Int)=(k:Int)+1):=by omega
 have hb1:(0:Int)≤(k:Int)+1:=by omega
 have hb2:(k:Int)≤(n:Int):=by omega
 have hb3:(k:Int)+1≤(n:Int):=by omega
 have hb4:(k:Int)≤(k:Int)+1:=by omega
 have htn:((k:Int)+1).toNat=k+1:=by omega
 have hkn:k≤n:=by omega
 have hjn:k+1≤n:=hk;have h1n:n-(k+(n-(k+1)))=1:=by omega
 clear hW1 hsome1 hget hlen hsome hcs
 go_enter Tryz.func146,Tryz.ntmps146
 go_wp2_with fail
 go_region_law_o (refine step_append_room rfl (.tmp 22) (.tmp 25) jzh rfl tRn i0 8 hu hi0 hzs b 0 k c (by simp [Act.eval,Act.put]) A (n-(k+1)) (c-(k+1)) news (by simp [Act.eval,Act.put,hA]) s1.out hsrc.out s2.out (by omega) s3.out ?_;rw [←hW.out])
 go_wp2
 go_ret
 have e1:k+(n-(k+1))=n-1:=by omega
 refine ⟨by rw [e1];rfl,?_⟩
 rw [hW.out,hnews,e1,Nat.zero_add]
def jmz:D→Value
 |.val u=>u
 |.sl _ _ _=>undef
theorem jw9:∀{ds:List D} {w:World} {own:Bool} {vs:List Value} {S:List Nat},ka ds=true→RepL w own ds vs S→vs=ds.map jmz∧S=[]
 |[],_,_,_,_,_,⟨h1,h2⟩=>⟨h1,h2⟩
 |.sl _ _ _::_,_,_,_,_,h,_=>by cases h
 |.val u::ds,w,own,_,_,h,⟨v,vs',S1,S2,rfl,rfl,⟨h1,h2⟩,h3⟩=>by
  simp only [ka,Bool.and_eq_true] at h;obtain ⟨k1,k2⟩:=jw9 h.2 h3;subst h1 h2 k1 k2;exact ⟨rfl,rfl⟩
theorem d_mk (w:World) (own:Bool):∀{ds:List D},ka ds=true→RepL w own ds (ds.map jmz) []
 |[],_=>⟨rfl,rfl⟩
 |.sl _ _ _::_,h=>by cases h
 |.val u::ds,h=>by
  simp only [ka,Bool.and_eq_true] at h;exact ⟨u,ds.map jmz,[],[],rfl,rfl,⟨rfl,rfl⟩,d_mk w own h.2⟩
theorem jA2:∀{ds:List D},ka ds=true→∀v∈ds.map jmz,v.oneCell'=true
 |[],_,_,hv=>by simp at hv
 |.sl _ _ _::_,h,_,_=>by cases h
 |.val u::ds,h,v,hv=>by
  simp only [ka,Bool.and_eq_true] at h;rcases List.mem_cons.1 hv with rfl|hv
  ·exact h.1
  ·exact jA2 h.2 v hv
theorem ju7 (rows:List D) (n k:Nat) (hf:ka rows=true) (hf2:ka (rows.take (k*8)++rows.drop ((k+1)*8))=true) (hl:rows.length=n*8) (hk:k<n) {o:Nat→Ob} {g:Nat} {η:jq} (ho:o g=.loose (.sl 8 tRn rows) η):
 Turns Tryz.prog fDel [.c (.v (η [])),.c (.v (.int .i64 k)),.c (.v (.int .i64 ((k:Int)+1)))] o (fun rt o'=>rt=.c (.sl 8 tRn (rows.take (k*8)++rows.drop ((k+1)*8)))∧o'=fun j=>if j=g then .none else o j):=
 ⟨⟨_,Tryz.func146,by kernel_rfl,by kernel_rfl⟩,fun B w F xs hR hxs=>by
   obtain ⟨x,xs1,rfl,rfl,_,xs2,rfl,rfl,x2,xs3,rfl,rfl,rfl⟩:=hxs;have h1:=hR.ob g;simp only at h1;rw [ho] at h1;obtain ⟨_,u,r1,e1⟩:=h1;have q1:η []=u:=e1 [];rw [q1];have hB:B≤w.heap.size:=Nat.le_trans hR.hB hR.below.size;have hF1:=hR.fr g;have hlt:∀k,∀b∈F k,b<w.heap.size:=fun k b hb=>(hR.ob k).lt b hb
   obtain ⟨vs,T,S',hrow,hrl,hS⟩:=r1;obtain ⟨rfl,rfl⟩:=jw9 hf hrl;have hv1:=jA2 hf;have hvl:(rows.map jmz).length=n*8:=by rw [List.length_map,hl]
   generalize hvs:rows.map jmz=vs at*;obtain ⟨m,hrow,rfl⟩:=hrow;rcases hrow.2 with ⟨_,h0⟩|⟨b,c,cu,rfl,_,hbc,hc1,hc2,hc3,hc4⟩
   ·have:=hrow.1;omega
   have hmn:m=n:=by have:=hrow.1;omega
   subst hmn;have hFg:F g=[b]:=by rw [hS];simp [blk]
   have hbB:B≤b:=hF1.2 b (by rw [hFg];simp)
   have hcs:∀j v,vs[j]?=some v→w.cell? ⟨b,j,none⟩=some v:=fun j v hj=>by
    rw [jmn hbc,←Array.getElem?_toList];exact jlf hc4 hj
   obtain ⟨_,sb2⟩:=jln hbc;have hcul:cu.toList.length=c*8:=by simpa using hc3
   refine (jyP b m c k vs w hk hc1 (by unfold maxLen at hc2;omega) hvl hcs sb2 hv1).mono ?_
   rintro en w' ⟨rfl,rfl⟩;have hcu:w.drew.heap[b]?=some (.cells cu.toList.toArray tRn (0,0)):=by rw [Array.toArray_toList];exact hbc
   have hdl:(vs.drop ((k+1)*8)).length=(m-(k+1))*8:=by rw [List.length_drop,hvl];omega
   obtain ⟨w1,w2⟩:=qm (vs.drop ((k+1)*8)) w.drew b (k*8) cu.toList tRn hcu;obtain ⟨w3,w4⟩:=qm zRnL _ b ((m-1)*8) _ tRn w1;have s1:=kH (vs.drop ((k+1)*8)) w.drew b (k*8);have s2:=kH zRnL (w.drew.setCells b (k*8) (vs.drop ((k+1)*8))) b ((m-1)*8);have hmc:m*8≤c*8:=by omega
   have hA:kC cu.toList (k*8) (vs.drop ((k+1)*8))=cu.toList.take (k*8)++vs.drop ((k+1)*8)++cu.toList.drop (k*8+(vs.drop ((k+1)*8)).length):=kQ _ _ _ (by rw [hdl,hcul];omega)
   have hAl:(kC cu.toList (k*8) (vs.drop ((k+1)*8))).length=c*8:=by
    rw [hA];simp only [List.length_append,List.length_take,List.length_drop,hcul,hvl];omega
   have hz8:zRnL.length=8:=rfl;have hBz:kC (kC cu.toList (k*8) (vs.drop ((k+1)*8))) ((m-1)*8) zRnL=(kC cu.toList (k*8) (vs.drop ((k+1)*8))).take ((m-1)*8)++zRnL++(kC cu.toList (k*8) (vs.drop ((k+1)*8))).drop ((m-1)*8+zRnL.length):=kQ _ _ _ (by rw [hz8,hAl];omega)
   have hct:cu.toList.take (k*8)=vs.take (k*8):=by rw [←hc4,List.take_take,Nat.min_eq_left (by omega)]
   have hvn:(rows.take (k*8)++rows.drop ((k+1)*8)).map jmz=vs.take (k*8)++vs.drop ((k+1)*8):=by rw [List.map_append,List.map_take,List.map_drop,hvs]
   have hnl:(vs.take (k*8)++vs.drop ((k+1)*8)).length=(m-1)*8:=by rw [List.length_append,List.length_take,hdl,hvl];omega
   have htk:(kC (kC cu.toList (k*8) (vs.drop ((k+1)*8))) ((m-1)*8) zRnL).take ((m-1)*8)=vs.take (k*8)++vs.drop ((k+1)*8):=by
    rw [hBz,List.append_assoc,List.take_append_of_le_length (by rw [List.length_take,hAl];omega),List.take_take,Nat.min_self,hA,hct]
    exact List.take_left' hnl
   have hfl:(kC (kC cu.toList (k*8) (vs.drop ((k+1)*8))) ((m-1)*8) zRnL).length=c*8:=by
    rw [hBz];simp only [List.length_append,List.length_take,List.length_drop,hAl,hz8];omega
   generalize kC (kC cu.toList (k*8) (vs.drop ((k+1)*8))) ((m-1)*8) zRnL=us at*
   have hon:Only [b] w ((w.drew.setCells b (k*8) (vs.drop ((k+1)*8))).setCells b ((m-1)*8) zRnL):=⟨by rw [s2.1,s1.1];rfl,by rw [s2.2.1,s1.2.1];rfl,by rw [s2.2.2.1,s1.2.2.1];rfl,by rw [s2.2.2.2,s1.2.2.2];exact Nat.le_refl _,fun q hq hqn=>by
    have hqb:q≠b:=by simpa using hqn
    rw [w4 q hqb,w2 q hqb];rfl⟩
   have t1:=hR.setO (g:=g) (ob:=.none) (S:=[]) rfl (Fresh.nil _) (by simp)
   have t2:=t1.world' (hon.below (fun s hs=>by simp at hs;omega) hB) fun q x hx=>by
    split at hx
    ·simp at hx
    ·rename_i hq
     exact hon.block x (hlt q x hx) fun h=>hR.dj q g hq x hx (by rw [hFg];exact h)
   refine ⟨_,.c (.sl 8 tRn (rows.take (k*8)++rows.drop ((k+1)*8))),_,[b],_,rfl,t2,?_,Fresh.one _ _ hbB,fun q x hx=>?_,rfl,rfl⟩
   ·refine ⟨(rows.take (k*8)++rows.drop ((k+1)*8)).map jmz,[b],[],⟨m-1,⟨?_,.inr ⟨b,c,us.toArray,rfl,Nat.zero_le _,w3,by omega,hc2,by simpa using hfl,?_⟩⟩,rfl⟩,d_mk _ _ hf2,by simp⟩
    ·rw [hvn,hnl]
    ·rw [hvn];simpa [hnl] using htk
   ·split
    ·simp
    ·rename_i hq
     intro hx';simp at hx;subst hx;exact hR.dj q g hq x hx' (by rw [hFg];simp)⟩
theorem jxa (u:UInt8):IntKind.i64.wrap (u.toNat:Int)=u.toNat:=jg (by omega) (by have:=u.toNat_lt;omega)
section
variable {P:Program} {β N B:Nat} {s:St} {K:St→Prop} {d:Option Nat} {gd:Option (Nat×Bool)} {a:Act} {w w0:World} {F:Nat→List Nat}
def jwG (o' o:Nat→Ob):Prop:=∀g,o' g=o g∨o' g=.none
open Classical in
theorem RelF.less (h:RelF B w0 N s a w F) {o':Nat→Ob} (ho:jwG o' s.o):∃F':Nat→List Nat,RelF B w0 N ⟨s.t,o'⟩ a w F'∧∀g,∀b∈F' g,b∈F g:=by
 have hs:∀g,∀b∈(if o' g=s.o g then F g else []),b∈F g:=fun g b hb=>by
  split at hb
  ·exact hb
  ·simp at hb
 refine ⟨fun g=>if o' g=s.o g then F g else [],⟨h.below,h.hB,h.df,h.sz,h.sl,fun g=>?_,fun g=>?_,fun g g' hne b hb hb'=>h.dj g g' hne b (hs g b hb) (hs g' b hb')⟩,hs⟩
 ·show ORel B w (o' g) _
  by_cases e:o' g=s.o g
  ·rw [if_pos e,e];exact h.ob g
  ·rw [if_neg e,(ho g).resolve_left e];rfl
 ·by_cases e:o' g=s.o g
  ·rw [if_pos e];exact h.fr g
  ·rw [if_neg e];exact Fresh.nil _
def jBm (P:Program) (f:FuncId) (args:List AV) (o:Nat→Ob) (A:AV) (o':Nat→Ob):Prop:=Inl P f args o fun av o2=>av=A∧o2=o'
theorem joU {f:FuncId} {args:List AV} {o o':Nat→Ob} {A:AV} (h:Inl P f args o fun av o2=>av=A∧jwG o' o2):jBm P f args o A o':=
 ⟨h.1,fun B w F xs h1 h2=>(h.2 B w F xs h1 h2).mono fun e w' ⟨v,av,o2,F',k1,k2,k3,k4,k5⟩=>by
  obtain ⟨F2,r,_⟩:=k2.less (o':=o') k5;exact ⟨v,av,o',F2,k1,r,k3,k4,rfl⟩⟩
theorem kg {f:Nat} {args:List X} {vs:List AV} {A:AV} {o':Nat→Ob} (h:jBm P f vs s.o A o') (ha:args.map s.ev=vs) (hk:K (St.put ⟨s.t,o'⟩ d A)):vg P β ⟨d,gd,.call f args⟩ s K:=by
 subst ha;exact jky h fun av o2 ⟨h1,h2⟩=>by subst h1 h2;exact hk
theorem jz {g M:Nat} (h:g<M) (n:Nat) (hn:M≤n):(g=n)=False:=eq_false (by omega)
end
def jzc (o:Nat→Ob) (g:Nat) (ob:Ob):Nat→Ob:=fun k=>if k=g then ob else o k
theorem jzb (o:Nat→Ob) (g:Nat) (ob:Ob) (k:Nat):jzc o g ob k=if k=g then ob else o k:=(rfl)
theorem jbb {g:Nat} {o o2:Nat→Ob} {ob:Ob} (h1:o2 g=ob) (h2:∀k,k≠g→o2 k=o k):jwG (jzc o g ob) o2:=fun k=>by
 rw [jzb];by_cases e:k=g
 ·rw [if_pos e,e];exact .inl h1.symm
 ·rw [if_neg e];exact .inl (h2 k e).symm
attribute [go_sem] jzb
def St.ofB (T:List (Nat×AV)) (O:List (Nat×Ob)) (M:Nat) (ob:Nat→Ob):St:=⟨lkT T,fun j=>if j<M then ob j else lkO O j⟩
theorem ofB_t (T:List (Nat×AV)) (O:List (Nat×Ob)) (M:Nat) (ob:Nat→Ob) (n:Nat):(St.ofB T O M ob).t n=lkT T n:=(rfl)
theorem ofB_o (T:List (Nat×AV)) (O:List (Nat×Ob)) (M:Nat) (ob:Nat→Ob) (n:Nat):(St.ofB T O M ob).o n=if n<M then ob n else lkO O n:=(rfl)
attribute [go_sem] ofB_t ofB_o
theorem kO {s:St} {T:List (Nat×AV)} {O:List (Nat×Ob)} {M:Nat} {ob:Nat→Ob} (ks:List (Option Nat)) (h:jw6 s T∧jqf s ks O) (hf:∀j,j<M→s.o j=ob j) (hk:∀k∈jqV ks,M≤k) (hn:jjH (jqV ks)=true:=by decide):Wk s (St.ofB T O M ob):=fun B N w0 w a F hr=>by
 have hob:=jt0 hr.ob h.2;have hdj:=jv5 (ks:=ks) (O:=O) hr.dj (jbG hn);refine ⟨fun j=>if j<M then F j else fp F ks O j,⟨hr.below,hr.hB,hr.df,hr.sz,jv8 hr.sl h.1,fun g=>?_,fun g=>?_,fun g g' hne x hx hx'=>?_⟩,fun g x hx=>?_⟩
 ·by_cases c:g<M
  ·simp only [St.ofB,if_pos c];rw [←hf g c];exact hr.ob g
  ·simp only [St.ofB,if_neg c];exact hob g
 ·by_cases c:g<M
  ·simp only [if_pos c];exact hr.fr g
  ·simp only [if_neg c];exact jv4 hr.fr ks O g
 ·by_cases c:g<M
  ·simp only [if_pos c] at hx
   by_cases c':g'<M
   ·simp only [if_pos c'] at hx';exact hr.dj g g' hne x hx hx'
   ·simp only [if_neg c'] at hx'
    obtain ⟨k,h1,h2⟩:=jfd hx';exact hr.dj g k (by have:=hk k h1;omega) x hx h2
  ·simp only [if_neg c] at hx
   by_cases c':g'<M
   ·simp only [if_pos c'] at hx'
    obtain ⟨k,h1,h2⟩:=jfd hx;exact hr.dj k g' (by have:=hk k h1;omega) x h2 hx'
   ·simp only [if_neg c'] at hx';exact hdj g g' hne x hx hx'
 ·by_cases c:g<M
  ·simp only [if_pos c] at hx;exact ⟨g,hx⟩
  ·simp only [if_neg c] at hx
   obtain ⟨k,_,h2⟩:=jfd hx;exact ⟨k,h2⟩
abbrev jwF (b ty:Nat) (p m w t:Int) (E:List Ed) (η:jq):Ob:=.box b ty [.a (.v (.int .i64 p)),.a (.v (.int .i64 m)),.a (.v (.int .i64 w)),.a (.v (.int .i64 t)),.own (jy E) η]
abbrev ZPl (b ty:Nat):Ob:=.box b ty [.a (.v (.int .i64 0)),.a (.v (.int .i64 0)),.a (.v (.int .i64 0)),.a (.v (.int .i64 0)),.a (.v (.slice none 0 0))]
abbrev DdR (b ty:Nat) (d:Dd) (η:jq):Ob:=.box b ty [.a (.v (.int .i64 d.kind)),.a (.v (.int .i64 d.run)),.a (.v (.int .i64 d.plan.prio)),.a (.v (.int .i64 d.plan.most)),.a (.v (.int .i64 d.plan.wait)),.a (.v (.int .i64 d.plan.tasks)),.own (jy d.plan.edges) η,.a (.v (.int .i64 d.task)),.a (.v (.int .i64 d.tri)),.a (.v (.int .i64 d.worker)),.a (.v (.int .i64 d.draw))]
open Go.RowKit Go.ChangeShapes Go.WideShapes Go.Deep Go.ChangeAt
theorem rByte:ReadsAs Tryz.prog 5 (fun u:UInt8=>[qY u]) (fun _=>True):=by
 intro H enc w base spare held n cs y hy;obtain ⟨i,rfl,_,hw⟩:=DataW.trod_int (k:=.u8) (by kernel_rfl) hy
 have hi:0≤i∧i≤255:=by simpa [Lit.wf,IntKind.min,IntKind.max,IntKind.signed,IntKind.bits] using hw
 refine ⟨UInt8.ofNat i.toNat,trivial,[],?_⟩
 have he:((UInt8.ofNat i.toNat).toNat:Int)=i:=by
  rw [UInt8.toNat_ofNat'];omega
 have hb:qY (UInt8.ofNat i.toNat)=D.val (.int .u8 i):=by simp only [qY];rw [he]
 dsimp only;rw [hb];exact RepL.val_ RepL.nil_
theorem jz5:ReadsAs Tryz.prog 99 (fun l=>[jcB l]) (fun l=>∀e∈l,True):=by
 have h:=jvB (size:=1) (ty:=5) (P:=Tryz.prog) (t:=99) (e:=5) (by kernel_rfl) rByte (by kernel_rfl) (fun _=>rfl) (by decide)
 refine h.map id (fun l=>?_) (fun _ h=>h)
 have e:l.flatMap (fun u=>[qY u])=l.map qY:=by
  induction l with
  |nil=>rfl
  |cons x l ih=>simp only [List.flatMap_cons,List.map_cons,ih];rfl
 simp only [jcB,id];rw [e]
end Go.Proofs.YtmnpailnelmpiaaGreat
