/- Parts. -/
import Derived.Test.YtcehjhiglmifjaaGreatQDeedB
import Derived.Test.YtcehjhiglmifjaaGreatQSwept
import Derived.Laws.Strings
import Derived.Lib.SliceRun
import Derived.Deep.RegionLaw
set_option linter.unusedSimpArgs false
set_option linter.unusedVariables false
set_option maxHeartbeats 16000000
set_option maxRecDepth 100000
namespace Go.Proofs.YtcehjhiglmifjaaGreat
open Go.RowKit Go.Sort
abbrev jaY (l:List UInt8):D:=.sl 1 5 (l.map qX)
theorem jat (l:List UInt8):(jaY l).len=l.length:=by simp [D.len,D.cells,D.size]
noncomputable def jaE (r:Rn):Rn:=if (kF r&&r.state==1)=true then ⟨r.id,r.plan,4,qU jA r.tasks r.tasks.length⟩ else r
theorem jiF {r:Rn} (h:(kF r&&r.state==1)=false):jaE r=r:=by simp [jaE,h]
theorem jnP {r:Rn} (h:(kF r&&r.state==1)=true):jaE r=⟨r.id,r.plan,4,qU jA r.tasks r.tasks.length⟩:=by simp [jaE,h]
theorem jBf {r:Rn} (h:RunOkP r) (h1:r.state=1):cS 5 r.tasks=0:=by
 have h2:=h.state;rw [h1] at h2;unfold jgo at h2;split at h2
 ·omega
 split at h2
 ·omega
 split at h2
 ·omega
 split at h2
 ·rename_i h3;exact h3.1
 ·omega
theorem jsf {ts:List Tk} (h:cS 5 ts=0) (k:Nat):qU (qm (-1)) ts k=qU jA ts k:=by
 refine jk5 (fun j y hy=>?_) k
 have h5:y.state≠5:=jrb h hy;have hj:(j:Int)≠-1:=by omega
 simp [qm,jA,h5,hj]
def jhq (y:Yd) (k:Nat) (r:Rn):Yd:=⟨y.now,y.seq,y.shelf,y.runs.set k r⟩
noncomputable def qc (y:Yd) (id:Int):Int:=if jD y=false then 8 else if runAt y id<0 then 10 else if ((y.runs[(runAt y id).toNat]?).getD default).state=1 then 0 else 12
noncomputable def kQ (y:Yd) (id:Int):Yd:=if qc y id=0 then jhq y (runAt y id).toNat (jaE ((y.runs[(runAt y id).toNat]?).getD default)) else y
def kM (y:Yd) (k:Nat) (r:Rn):Yd:=jsg ⟨y.now,y.seq,y.shelf,y.runs.set k r⟩ r (vP ((y.runs[k]?).getD default).tasks r.tasks r.tasks.length)
def jby (l:List Rn) (k:Nat) (row:List D):List D:=(l.take k).flatMap jd++(row++(l.drop (k+1)).flatMap jd)
abbrev rnV (r:Rn) (x5 x7:Value):List D:=[.val (.int .i64 r.id),.val (.int .i64 r.plan.prio),.val (.int .i64 r.plan.most),.val (.int .i64 r.plan.wait),.val (.int .i64 r.plan.tasks),.val x5,.val (.int .i64 r.state),.val x7]
section
variable {l:List Rn} {k:Nat} {r:Rn} {row row':List D}
theorem qD (hk:k<l.length):((l.take k).flatMap jd).length=k*8:=by rw [jgw,List.length_take,Nat.min_eq_left (Nat.le_of_lt hk)]
theorem jlM (h:l[k]?=some r):l.flatMap jd=jby l k (jd r):=ja8 (enc:=jd) h
theorem jaK (hk:k<l.length) (j:Nat) (hj:j<row.length):(jby l k row)[k*8+j]?=row[j]?:=by
 rw [jby,List.getElem?_append_right (by rw [qD hk];omega),qD hk,Nat.add_sub_cancel_left,List.getElem?_append_left hj]
theorem jae (hk:k<l.length) (j:Nat) (hj:j<row.length) (d:D):(jby l k row).set (k*8+j) d=jby l k (row.set j d):=by
 rw [jby,List.set_append_right _ _ (by rw [qD hk];omega),qD hk,Nat.add_sub_cancel_left,List.set_append_left _ _ hj];rfl
theorem jtG (hk:k<l.length) (h8:row.length=8):((jby l k row).drop (k*8)).take 8=row:=by
 rw [jby,List.drop_append_of_le_length (by rw [qD hk];exact Nat.le_refl _),List.drop_eq_nil_of_le (by rw [qD hk];exact Nat.le_refl _),List.nil_append,←h8,List.take_left]
theorem jiz (hk:k<l.length) (h8:row.length=8):(jby l k row).length=l.length*8:=by
 have h1:=jgw (l.drop (k+1));rw [List.length_drop] at h1;rw [jby,List.length_append,List.length_append,qD hk,h1,h8];omega
theorem jv6 (hk:k<l.length) (h8:row.length=8) (h8':row'.length=8):kD (jby l k row) (k*8) row'=jby l k row':=by
 have h1:=qD hk;have h2:=jiz hk h8;rw [kU _ _ _ (by rw [h2,h8'];omega),jby,List.take_left' h1,h8']
 have:((l.take k).flatMap jd++(row++(l.drop (k+1)).flatMap jd)).drop (k*8+8)=(l.drop (k+1)).flatMap jd:=by
  rw [←List.append_assoc];exact List.drop_left' (by rw [List.length_append,h1,h8])
 rw [this,jby,List.append_assoc]
theorem jnf (hk:k<l.length) (h8:row.length=8):(D.sl 8 tRn (jby l k row)).len=l.length:=by
 simp only [D.len,D.cells,D.size,jiz hk h8];exact Nat.mul_div_cancel _ (by decide)
theorem jlL (hk:k<l.length):D.sl 8 tRn (jby l k (jd r))=jK (l.set k r):=by
 have h1:(l.set k r)[k]?=some r:=List.getElem?_set_self hk;have h2:=jlM h1
 have h3:jby (l.set k r) k (jd r)=jby l k (jd r):=by
  rw [jby,jby,List.take_set_of_le (Nat.le_refl _),List.drop_set_of_lt (Nat.lt_succ_self k)]
 rw [jK,h2,h3]
end
theorem jyj {flat:Bool} {p:List Nat} {k n:Nat} {η:js} {K:js→Prop} (h:∀η',K η'):stH flat p k n η K:=by
 cases flat with
 |true=>exact h _
 |false=>exact fun η' _=>h η'
theorem jez (r:Rn) (t:Int):(qI r t).tasks.length=r.tasks.length:=by
 unfold qI;split
 ·simp only [jhV,jbk]
 ·rfl
theorem kX (r:Rn) (t:Int):(jG r t).tasks.length=r.tasks.length:=by
 unfold jG;split
 ·unfold zg
  split
  ·simp only [List.length_set]
  ·simp only [vX,List.length_set]
 ·rfl
theorem RunOkP.le12 {r:Rn} (h:RunOkP r):r.tasks.length≤12:=by
 obtain ⟨n,h1,_,h2,_⟩:=jcb h.plan;have:=h.len;omega
theorem jyY {was ts:List Tk} {k:Nat} {x z:Tk} (h:ts[k]?=some x) (hz:was[k]?=some z):joO was ts k=((x.state==2)&&!(z.state==2)):=by
 have:=(List.getElem?_eq_some_iff.1 hz).1;simp [joO,kw h,kw hz,this]
section
variable {P:Program} {β:Nat} {s:St} {K:St→Prop} {d:Option Nat} {g:Option (Nat×Bool)}
theorem Inl.weak {f:FuncId} {args:List AV} {o:Nat→Ob} {R R':AV→(Nat→Ob)→Prop} (h:Inl P f args o R) (hk:∀av o',R av o'→R' av o'):Inl P f args o R':=
 ⟨h.1,fun B w F xs h1 h2=>(h.2 B w F xs h1 h2).mono fun e w' ⟨v,av,o',F',k1,k2,k3,k4⟩=>⟨v,av,o',F',k1,k2,k3,hk _ _ k4⟩⟩
theorem jkR {f:Nat} {args:List X} {R:AV→(Nat→Ob)→Prop} (h:Inl P f (args.map s.ev) s.o R) (hk:∀av o',R av o'→K (St.put ⟨s.t,o'⟩ d av)):vd P β ⟨d,g,.call f args⟩ s K:=kV (h.weak hk)
theorem kN {f:Nat} {args:List X} {vs:List AV} {R:AV→(Nat→Ob)→Prop} (ha:args.map s.ev=vs) (h:Inl P f vs s.o R) (hk:∀av o',R av o'→K (St.put ⟨s.t,o'⟩ d av)):vd P β ⟨d,g,.call f args⟩ s K:=by subst ha;exact jkR h hk
theorem jm2 (x:A0):x.sim x=True:=by cases x<;>simp [A0.sim]
theorem jm0:∀l:List A0,simL l l=True
 |[]=>rfl
 |x::l=>by simp [simL,jm2,jm0 l]
theorem jmZ (x:Cell):x.sim x=True:=by cases x<;>simp [Cell.sim,jm2]
theorem jm1:∀l:List Cell,simC l l=True
 |[]=>rfl
 |x::l=>by simp [simC,jmZ,jm1 l]
theorem jT (x:Ob):x.sim x=True:=by cases x<;>simp [Ob.sim,jm1]
end
abbrev jB2 (o o':Nat→Ob):Prop:=o' 92=o 92∧o' 93=o 93∧o' 94=o 94∧o' 95=o 95∧o' 96=o 96∧o' 97=o 97
def EpK (P:Program) (f:FuncId) (k:Nat) (t:Int) (y:Yd) (r2:Rn):Prop:=∀(o:Nat→Ob) (b:Nat) (e2 e3:js),o 90=kq b tYd y.now y.seq y.shelf e2 y.runs e3→
 Inl P f [.c (.ep 90 3 [] (k*8) (e3 [])),Ni t] o fun av o'=>av=.tup []∧o' 90=kq b tYd y.now y.seq y.shelf e2 (y.runs.set k r2) e3∧o' 91=o 91∧jB2 o o'
def jvz (P:Program) (f:FuncId) (caps:List A0) (H:Ob) (k:Nat) (y:Yd) (r2:Rn):Prop:=∀(o:Nat→Ob) (b:Nat) (e2 e3:js),o 90=kq b tYd y.now y.seq y.shelf e2 y.runs e3→o 91=H→
 Turns P f ([.c (.ep 90 3 [] (k*8) (e3 []))]++caps.map .c) o fun rt o'=>rt=.tup []∧o' 90=kq b tYd y.now y.seq y.shelf e2 (y.runs.set k r2) e3∧o' 91=H∧jB2 o o'
section
variable {l:List Rn} {k:Nat} {r:Rn}
theorem qY (h:l[k]?=some r):((l.flatMap jd).drop (k*8+7)).take 1=[jB r.tasks]:=qw (enc:=jd) (size:=8) (fun _=>rfl) h (j:=7) (n:=1) (by decide)
theorem jxZ (h:l[k]?=some r):((l.flatMap jd).drop (k*8+6)).take 1=[.val (.int .i64 r.state)]:=qw (enc:=jd) (size:=8) (fun _=>rfl) h (j:=6) (n:=1) (by decide)
theorem jBX (h:l[k]?=some r):((l.flatMap jd).drop (k*8+1)).take 5=ja r.plan:=qw (enc:=jd) (size:=8) (fun _=>rfl) h (j:=1) (n:=5) (by decide)
theorem jBY (h:l[k]?=some r):((l.flatMap jd).drop (k*8+1+1)).take 1=[.val (.int .i64 r.plan.most)]:=qw (enc:=jd) (size:=8) (fun _=>rfl) h (j:=2) (n:=1) (by decide)
theorem vm (h:l[k]?=some r):k*8+7+1≤(l.flatMap jd).length:=qu (enc:=jd) (size:=8) (fun _=>rfl) h (j:=7) (n:=1) (by decide)
theorem jxI (h:l[k]?=some r):k*8+6+1≤(l.flatMap jd).length:=qu (enc:=jd) (size:=8) (fun _=>rfl) h (j:=6) (n:=1) (by decide)
theorem jBo (h:l[k]?=some r):k*8+1+5≤(l.flatMap jd).length:=qu (enc:=jd) (size:=8) (fun _=>rfl) h (j:=1) (n:=5) (by decide)
theorem jBp (h:l[k]?=some r):k*8+1+1+1≤(l.flatMap jd).length:=qu (enc:=jd) (size:=8) (fun _=>rfl) h (j:=2) (n:=1) (by decide)
theorem jtQ (h:l[k]?=some r) (v:Int):D.put [] (k*8+6) [.val (.int .i64 v)] (jK l)=jK (l.set k ⟨r.id,r.plan,v,r.tasks⟩):=jbc (enc:=jd) (size:=8) (fun _=>rfl) h (j:=6) rfl (by simp [jd,ja])
theorem qJ (h:l[k]?=some r) {ts:List Tk} {i:Nat} {ds:List D} (hp:D.put [] i ds (jB r.tasks)=jB ts):D.put [k*8+7] i ds (jK l)=jK (l.set k ⟨r.id,r.plan,r.state,ts⟩):=by
 have hk:=(List.getElem?_eq_some_iff.1 h).1;have h7:(l.flatMap jd)[k*8+7]?=some (jB r.tasks):=jo0 (j:=7) h (by decide)
 have e:(l.flatMap jd).set (k*8+7) (jB ts)=jby l k (jd ⟨r.id,r.plan,r.state,ts⟩):=by
  rw [jlM h,jae hk 7 (by simp [jd,ja])];rfl
 rw [←jlL hk,←e];simp only [jK,D.put,h7,hp]
end
theorem jzs {k t:Nat} {y:Yd} {r:Rn} (hr:y.runs[k]?=some r) (hrun:vq r t=true):EpK Tryz.prog 124 k t y (qI r t):=by
 intro o b10 e2 e3 h10;refine qn (β:=7000000) Tryz.func124 jkx (by simp) ?_
 unfold jjV;obtain ⟨t',x,ht',hx,hs,hP⟩:=jaJ hrun;obtain rfl:t=t':=by omega
 obtain ⟨n,hn,hn1,h12,h30,hes,hnd,-⟩:=jcb hP.plan;have hlen:=hP.len;have hkl:=(List.getElem?_eq_some_iff.1 hr).1;have htl':=(List.getElem?_eq_some_iff.1 hx).1;have h0t:(t:Int)≥0:=by omega
 have hx2:(r.tasks.set t ⟨4,x.need,x.tri,x.til⟩)[t]?=some ⟨4,x.need,x.tri,x.til⟩:=List.getElem?_set_self htl';have htl2:t<(r.tasks.set t ⟨4,x.need,x.tri,x.til⟩).length:=by rw [List.length_set];exact htl'
 have hS:∀r':Rn,(y.runs.set k r')[k]?=some r':=fun r'=>List.getElem?_set_self hkl
 have hr2:=hS ⟨r.id,r.plan,r.state,r.tasks.set t ⟨4,x.need,x.tri,x.til⟩⟩;have hr3:=hS ⟨r.id,r.plan,r.state,r.tasks.set t ⟨4,x.need,x.tri,0⟩⟩;simp only [go_sem,h10,Nat.add_zero,htl',h0t,qY hr,vm hr,jX hr,qJ hr (jaW hx 4),qJ hr (zA hx 4),vl hx,qz hx,jaa hx,zb hx,htl2,qY hr2,vm hr2,jX hr2,jjt hx2,jvn hx2,qJ hr2 (jeA hx2 0),List.set_set,jBX hr3,jBo hr3,ja,jZ hr3];refine jc (jjj r.plan t hP.plan) (by simp only [go_sem,jd,ja,jag hr3,jZ hr3]) fun ηb=>?_
 simp only [go_sem,jd,ja,jag hr3,jZ hr3];have hbl:=jrc hn h12 h30 t;have hlD:(vI r.plan r.tasks t x).length=r.tasks.length:=jbk _ _ _ _;have hR:qI r t=jhV r t x:=jey hx hrun;generalize hts:r.tasks.set t ⟨4,x.need,x.tri,0⟩=ts0 at*;have htl:ts0.length=r.tasks.length:=by rw [←hts,List.length_set]
 have hdn:vI r.plan r.tasks t x=(jbu r.plan t).foldl jaB ts0:=by rw [←hts];rfl
 refine jn (fun i:Nat=>St.of [(0,.c (.ep 90 3 [] (k*8) (e3 []))),(26,Hd 26 (ηb 0)),(27,Ni (jbu r.plan t).length),(28,Ni i)] [(90,kq b10 tYd y.now y.seq y.shelf e2 (y.runs.set k ⟨r.id,r.plan,r.state,((jbu r.plan t).take i).foldl jaB ts0⟩) e3),(91,o 91),(92,o 92),(93,o 93),(94,o 94),(95,o 95),(96,o 96),(97,o 97),(26,.loose (jh (jbu r.plan t)) (ηb 0))]) (fun i=>i≤(jbu r.plan t).length) (fun i=>(jbu r.plan t).length-i) 0 (by (try dsimp only);first|omega|(simp;done)|(and_intros<;>first|omega|simp)) (jg [some 90,some 91,some 92,some 93,some 94,some 95,some 96,some 97,some 700002600] (by simp only [go_sem,jd,ja,List.take_zero,List.foldl_nil,jT]<;>and_intros<;>first|rfl|assumption|trivial)) ?_
 rintro j hj;by_cases hlt:j<(jbu r.plan t).length
 ·have hlt':(j:Int)<(jbu r.plan t).length:=by omega
  obtain ⟨v,hv⟩:=je hlt;have hvb:=jpO hn (List.mem_of_getElem? hv);have hfl:=jfu ((jbu r.plan t).take j) ts0;have hft:=jle hv ts0;generalize ((jbu r.plan t).take j).foldl jaB ts0=ts at*;have hvl:v.toNat<ts.length:=by omega
  have hv0:=hvb.1;obtain ⟨z,hz0⟩:=je hvl;have hw:IntKind.i64.wrap ((j:Int)+1)=((j+1:Nat):Int):=jf (by omega) (by omega)
  rw [jp6 hz0] at hft;generalize hnd':IntKind.i64.wrap (z.need-1)=nd at*;have hy1:(ts.set v.toNat ⟨z.state,nd,z.tri,z.til⟩)[v.toNat]?=some ⟨z.state,nd,z.tri,z.til⟩:=List.getElem?_set_self hvl;have q1:=hS ⟨r.id,r.plan,r.state,ts⟩;have q2:=hS ⟨r.id,r.plan,r.state,ts.set v.toNat ⟨z.state,nd,z.tri,z.til⟩⟩;cases hz:nd==0
  ·have hz':¬nd=0:=by simpa using hz
   rw [if_neg hz'] at hft;simp only [go_sem,jd,ja,Nat.add_zero,hlt,hlt',jj hv,ji hlt,qY q1,vm q1,jX q1,hvl,hv0,jrg hz0,jqL hz0,hnd',qJ q1 (jtP hz0 nd),List.set_set,qY q2,vm q2,jX q2,jrg hy1,jqL hy1,hz,hw];exact ⟨j+1,by (try dsimp only);first|omega|assumption|(and_intros<;>first|omega|assumption),(jg [some 90,some 91,some 92,some 93,some 94,some 95,some 96,some 97,some 26] (by simp only [go_sem,jd,ja,hft,jT]<;>and_intros<;>first|rfl|assumption|trivial)),by (try dsimp only);omega⟩
  ·have hz':nd=0:=by simpa using hz
   rw [if_pos hz'] at hft;simp only [go_sem,jd,ja,Nat.add_zero,hlt,hlt',jj hv,ji hlt,qY q1,vm q1,jX q1,hvl,hv0,jrg hz0,jqL hz0,hnd',qJ q1 (jtP hz0 nd),List.set_set,qY q2,vm q2,jX q2,jrg hy1,jqL hy1,hz,vl hy1,qz hy1,qJ q2 (jaW hy1 2),qJ q2 (zA hy1 2),hw];exact ⟨j+1,by (try dsimp only);first|omega|assumption|(and_intros<;>first|omega|assumption),(jg [some 90,some 91,some 92,some 93,some 94,some 95,some 96,some 97,some 26] (by simp only [go_sem,jd,ja,hft,jT]<;>and_intros<;>first|rfl|assumption|trivial)),by (try dsimp only);omega⟩
 have hlt':¬(j:Int)<(jbu r.plan t).length:=by omega
 rw [List.take_of_length_le (by omega)]
 rw [hR,←hdn];have hrr:jhV r t x=⟨r.id,r.plan,if (qM 4 (vI r.plan r.tasks t x)).length=r.tasks.length then 2 else r.state,vI r.plan r.tasks t x⟩:=rfl
 rw [hrr];generalize vI r.plan r.tasks t x=tD at*;have q3:=hS ⟨r.id,r.plan,r.state,tD⟩;simp only [go_sem,jd,ja,Nat.add_zero,hlt',jhl q3,jcy q3,qY q3,vm q3,jX q3,ke q3,jZ q3];refine jc (kJ ⟨r.id,r.plan,r.state,tD⟩ 4 (by simp only;omega)) (by simp only [go_sem,jd,ja,jZ q3,ke q3,jX q3]) fun η=>?_
 simp only [go_sem,jd,ja,jZ q3,ke q3,jX q3];rw [←hlD];generalize hq:(qM 4 tD).length=q at*;cases he:(q:Int)==(tD.length:Int)
 ·have he':¬q=tD.length:=juA he
  rw [if_neg he'];simp only [go_sem,jd,ja,Nat.add_zero,he,hq];exact ⟨rfl,rfl,rfl,rfl,rfl,rfl⟩
 ·have he':q=tD.length:=juz he
  rw [if_pos he'];simp only [go_sem,jd,ja,Nat.add_zero,he,hq,jxZ q3,jxI q3,jtQ q3,List.set_set];exact ⟨rfl,rfl,rfl,rfl,rfl,rfl⟩
theorem jmu {k t:Nat} {y:Yd} {r:Rn} (hr:y.runs[k]?=some r) (hrun:vq r t=true):EpK Tryz.prog 118 k t y (jG r t):=by
 intro o b10 e2 e3 h10;refine qn (β:=7000000) Tryz.func118 jjN (by simp) ?_
 unfold jhF;obtain ⟨t',x,ht',hx,hs,hP⟩:=jaJ hrun;obtain rfl:t=t':=by omega
 obtain ⟨n,hn,hn1,h12,h30,hes,hnd,-⟩:=jcb hP.plan;have hlen:=hP.len;have hkl:=(List.getElem?_eq_some_iff.1 hr).1;have htl':=(List.getElem?_eq_some_iff.1 hx).1;have h0t:(t:Int)≥0:=by omega
 have hx2:(r.tasks.set t ⟨x.state,x.need,x.tri,0⟩)[t]?=some ⟨x.state,x.need,x.tri,0⟩:=List.getElem?_set_self htl';have hS:∀r':Rn,(y.runs.set k r')[k]?=some r':=fun r'=>List.getElem?_set_self hkl
 have q1:=hS ⟨r.id,r.plan,r.state,r.tasks.set t ⟨x.state,x.need,x.tri,0⟩⟩;simp only [go_sem,h10,Nat.add_zero,htl',h0t,qY hr,vm hr,jX hr,jjt hx,jvn hx,qJ hr (jeA hx 0),qY q1,vm q1,jX q1,jlq hx2,jla hx2,jBY q1,jBp q1];by_cases hm:x.tri<r.plan.most
 ·have hR:jG r t=⟨r.id,r.plan,r.state,r.tasks.set t ⟨2,x.need,x.tri,0⟩⟩:=by rw [qC hx hrun,zg,if_pos hm]
  simp only [go_sem,Nat.add_zero,hm,hR,qY q1,vm q1,jX q1,jaa hx2,vl hx2,zb hx2,qz hx2,qJ q1 (jaW hx2 2),qJ q1 (zA hx2 2),List.set_set];exact ⟨rfl,rfl,rfl,rfl,rfl,rfl⟩
 have hR:jG r t=⟨r.id,r.plan,3,qU jA (r.tasks.set t ⟨5,x.need,x.tri,0⟩) r.tasks.length⟩:=by rw [qC hx hrun,zg,if_neg hm]
 rw [hR,←jpJ hP hx hs];simp only [go_sem,Nat.add_zero,hm,qY q1,vm q1,jX q1,jaa hx2,vl hx2,zb hx2,qz hx2,qJ q1 (jaW hx2 5),qJ q1 (zA hx2 5),List.set_set];have htl:(r.tasks.set t ⟨5,x.need,x.tri,0⟩).length=r.tasks.length:=by rw [List.length_set]
 generalize r.tasks.set t ⟨5,x.need,x.tri,0⟩=ts0 at*;refine kV (qn (β:=8000000) Tryz.func171 jcJ (by simp) ?_)
 unfold jcZ;have q2:=hS ⟨r.id,r.plan,r.state,ts0⟩;simp only [go_sem,Nat.add_zero,qY q2,vm q2,jX q2];refine jn (fun i:Nat=>St.of [(0,.c (.ep 90 3 [] (k*8) (e3 []))),(1,Ni t),(10,Ni ts0.length),(11,Ni i)] [(90,kq b10 tYd y.now y.seq y.shelf e2 (y.runs.set k ⟨r.id,r.plan,r.state,qU (qm t) ts0 i⟩) e3),(91,o 91),(92,o 92),(93,o 93),(94,o 94),(95,o 95),(96,o 96),(97,o 97)]) (fun i=>i≤ts0.length) (fun i=>ts0.length-i) 0 (by (try dsimp only);first|omega|(simp;done)|(and_intros<;>first|omega|simp)) (jg [some 90,some 91,some 92,some 93,some 94,some 95,some 96,some 97] (by simp only [go_sem,jd,ja,jqD,jT]<;>and_intros<;>first|rfl|assumption|trivial)) ?_
 rintro j hj;have hml:=vX (f:=qm t) (ts:=ts0) (k:=j);by_cases hlt:j<ts0.length
 ·have hlt':(j:Int)<ts0.length:=by omega
  have h0j:(j:Int)≥0:=by omega
  obtain ⟨z,hz⟩:=je hlt;have hyk:=jfg (f:=qm t) hz;have hset:=jff (f:=qm t) hz;have hsame:=jnM (f:=qm t) hz;generalize qU (qm t) ts0 j=M at*;have hw:IntKind.i64.wrap ((j:Int)+1)=((j+1:Nat):Int):=jf (by omega) (by omega)
  have hlm:j<M.length:=by omega
  have p1:=hS ⟨r.id,r.plan,r.state,M⟩;cases hne:(j:Int) !=(t:Int)
  ·have hg:qm t j z=z:=by have:(j:Int)=t:=by simpa using hne
                          simp [qm,this]
   have hq:=hsame hg;simp only [go_sem,jd,ja,Nat.add_zero,hml,hlt',h0j,hlt,qY p1,vm p1,jX p1,hne,hw];exact ⟨j+1,by (try dsimp only);first|omega|assumption|(and_intros<;>first|omega|assumption),(jg [some 90,some 91,some 92,some 93,some 94,some 95,some 96,some 97] (by simp only [go_sem,jd,ja,hq,jT]<;>and_intros<;>first|rfl|assumption|trivial)),by (try dsimp only);omega⟩
  have hne':¬(j:Int)=t:=by simpa using hne
  cases hc4:z.state !=4
  ·have hg:qm t j z=z:=by have:z.state=4:=by simpa using hc4
                          simp [qm,this]
   have hq:=hsame hg;simp only [go_sem,jd,ja,Nat.add_zero,hml,hlt',h0j,hlt,qY p1,vm p1,jX p1,hne,jaa hyk,zb hyk,vl hyk,qz hyk,hc4,hw];exact ⟨j+1,by (try dsimp only);first|omega|assumption|(and_intros<;>first|omega|assumption),(jg [some 90,some 91,some 92,some 93,some 94,some 95,some 96,some 97] (by simp only [go_sem,jd,ja,hq,jT]<;>and_intros<;>first|rfl|assumption|trivial)),by (try dsimp only);omega⟩
  ·have hg:qm t j z=⟨6,z.need,z.tri,0⟩:=by
    have h1:¬z.state=4:=by simpa using hc4
    simp [qm,h1,hne']
   rw [hg] at hset;have hyk2:(M.set j ⟨6,z.need,z.tri,z.til⟩)[j]?=some ⟨6,z.need,z.tri,z.til⟩:=List.getElem?_set_self hlm;have p2:=hS ⟨r.id,r.plan,r.state,M.set j ⟨6,z.need,z.tri,z.til⟩⟩;simp only [go_sem,jd,ja,Nat.add_zero,hml,hlt',h0j,hlt,qY p1,vm p1,jX p1,hne,jaa hyk,zb hyk,vl hyk,qz hyk,hc4,qJ p1 (jaW hyk 6),qJ p1 (zA hyk 6),qY p2,vm p2,jX p2,qJ p2 (jeA hyk2 0),jjt hyk2,jvn hyk2,List.set_set,hset,hw];exact ⟨j+1,by (try dsimp only);first|omega|assumption|(and_intros<;>first|omega|assumption),(jg [some 90,some 91,some 92,some 93,some 94,some 95,some 96,some 97] (by simp only [go_sem,jd,ja,jT]<;>and_intros<;>first|rfl|assumption|trivial)),by (try dsimp only);omega⟩
 have hlt':¬(j:Int)<ts0.length:=by omega
 obtain rfl:j=ts0.length:=by omega
 rw [←htl];generalize qU (qm t) ts0 ts0.length=M at*;have p3:=hS ⟨r.id,r.plan,r.state,M⟩;simp only [go_sem,jd,ja,Nat.add_zero,hml,hlt',jxZ p3,jxI p3,jtQ p3,List.set_set];exact ⟨rfl,rfl,rfl,rfl,rfl,rfl⟩
section
variable {s:St} {K:St→Prop}
theorem jye (g c sz lo n:Nat) (p:List Nat) (x:Value) (l:List A0) (R:List Cell→St→Prop):qA s (.hs g c p x sz lo n::l) R=qA s l (fun cs s'=>R (.a (.hs g c p x sz lo n)::cs) s'):=by simp [qA,A0.one]
theorem jp5 {w:World} {d:D} {u:Value} {S:List Nat} (hd:d.isSl=true) (hs:0<d.size) (h:Rep w true d u S):jix u d.size 0 d.len=u:=by
 cases d with
 |val _=>cases hd
 |sl size ty cs=>
  obtain ⟨vs,T,S',hr,hl,_⟩:=h;have hlen:=RepL.length _ hl;rcases qy hr with ⟨rfl,rfl⟩|⟨g,n,c,rfl,_,h3,_⟩
  ·have:cs=[]:=List.eq_nil_of_length_eq_zero (by simpa using hlen.symm)
   subst this;simp [jix,D.len,D.cells,D.size]
  ·have e:(D.sl size ty cs).len=n:=by
    simp only [D.len,D.cells,D.size];rw [←hlen,h3];exact Nat.mul_div_cancel _ hs
   rw [e];simp only [jix,Nat.zero_mul,Nat.sub_zero];split
   ·rfl
   ·simp [Addr.add_lit]
theorem jjY {B:Nat} {w:World} {a a':A0} (h:∀u,A0Rel B w a u→A0Rel B w a' u):∀{c:Nat} {l:List Cell} {us:List Value} {S:List Nat},CRel B w l us S→l[c]?=some (.a a)→CRel B w (l.set c (.a a')) us S
 |_,[],_,_,_,hc=>by simp at hc
 |0,.a x::l,_,S,⟨v,us',e,h1,h2⟩,hc=>by
  simp at hc;subst hc;exact ⟨v,us',e,h _ h1,h2⟩
 |0,.own e ε::l,_,_,_,hc=>by simp at hc
 |c+1,.a x::l,_,S,⟨v,us',e,h1,h2⟩,hc=>by
  simp at hc;exact ⟨v,us',e,h1,jjY h h2 hc⟩
 |c+1,.own e ε::l,_,_,⟨v,us',T1,T2,e1,e2,h1,h2,h3,h4⟩,hc=>by
  simp at hc;exact ⟨v,us',T1,T2,e1,e2,h1,h2,h3,jjY h h4 hc⟩
theorem jmL (g c:Nat) {b ty:Nat} {cs:List Cell} {a a':A0} (hb:s.o g=.box b ty cs) (hc:cs[c]?=some (.a a)) (h:∀(B N:Nat) (w0 w:World) (act:Act) (F:Nat→List Nat),RelF B w0 N s act w F→∀u,A0Rel B w a u→A0Rel B w a' u) (hk:WkK (s.setO g (.box b ty (cs.set c (.a a')))) K):WkK s K:=by
 intro B N w0 w act F hr;have h4:=hr.ob g;rw [hb] at h4;obtain ⟨us,S1,q1,q2,q3⟩:=h4;refine hk _ _ _ _ _ _ (hr.setO (g:=g) (ob:=.box b ty (cs.set c (.a a'))) (S:=F g) ⟨us,S1,q1,jjY (h _ _ _ _ _ _ hr) q2 hc,q3⟩ (hr.fr g) fun g' hg' x hx hx'=>hr.dj g' g hg' x hx' hx)
theorem jgq (g c g2:Nat) {b ty:Nat} {cs:List Cell} {d:D} {η:js} (hb:s.o g=.box b ty cs) (hc:cs[c]?=some (.own d η)) (h2:s.o g2=.none) (hne:g2≠g) (hsz:0<d.size)
 (hk:WkK (((s.rm g c).setO g2 (.loose d η)).setO g (.box b ty (cs.set c (.a (.hs g2 0 [] (η []) d.size 0 d.len))))) K):WkK s K:=by
 have hcl:=(List.getElem?_eq_some_iff.1 hc).1;have ho:(s.o g).own c=some (d,η):=by rw [hb];simp [Ob.own,hc]
 refine qG g c g2 ho h2 hne fun hone=>?_
 have hrm:(s.rm g c).o g=.box b ty (cs.set c (.a (.v (η [])))):=by
  show (if g=g then (s.o g).rm c else _)=_
  rw [if_pos rfl,hb];simp only [Ob.rm,hc,rmC]
 refine jmL g c (a:=.v (η [])) (b:=b) (ty:=ty) (cs:=cs.set c (.a (.v (η [])))) (by
  show (if g=g2 then _ else (s.rm g c).o g)=_
  rw [if_neg (Ne.symm hne)];exact hrm) (List.getElem?_set_self hcl) (a':=.hs g2 0 [] (η []) d.size 0 d.len) (fun B N w0 w act F hr u hu=>?_) ?_
 ·have h3:=hr.ob g2
  have e:((s.rm g c).setO g2 (.loose d η)).o g2=.loose d η:=by show (if g2=g2 then _ else _)=_;rw [if_pos rfl]
  rw [e] at h3;obtain ⟨k1,u',k2,k3⟩:=h3;have e2:η []=u':=by rw [k3,zS k1]
  have hu':u=η []:=hu;rw [hu'];exact ⟨.inl (by rw [e2,jp5 k1 hsz k2]),hone⟩
 ·rw [List.set_set];exact hk
theorem ja2 (g c g2:Nat) {g3 sz n b ty:Nat} {cs:List Cell} {d:D} {η:js} {x:Value} (hb:s.o g=.box b ty cs) (hc:cs[c]?=some (.a (.hs g3 0 [] x sz 0 n))) (hx:x=η []) (hs:sz=d.size) (hn:n=d.len) (h2:s.o g2=.loose d η) (hsz:0<d.size)
 (hk:WkK (((s.setO g (.box b ty (cs.set c (.a (.v (η [])))))).setO g2 .none).setO g (.box b ty (cs.set c (.own d η)))) K):WkK s K:=by
 have hcl:=(List.getElem?_eq_some_iff.1 hc).1;have hne:g2≠g:=fun e=>by rw [e,hb] at h2;cases h2
 subst hx hs hn;refine jmL g c (a:=.hs g3 0 [] (η []) d.size 0 d.len) hb hc (a':=.v (η [])) (fun B N w0 w act F hr u hu=>?_) ?_
 ·have h3:=hr.ob g2
  rw [h2] at h3;obtain ⟨k1,u',k2,k3⟩:=h3;have e2:η []=u':=by rw [k3,zS k1]
  obtain ⟨h5,_⟩:=hu;have h5:=h5.resolve_right fun h=>absurd h.1 (Nat.lt_irrefl 0)
  show u=η [];rw [h5,e2,jp5 k1 hsz k2]
 ·refine qN g c g2 (b:=b) (ty:=ty) (cs:=cs.set c (.a (.v (η [])))) (d:=d) (η:=η) (by show (if g=g then _ else _)=_;rw [if_pos rfl]) (List.getElem?_set_self hcl) (by show (if g2=g then _ else s.o g2)=_;rw [if_neg hne];exact h2) ?_
  rw [List.set_set];exact hk
end
attribute [go_sem] jye
def CutR:List Rn→List D→(Nat→Ob)→Prop
 |[],rows,fam=>rows=[]∧∀j,fam j=.none
 |r::l,rows,fam=>∃(η5 η7:js) (rows':List D),rows=rnV r (η5 []) (η7 [])++rows'∧(η5 []).oneCell'=true∧(η7 []).oneCell'=true∧fam 0=.loose (jy r.plan.edges) η5∧fam 1=.loose (jB r.tasks) η7∧CutR l rows' (fun j=>fam (j+2))
theorem CutR.len:∀{l:List Rn} {rows:List D} {fam:Nat→Ob},CutR l rows fam→rows.length=l.length*8
 |[],_,_,⟨h,_⟩=>by rw [h];rfl
 |r::l,_,_,⟨_,_,rows',h,_,_,_,_,h2⟩=>by
  have:=CutR.len h2;rw [h,List.length_append,List.length_cons,this];simp only [List.length_cons,List.length_nil];omega
theorem CutR.flat:∀{l:List Rn} {rows:List D} {fam:Nat→Ob},CutR l rows fam→kb rows=true
 |[],_,_,⟨h,_⟩=>by rw [h];rfl
 |r::l,_,_,⟨η5,η7,rows',h,h5,h7,_,_,h2⟩=>by
  have:=CutR.flat h2;rw [h,vx,this];simp [kb,h5,h7];exact ⟨rfl,rfl,rfl,rfl,rfl,rfl⟩
theorem CutR.erase:∀{l:List Rn} {rows:List D} {fam:Nat→Ob} {k:Nat},CutR l rows fam→k<l.length→CutR (l.eraseIdx k) (rows.take (k*8)++rows.drop ((k+1)*8)) (fun j=>fam (if j<2*k then j else j+2))
 |[],_,_,_,_,h=>by simp at h
 |r::l,_,fam,0,⟨η5,η7,rows',h,_,_,_,_,h2⟩,_=>by
  have e1:(rnV r (η5 []) (η7 [])++rows').drop ((0+1)*8)=rows':=List.drop_left' rfl;rw [h,e1,Nat.zero_mul,List.take_zero,List.nil_append];simpa using h2
 |r::l,_,fam,k+1,⟨η5,η7,rows',h,h5,h7,f0,f1,h2⟩,hk=>by
  have ih:=CutR.erase (k:=k) h2 (by simpa using hk)
  have e1:(rnV r (η5 []) (η7 [])++rows').take ((k+1)*8)=rnV r (η5 []) (η7 [])++rows'.take (k*8):=by
   rw [show (k+1)*8=(rnV r (η5 []) (η7 [])).length+k*8 by rw [show (rnV r (η5 []) (η7 [])).length=8 from rfl];omega];exact List.take_length_add_append _
  have e2:(rnV r (η5 []) (η7 [])++rows').drop ((k+1+1)*8)=rows'.drop ((k+1)*8):=by
   rw [show (k+1+1)*8=(rnV r (η5 []) (η7 [])).length+(k+1)*8 by rw [show (rnV r (η5 []) (η7 [])).length=8 from rfl];omega];exact List.drop_length_add_append _
  rw [h,e1,e2,List.eraseIdx_cons_succ];refine ⟨η5,η7,_,by rw [List.append_assoc],h5,h7,?_,?_,?_⟩
  ·dsimp only;rw [if_pos (by omega)];exact f0
  ·dsimp only;rw [if_pos (by omega)];exact f1
  ·have:(fun j=>fam (if j+2<2*(k+1) then j+2 else j+2+2))=(fun j=>fam ((if j<2*k then j else j+2)+2)):=by
    funext j
    by_cases c:j<2*k
    ·rw [if_pos c,if_pos (by omega)]
    ·rw [if_neg c,if_neg (by omega)]
   rw [this];exact ih
theorem jqw {ob:Ob} {c:Nat} {d d':D} {η η':js} (h:ob.own c=some (d,η)):(ob.putOwn c d' η').own c=some (d',η'):=by
 cases ob with
 |none=>simp [Ob.own] at h
 |loose e ε=>cases c with
  |zero=>rfl
  |succ c=>simp [Ob.own] at h
 |box b ty cs=>
  simp only [Ob.own] at h;split at h
  ·rename_i d0 η0 hc
   have:=(List.getElem?_eq_some_iff.1 hc).1;simp [Ob.own,Ob.putOwn,List.getElem?_set_self this]
  ·simp at h
theorem jtR {ob:Ob} {c:Nat} {d:D} {η:js} (h:ob.own c=some (d,η)):ob.putOwn c d η=ob:=by
 cases ob with
 |none=>rfl
 |loose e ε=>cases c with
  |zero=>simp [Ob.own] at h;obtain ⟨rfl,rfl⟩:=h;rfl
  |succ c=>simp [Ob.own] at h
 |box b ty cs=>
  simp only [Ob.own] at h;split at h
  ·rename_i d0 η0 hc
   simp at h;obtain ⟨rfl,rfl⟩:=h;simp only [Ob.putOwn];rw [jad hc]
  ·simp at h
theorem jqn {ob:Ob} {c:Nat} {d d':D} {η η':js}:(ob.putOwn c d η).putOwn c d' η'=ob.putOwn c d' η':=by
 cases ob with
 |none=>rfl
 |loose e ε=>rfl
 |box b ty cs=>simp [Ob.putOwn,List.set_set]
theorem jlI {α:Type} {A B:List α} (k:Nat) (hk:k<B.length) (x:α):(A++B).set (A.length+k) x=A++B.set k x:=by
 rw [List.set_append_right _ _ (by omega),Nat.add_sub_cancel_left]
theorem jmn {α:Type} {A B:List α} (k:Nat):(A++B)[A.length+k]?=B[k]?:=by
 rw [List.getElem?_append_right (by omega),Nat.add_sub_cancel_left]
theorem jiR {K:St→Prop} (g c:Nat):∀(l:List Rn) (pre:List D) (b:Nat) (s:St) (η:js),(s.o g).own c=some (.sl 8 tRn (pre++l.flatMap jd),η)→g<b→(∀j,b≤j→s.o j=.none)→
 (∀(rows:List D) (fam:Nat→Ob) (η':js),CutR l rows fam→η' []=η []→WkK ⟨s.t,fun j=>if b≤j then fam (j-b) else if j=g then (s.o g).putOwn c (.sl 8 tRn (pre++rows)) η' else s.o j⟩ K)→WkK s K
 |[],pre,b,s,η,ho,hg,hn,hK=>by
  have:=hK [] (fun _=>.none) η ⟨rfl,fun _=>rfl⟩ rfl
  have e:(⟨s.t,fun j=>if b≤j then Ob.none else if j=g then (s.o g).putOwn c (.sl 8 tRn (pre++[])) η else s.o j⟩:St)=s:=by
   have:(fun j=>if b≤j then Ob.none else if j=g then (s.o g).putOwn c (.sl 8 tRn (pre++[])) η else s.o j)=s.o:=by
    funext j
    by_cases h1:b≤j
    ·rw [if_pos h1,hn j h1]
    ·rw [if_neg h1]
     by_cases h2:j=g
     ·subst h2;rw [if_pos rfl];exact jtR ho
     ·rw [if_neg h2]
   rw [this]
  rwa [e] at this
 |r::l,pre,b,s,η,ho,hg,hn,hK=>by
  rw [List.flatMap_cons] at ho;have h8:(jd r).length=8:=rfl;refine jer g c (pre.length+5) b (η:=η) (sz:=8) (tyo:=tRn) (cs:=r.plan.edges.flatMap jO) ho (by rw [jmn];rfl) (hn b (Nat.le_refl b)) (by omega) fun ηa ηA hA1 hA2 hA3=>?_
  rw [jlI 5 (by rw [List.length_append,h8];omega),List.set_append_left _ _ (by rw [h8];omega)]
  have hbg:b≠g:=by omega
  have hog:∀(x y:Ob),(((s.setO g x).setO b y).o g)=x:=fun x y=>by
   show (if g=b then y else if g=g then x else s.o g)=x
   rw [if_neg (by omega),if_pos rfl]
  have ho2:((((s.setO g ((s.o g).putOwn c (.sl 8 tRn (pre++((jd r).set 5 (.val (η [pre.length+5]))++l.flatMap jd))) ηA)).setO b (.loose (.sl 2 tEd (r.plan.edges.flatMap jO)) ηa)).o g)).own c=some (.sl 8 tRn (pre++((jd r).set 5 (.val (η [pre.length+5]))++l.flatMap jd)),ηA):=by
   rw [hog];exact jqw ho
  refine jer g c (pre.length+7) (b+1) (η:=ηA) (sz:=8) (tyo:=tRn) (cs:=r.tasks.flatMap jo) ho2 (by rw [jmn];rfl) (by
   show (if b+1=b then _ else if b+1=g then _ else s.o (b+1))=_
   rw [if_neg (by omega),if_neg (by omega)];exact hn _ (by omega)) (by omega) fun ηb ηB hB1 hB2 hB3=>?_
  rw [hog,jqn,jlI 7 (by rw [List.length_append,List.length_set,h8];omega),List.set_append_left _ _ (by rw [List.length_set,h8];omega)]
  rw [←hA2] at hA3⊢;rw [←hB2] at hB3⊢;have hV:((jd r).set 5 (.val (ηa []))).set 7 (.val (ηb []))=rnV r (ηa []) (ηb []):=rfl;rw [hV];obtain ⟨s2,hs2⟩:∃s2,(((s.setO g ((s.o g).putOwn c (.sl 8 tRn (pre++((jd r).set 5 (.val (ηa []))++l.flatMap jd))) ηA)).setO b (.loose (.sl 2 tEd (r.plan.edges.flatMap jO)) ηa)).setO g ((s.o g).putOwn c (.sl 8 tRn (pre++(rnV r (ηa []) (ηb [])++l.flatMap jd))) ηB)).setO (b+1) (.loose (.sl 4 tTk (r.tasks.flatMap jo)) ηb)=s2:=⟨_,rfl⟩;rw [hs2]
  have q0:s2.o g=(s.o g).putOwn c (.sl 8 tRn (pre++(rnV r (ηa []) (ηb [])++l.flatMap jd))) ηB:=by
   rw [←hs2];show (if g=b+1 then _ else if g=g then _ else _)=_
   rw [if_neg (by omega),if_pos rfl]
  have q1:s2.o b=.loose (jy r.plan.edges) ηa:=by
   rw [←hs2];show (if b=b+1 then _ else if b=g then _ else if b=b then _ else _)=_
   rw [if_neg (by omega),if_neg (by omega),if_pos rfl];rfl
  have q2:s2.o (b+1)=.loose (jB r.tasks) ηb:=by
   rw [←hs2];show (if b+1=b+1 then _ else _)=_
   rw [if_pos rfl];rfl
  have q3:∀j,j≠g→j≠b→j≠b+1→s2.o j=s.o j:=fun j n1 n2 n3=>by
   rw [←hs2];show (if j=b+1 then _ else if j=g then _ else if j=b then _ else if j=g then _ else s.o j)=_
   rw [if_neg n3,if_neg n1,if_neg n2,if_neg n1]
  have qt:s2.t=s.t:=by rw [←hs2];rfl
  refine jiR g c l (pre++rnV r (ηa []) (ηb [])) (b+2) s2 ηB (by rw [q0,List.append_assoc];exact jqw ho) (by omega) (fun j hj=>by rw [q3 j (by omega) (by omega) (by omega)];exact hn j (by omega)) fun rows fam η' hcr hη=>?_
  have:=hK (rnV r (ηa []) (ηb [])++rows) (fun j=>if j=0 then .loose (jy r.plan.edges) ηa else if j=1 then .loose (jB r.tasks) ηb else fam (j-2)) η' ⟨ηa,ηb,rows,rfl,hA3,hB3,rfl,rfl,hcr⟩ (by rw [hη,hB1,hA1])
  have e:(fun j=>if b+2≤j then fam (j-(b+2)) else if j=g then (s2.o g).putOwn c (.sl 8 tRn (pre++rnV r (ηa []) (ηb [])++rows)) η' else s2.o j)=(fun j=>if b≤j then (if j-b=0 then Ob.loose (jy r.plan.edges) ηa else if j-b=1 then .loose (jB r.tasks) ηb else fam (j-b-2)) else if j=g then (s.o g).putOwn c (.sl 8 tRn (pre++(rnV r (ηa []) (ηb [])++rows))) η' else s.o j):=by
   funext j
   by_cases c1:b+2≤j
   ·rw [if_pos c1,if_pos (by omega),if_neg (by omega),if_neg (by omega),show j-(b+2)=j-b-2 by omega]
   ·rw [if_neg c1]
    by_cases c2:j=b
    ·subst c2;rw [if_neg (by omega),if_pos (Nat.le_refl _),if_pos (by omega),q1]
    ·by_cases c3:j=b+1
     ·subst c3;rw [if_neg (by omega),if_pos (by omega),if_neg (by omega),if_pos (by omega),q2]
     ·by_cases c4:j=g
      ·subst c4;rw [if_pos rfl,if_neg (by omega),if_pos rfl,q0,jqn,List.append_assoc]
      ·rw [if_neg c4,if_neg (by omega),if_neg c4,q3 j c4 c2 c3]
  rw [qt,e];exact this
theorem jeq {K:St→Prop} (g c:Nat):∀(l:List Rn) (pre:List D) (b:Nat) (s:St) (η:js) (rows:List D) (fam:Nat→Ob),CutR l rows fam→(s.o g).own c=some (.sl 8 tRn (pre++rows),η)→g<b→(∀j,b≤j→s.o j=fam (j-b))→
 (∀η':js,η' []=η []→WkK ⟨s.t,fun j=>if b≤j then .none else if j=g then (s.o g).putOwn c (.sl 8 tRn (pre++l.flatMap jd)) η' else s.o j⟩ K)→WkK s K
 |[],pre,b,s,η,_,fam,⟨rfl,hf⟩,ho,hg,hn,hK=>by
  have:=hK η rfl
  have e:(⟨s.t,fun j=>if b≤j then Ob.none else if j=g then (s.o g).putOwn c (.sl 8 tRn (pre++List.flatMap jd [])) η else s.o j⟩:St)=s:=by
   have:(fun j=>if b≤j then Ob.none else if j=g then (s.o g).putOwn c (.sl 8 tRn (pre++List.flatMap jd [])) η else s.o j)=s.o:=by
    funext j
    by_cases h1:b≤j
    ·rw [if_pos h1,hn j h1,hf]
    ·rw [if_neg h1]
     by_cases h2:j=g
     ·subst h2;rw [if_pos rfl];exact jtR ho
     ·rw [if_neg h2]
   rw [this]
  rwa [e] at this
 |r::l,pre,b,s,η,_,fam,⟨η5,η7,rows,rfl,h5,h7,f0,f1,hcr⟩,ho,hg,hn,hK=>by
  have h8:(rnV r (η5 []) (η7 [])).length=8:=rfl;have hb0:s.o b=.loose (.sl 2 tEd (r.plan.edges.flatMap jO)) η5:=by rw [hn b (Nat.le_refl b),Nat.sub_self,f0];rfl
  have hb1:s.o (b+1)=.loose (.sl 4 tTk (r.tasks.flatMap jo)) η7:=by rw [hn (b+1) (by omega),Nat.add_sub_cancel_left,f1];rfl
  refine qx g c (pre.length+5) b (η:=η) (η2:=η5) (sz:=8) (tyo:=tRn) (cs:=r.plan.edges.flatMap jO) ho (by rw [jmn];rfl) (.inl rfl) hb0 (by omega) fun ηA hA=>?_
  rw [jlI 5 (by rw [List.length_append,h8];omega),List.set_append_left _ _ (by rw [h8];omega)]
  have hog:∀(x:Ob),(((s.setO b .none).setO g x).o g)=x:=fun x=>by
   show (if g=g then x else _)=x
   rw [if_pos rfl]
  refine qx g c (pre.length+7) (b+1) (η:=ηA) (η2:=η7) (sz:=8) (tyo:=tRn) (cs:=r.tasks.flatMap jo) (by rw [hog];exact jqw ho) (by rw [jmn];rfl) (.inl rfl) (by
   show (if b+1=g then _ else if b+1=b then _ else s.o (b+1))=_
   rw [if_neg (by omega),if_neg (by omega)];exact hb1) (by omega) fun ηB hB=>?_
  rw [hog,jqn,jlI 7 (by rw [List.length_append,List.length_set,h8];omega),List.set_append_left _ _ (by rw [List.length_set,h8];omega)]
  have hV:(((rnV r (η5 []) (η7 [])).set 5 (.sl 2 tEd (r.plan.edges.flatMap jO))).set 7 (.sl 4 tTk (r.tasks.flatMap jo)))=jd r:=rfl;rw [hV];obtain ⟨s2,hs2⟩:∃s2,(((s.setO b .none).setO g ((s.o g).putOwn c (.sl 8 tRn (pre++((rnV r (η5 []) (η7 [])).set 5 (.sl 2 tEd (r.plan.edges.flatMap jO))++rows))) ηA)).setO (b+1) .none).setO g ((s.o g).putOwn c (.sl 8 tRn (pre++(jd r++rows))) ηB)=s2:=⟨_,rfl⟩;rw [hs2]
  have q0:s2.o g=(s.o g).putOwn c (.sl 8 tRn (pre++(jd r++rows))) ηB:=by
   rw [←hs2];show (if g=g then _ else _)=_
   rw [if_pos rfl]
  have q3:∀j,j≠g→j≠b→j≠b+1→s2.o j=s.o j:=fun j n1 n2 n3=>by
   rw [←hs2];show (if j=g then _ else if j=b+1 then _ else if j=g then _ else if j=b then _ else s.o j)=_
   rw [if_neg n1,if_neg n3,if_neg n1,if_neg n2]
  have q1:s2.o b=.none:=by
   rw [←hs2];show (if b=g then _ else if b=b+1 then _ else if b=g then _ else if b=b then _ else s.o b)=_
   rw [if_neg (by omega),if_neg (by omega),if_neg (by omega),if_pos rfl]
  have q2:s2.o (b+1)=.none:=by
   rw [←hs2];show (if b+1=g then _ else if b+1=b+1 then _ else _)=_
   rw [if_neg (by omega),if_pos rfl]
  have qt:s2.t=s.t:=by rw [←hs2];rfl
  refine jeq g c l (pre++jd r) (b+2) s2 ηB rows _ hcr (by rw [q0,List.append_assoc];exact jqw ho) (by omega) (fun j hj=>by rw [q3 j (by omega) (by omega) (by omega),hn j (by omega),show j-b=j-(b+2)+2 by omega]) fun η' hη=>?_
  have:=hK η' (by rw [hη,hB,hA])
  have e:(fun j=>if b+2≤j then Ob.none else if j=g then (s2.o g).putOwn c (.sl 8 tRn (pre++jd r++l.flatMap jd)) η' else s2.o j)=(fun j=>if b≤j then Ob.none else if j=g then (s.o g).putOwn c (.sl 8 tRn (pre++(r::l).flatMap jd)) η' else s.o j):=by
   funext j
   by_cases c1:b+2≤j
   ·rw [if_pos c1,if_pos (by omega)]
   ·rw [if_neg c1]
    by_cases c2:j=b
    ·subst c2;rw [if_neg (by omega),if_pos (Nat.le_refl _),q1]
    ·by_cases c3:j=b+1
     ·subst c3;rw [if_neg (by omega),if_pos (by omega),q2]
     ·by_cases c4:j=g
      ·subst c4;rw [if_pos rfl,if_neg (by omega),if_pos rfl,q0,jqn,List.append_assoc,List.flatMap_cons]
      ·rw [if_neg c4,if_neg (by omega),if_neg c4,q3 j c4 c2 c3]
  rw [qt,e];exact this
def St.ofF (T:List (Nat×AV)) (O:List (Nat×Ob)) (b:Nat) (fam:Nat→Ob):St:=⟨lkT T,fun j=>if b≤j then fam (j-b) else lkO O j⟩
theorem ofF_t (T:List (Nat×AV)) (O:List (Nat×Ob)) (b:Nat) (fam:Nat→Ob) (n:Nat):(St.ofF T O b fam).t n=lkT T n:=(rfl)
theorem ofF_o (T:List (Nat×AV)) (O:List (Nat×Ob)) (b:Nat) (fam:Nat→Ob) (n:Nat):(St.ofF T O b fam).o n=if b≤n then fam (n-b) else lkO O n:=(rfl)
attribute [go_sem] ofF_t ofF_o
theorem jmM {s:St} {T:List (Nat×AV)} {O:List (Nat×Ob)} {b:Nat} {fam:Nat→Ob} (ks:List (Option Nat)) (h:jxN s T∧jqU s ks O) (hf:∀j,b≤j→s.o j=fam (j-b)) (hk:∀k∈jry ks,k<b) (hn:jj2 (jry ks)=true:=by decide):Wk s (St.ofF T O b fam):=fun B N w0 w a F hr=>by
 have hob:=juC hr.ob h.2;have hdj:=jwJ (ks:=ks) (O:=O) hr.dj (jbK hn);refine ⟨fun j=>if b≤j then F j else fp F ks O j,⟨hr.below,hr.hB,hr.df,hr.sz,jwM hr.sl h.1,fun g=>?_,fun g=>?_,fun g g' hne x hx hx'=>?_⟩,fun g x hx=>?_⟩
 ·by_cases c:b≤g
  ·simp only [St.ofF,if_pos c];rw [←hf g c];exact hr.ob g
  ·simp only [St.ofF,if_neg c];exact hob g
 ·by_cases c:b≤g
  ·simp only [if_pos c];exact hr.fr g
  ·simp only [if_neg c];exact jwI hr.fr ks O g
 ·by_cases c:b≤g
  ·simp only [if_pos c] at hx
   by_cases c':b≤g'
   ·simp only [if_pos c'] at hx';exact hr.dj g g' hne x hx hx'
   ·simp only [if_neg c'] at hx'
    obtain ⟨k,h1,h2⟩:=jfs hx';exact hr.dj g k (by have:=hk k h1;omega) x hx h2
  ·simp only [if_neg c] at hx
   by_cases c':b≤g'
   ·simp only [if_pos c'] at hx'
    obtain ⟨k,h1,h2⟩:=jfs hx;exact hr.dj k g' (by have:=hk k h1;omega) x h2 hx'
   ·simp only [if_neg c'] at hx';exact hdj g g' hne x hx hx'
 ·by_cases c:b≤g
  ·simp only [if_pos c] at hx;exact ⟨g,hx⟩
  ·simp only [if_neg c] at hx
   obtain ⟨k,_,h2⟩:=jfs hx;exact ⟨k,h2⟩
theorem jmN {s:St} {b:Nat} {fam:Nat→Ob} (ρ:Nat→Nat) (hρ:∀i j,ρ i=ρ j→i=j) (hf:∀j,b≤j→s.o j=fam (j-b)):Wk s ⟨s.t,fun j=>if b≤j then fam (ρ (j-b)) else s.o j⟩:=fun B N w0 w a F hr=>by
 refine ⟨fun j=>if b≤j then F (b+ρ (j-b)) else F j,⟨hr.below,hr.hB,hr.df,hr.sz,hr.sl,fun g=>?_,fun g=>?_,fun g g' hne x hx hx'=>?_⟩,fun g x hx=>?_⟩
 ·by_cases c:b≤g
  ·simp only [if_pos c]
   have:=hr.ob (b+ρ (g-b))
   rwa [hf _ (Nat.le_add_right _ _),Nat.add_sub_cancel_left] at this
  ·simp only [if_neg c];exact hr.ob g
 ·by_cases c:b≤g
  ·simp only [if_pos c];exact hr.fr _
  ·simp only [if_neg c];exact hr.fr g
 ·by_cases c:b≤g
  ·simp only [if_pos c] at hx
   by_cases c':b≤g'
   ·simp only [if_pos c'] at hx'
    exact hr.dj _ _ (fun e=>hne (by have:=hρ _ _ (Nat.add_left_cancel e);omega)) x hx hx'
   ·simp only [if_neg c'] at hx';exact hr.dj _ _ (by omega) x hx hx'
  ·simp only [if_neg c] at hx
   by_cases c':b≤g'
   ·simp only [if_pos c'] at hx';exact hr.dj _ _ (by omega) x hx hx'
   ·simp only [if_neg c'] at hx';exact hr.dj _ _ hne x hx hx'
 ·by_cases c:b≤g
  ·simp only [if_pos c] at hx;exact ⟨_,hx⟩
  ·simp only [if_neg c] at hx;exact ⟨g,hx⟩
open Go.RowKit Go.Sort Go.Lib
abbrev fDel:FuncId:=144
theorem jlJ {P:Program} (w:World) (t e ty:TypeId) (z:Value) (ht:P.underlying t=some (.slice e)) (hv:∀w,(zeroValue e).run P w=.ok z w) (h1:∀v∈z.cells.toList,v.oneCell'=true) (hs:z.cells.size=8) (b o c:Nat)
 (hc:∀j,j<8→(w.cell? ⟨b,o+j,none⟩).isSome=true) (hf:∀j,j<8→w.frozen? ⟨b,o+j,none⟩=false):
 (Builtin.clear_ #[t] ty #[.slice (some ⟨b,o,none⟩) 1 c]).run P w=.ok (.tuple #[]) (w.setCells b o z.cells.toList):=by
 have hzc:(Builtin.zeroCells z.cells 1).toList=z.cells.toList:=by
  simp only [Builtin.zeroCells,Nat.one_mul]
  apply List.ext_getElem
  ·simp
  ·intro i h1 h2
   have:i<z.cells.size:=by simpa using h2
   simp [Nat.mod_eq_of_lt this];exact getElem!_pos z.cells i this
 have hst:=run_storeCells_cells (P:=P) b o z.cells.toList 0 w (by simpa [hs] using hc) (by simpa [hs] using hf) h1
 simp only [Nat.add_zero] at hst;simp [Builtin.clear_,run_underlying ht,hv,hzc,hst]
abbrev zRnL:List Value:=[.int .i64 0,.int .i64 0,.int .i64 0,.int .i64 0,.int .i64 0,.slice none 0 0,.int .i64 0,.slice none 0 0]
theorem jzA (b n c k:Nat) (cs:List Value) (w:World) (hk:k<n) (hnc:n≤c) (hc63:c≤9223372036854775807) (hcl:cs.length=n*8)
 (hcs:∀j v,cs[j]?=some v→w.cell? ⟨b,j,none⟩=some v) (hfz:∀j,w.frozen? ⟨b,j,none⟩=false) (h1c:∀v∈cs,v.oneCell'=true):
 Calls Tryz.prog fDel #[.slice (some ⟨b,0,none⟩) n c,.int .i64 k,.int .i64 ((k:Int)+1)] w fun e w'=>
  e=.returned (.slice (some ⟨b,0,none⟩) (n-1) c)∧w'=(w.drew.setCells b (k*8) (cs.drop ((k+1)*8))).setCells b ((n-1)*8) zRnL:=by
 have mixed:Tryz.prog.follows .mixedOrders=true:=by kernel_rfl
 have t22:=Tryz.underlying25;have a22:=Tryz.isAgg25;have z22:=Tryz.sizeOf25;have u3:=Tryz.underlying3;have a3:=Tryz.isAgg3;have z3:=Tryz.sizeOf3;have u4:=Tryz.underlying4;have z23:=Tryz.sizeOf52;have hu:Tryz.prog.underlying jz3=some (.slice tRn):=slRn.1;obtain ⟨i0,zv,hi0,hz0,hzc,hzs,hzb⟩:=slRn.info;obtain ⟨news,hnews⟩:∃news,news=cs.drop ((k+1)*8):=⟨_,rfl⟩;have hlen:news.length=(n-(k+1))*8:=by rw [hnews,List.length_drop,hcl];omega
 have hget:∀t u,news[t]?=some u→w.cell? ⟨b,(k+1)*8+t,none⟩=some u:=fun t u hu=>by
  rw [hnews,List.getElem?_drop] at hu;exact hcs _ u hu
 obtain ⟨A,hA,hsrc⟩:∃A:Addr,(if c=k+1 then some (⟨b,0,none⟩:Addr) else some ⟨b,(k+1)*8,none⟩)=some A∧Hid (∀t u,news[t]?=some u→w.drew.cell? (A.add t)=some u):=by
  by_cases h:c=k+1
  ·refine ⟨⟨b,0,none⟩,by simp [h],fun t u hu=>?_⟩
   have h0:news.length=0:=by rw [hlen];omega
   rw [List.length_eq_zero_iff.1 h0] at hu;simp at hu
  ·refine ⟨⟨b,(k+1)*8,none⟩,by simp [h],fun t u hu=>?_⟩
   rw [Addr.add_lit];exact hget t u hu
 have s1:Hid (news.length=(n-(k+1))*8):=hlen;have s2:Hid (∀u∈news,u.oneCell'=true):=fun u hu=>by rw [hnews] at hu;exact h1c u (List.mem_of_mem_drop hu)
 have hsome:∀j,j<n*8→(w.cell? ⟨b,j,none⟩).isSome=true:=fun j hj=>by rw [hcs j _ (List.getElem?_eq_getElem (by omega))];rfl
 have s3:Hid (∀t,t<news.length→(w.drew.cell? ⟨b,0+k*8+t,none⟩).isSome=true∧w.drew.frozen? ⟨b,0+k*8+t,none⟩=false):=fun t ht=>by
  rw [hlen] at ht;exact ⟨hsome _ (by omega),hfz _⟩
 obtain ⟨W1,hW1⟩:∃W1,W1=w.drew.setCells b (0+k*8) news:=⟨_,rfl⟩
 have hsome1:∀j,j<n*8→(W1.cell? ⟨b,j,none⟩).isSome=true:=fun j hj=>by
  rw [hW1];exact isSome_setCells b news (0+k*8) w.drew (fun t ht=>hsome _ (by omega)) j (hsome j hj)
 have hz:∀w,(zeroValue tRn).run Tryz.prog w=.ok zv w:=fun w=>by simp [zeroValue,typeInfo,hi0,hz0]
 have hzl:zv.cells.toList=zRnL:=by rw [hzc]
 have hcl2:∀ty q,(Builtin.clear_ #[jz3] ty #[.slice (some ⟨b,(k+(n-(k+1)))*8,none⟩) 1 q]).run Tryz.prog W1=.ok (.tuple #[]) (W1.setCells b ((k+(n-(k+1)))*8) zRnL):=fun ty q=>by
  rw [←hzl];exact jlJ W1 jz3 tRn ty zv hu hz (by rw [hzl];decide) (by rw [hzc];rfl) b _ q (fun j hj=>hsome1 _ (by omega)) (fun j hj=>by rw [hW1,World.frozen?_setCells];exact hfz _)
 have hW:Hid (W1=w.drew.setCells b (0+k*8) news):=hW1;have hkc:k≤c:=by omega
 have hjc:k+1≤c:=by omega
 have hne:¬((k:Int)=(k:Int)+1):=by omega
 have hb1:(0:Int)≤(k:Int)+1:=by omega
 have hb2:(k:Int)≤(n:Int):=by omega
 have hb3:(k:Int)+1≤(n:Int):=by omega
 have hb4:(k:Int)≤(k:Int)+1:=by omega
 have htn:((k:Int)+1).toNat=k+1:=by omega
 have hkn:k≤n:=by omega
 have hjn:k+1≤n:=hk;have h1n:n-(k+(n-(k+1)))=1:=by omega
 clear hW1 hsome1 hget hlen hsome hcs
 go_enter Tryz.func144,Tryz.ntmps144
 go_wp2_with fail
 go_region_law_o (refine step_append_room rfl (.tmp 22) (.tmp 25) jz3 rfl tRn i0 8 hu hi0 hzs b 0 k c (by simp [Act.eval,Act.put]) A (n-(k+1)) (c-(k+1)) news (by simp [Act.eval,Act.put,hA]) s1.out hsrc.out s2.out (by omega) s3.out ?_;rw [←hW.out])
 go_wp2
 go_ret
 have e1:k+(n-(k+1))=n-1:=by omega
 refine ⟨by rw [e1];rfl,?_⟩
 rw [hW.out,hnews,e1,Nat.zero_add]
def jmR:D→Value
 |.val u=>u
 |.sl _ _ _=>undef
theorem jxR:∀{ds:List D} {w:World} {own:Bool} {vs:List Value} {S:List Nat},kb ds=true→RepL w own ds vs S→vs=ds.map jmR∧S=[]
 |[],_,_,_,_,_,⟨h1,h2⟩=>⟨h1,h2⟩
 |.sl _ _ _::_,_,_,_,_,h,_=>by cases h
 |.val u::ds,w,own,_,_,h,⟨v,vs',S1,S2,rfl,rfl,⟨h1,h2⟩,h3⟩=>by
  simp only [kb,Bool.and_eq_true] at h;obtain ⟨k1,k2⟩:=jxR h.2 h3;subst h1 h2 k1 k2;exact ⟨rfl,rfl⟩
theorem d_mk (w:World) (own:Bool):∀{ds:List D},kb ds=true→RepL w own ds (ds.map jmR) []
 |[],_=>⟨rfl,rfl⟩
 |.sl _ _ _::_,h=>by cases h
 |.val u::ds,h=>by
  simp only [kb,Bool.and_eq_true] at h;exact ⟨u,ds.map jmR,[],[],rfl,rfl,⟨rfl,rfl⟩,d_mk w own h.2⟩
theorem jBN:∀{ds:List D},kb ds=true→∀v∈ds.map jmR,v.oneCell'=true
 |[],_,_,hv=>by simp at hv
 |.sl _ _ _::_,h,_,_=>by cases h
 |.val u::ds,h,v,hv=>by
  simp only [kb,Bool.and_eq_true] at h;rcases List.mem_cons.1 hv with rfl|hv
  ·exact h.1
  ·exact jBN h.2 v hv
theorem jvK (rows:List D) (n k:Nat) (hf:kb rows=true) (hf2:kb (rows.take (k*8)++rows.drop ((k+1)*8))=true) (hl:rows.length=n*8) (hk:k<n) {o:Nat→Ob} {g:Nat} {η:js} (ho:o g=.loose (.sl 8 tRn rows) η):
 Turns Tryz.prog fDel [.c (.v (η [])),.c (.v (.int .i64 k)),.c (.v (.int .i64 ((k:Int)+1)))] o (fun rt o'=>rt=.c (.sl 8 tRn (rows.take (k*8)++rows.drop ((k+1)*8)))∧o'=fun j=>if j=g then .none else o j):=
 ⟨⟨_,Tryz.func144,by kernel_rfl,by kernel_rfl⟩,fun B w F xs hR hxs=>by
   obtain ⟨x,xs1,rfl,rfl,_,xs2,rfl,rfl,x2,xs3,rfl,rfl,rfl⟩:=hxs;have h1:=hR.ob g;simp only at h1;rw [ho] at h1;obtain ⟨_,u,r1,e1⟩:=h1;have q1:η []=u:=e1 [];rw [q1];have hB:B≤w.heap.size:=Nat.le_trans hR.hB hR.below.size;have hF1:=hR.fr g;have hlt:∀k,∀b∈F k,b<w.heap.size:=fun k b hb=>(hR.ob k).lt b hb
   obtain ⟨vs,T,S',hrow,hrl,hS⟩:=r1;obtain ⟨rfl,rfl⟩:=jxR hf hrl;have hv1:=jBN hf;have hvl:(rows.map jmR).length=n*8:=by rw [List.length_map,hl]
   generalize hvs:rows.map jmR=vs at*;obtain ⟨m,hrow,rfl⟩:=hrow;rcases hrow.2 with ⟨_,h0⟩|⟨b,c,cu,rfl,_,hbc,hc1,hc2,hc3,hc4⟩
   ·have:=hrow.1;omega
   have hmn:m=n:=by have:=hrow.1;omega
   subst hmn;have hFg:F g=[b]:=by rw [hS];simp [blk]
   have hbB:B≤b:=hF1.2 b (by rw [hFg];simp)
   have hcs:∀j v,vs[j]?=some v→w.cell? ⟨b,j,none⟩=some v:=fun j v hj=>by
    rw [jmG hbc,←Array.getElem?_toList];exact jlB hc4 hj
   obtain ⟨_,sb2⟩:=jlH hbc;have hcul:cu.toList.length=c*8:=by simpa using hc3
   refine (jzA b m c k vs w hk hc1 (by unfold maxLen at hc2;omega) hvl hcs sb2 hv1).mono ?_
   rintro en w' ⟨rfl,rfl⟩;have hcu:w.drew.heap[b]?=some (.cells cu.toList.toArray tRn (0,0)):=by rw [Array.toArray_toList];exact hbc
   have hdl:(vs.drop ((k+1)*8)).length=(m-(k+1))*8:=by rw [List.length_drop,hvl];omega
   obtain ⟨w1,w2⟩:=qo (vs.drop ((k+1)*8)) w.drew b (k*8) cu.toList tRn hcu;obtain ⟨w3,w4⟩:=qo zRnL _ b ((m-1)*8) _ tRn w1;have s1:=kH (vs.drop ((k+1)*8)) w.drew b (k*8);have s2:=kH zRnL (w.drew.setCells b (k*8) (vs.drop ((k+1)*8))) b ((m-1)*8);have hmc:m*8≤c*8:=by omega
   have hA:kD cu.toList (k*8) (vs.drop ((k+1)*8))=cu.toList.take (k*8)++vs.drop ((k+1)*8)++cu.toList.drop (k*8+(vs.drop ((k+1)*8)).length):=kU _ _ _ (by rw [hdl,hcul];omega)
   have hAl:(kD cu.toList (k*8) (vs.drop ((k+1)*8))).length=c*8:=by
    rw [hA];simp only [List.length_append,List.length_take,List.length_drop,hcul,hvl];omega
   have hz8:zRnL.length=8:=rfl;have hBz:kD (kD cu.toList (k*8) (vs.drop ((k+1)*8))) ((m-1)*8) zRnL=(kD cu.toList (k*8) (vs.drop ((k+1)*8))).take ((m-1)*8)++zRnL++(kD cu.toList (k*8) (vs.drop ((k+1)*8))).drop ((m-1)*8+zRnL.length):=kU _ _ _ (by rw [hz8,hAl];omega)
   have hct:cu.toList.take (k*8)=vs.take (k*8):=by rw [←hc4,List.take_take,Nat.min_eq_left (by omega)]
   have hvn:(rows.take (k*8)++rows.drop ((k+1)*8)).map jmR=vs.take (k*8)++vs.drop ((k+1)*8):=by rw [List.map_append,List.map_take,List.map_drop,hvs]
   have hnl:(vs.take (k*8)++vs.drop ((k+1)*8)).length=(m-1)*8:=by rw [List.length_append,List.length_take,hdl,hvl];omega
   have htk:(kD (kD cu.toList (k*8) (vs.drop ((k+1)*8))) ((m-1)*8) zRnL).take ((m-1)*8)=vs.take (k*8)++vs.drop ((k+1)*8):=by
    rw [hBz,List.append_assoc,List.take_append_of_le_length (by rw [List.length_take,hAl];omega),List.take_take,Nat.min_self,hA,hct]
    exact List.take_left' hnl
   have hfl:(kD (kD cu.toList (k*8) (vs.drop ((k+1)*8))) ((m-1)*8) zRnL).length=c*8:=by
    rw [hBz];simp only [List.length_append,List.length_take,List.length_drop,hAl,hz8];omega
   generalize kD (kD cu.toList (k*8) (vs.drop ((k+1)*8))) ((m-1)*8) zRnL=us at*
   have hon:Only [b] w ((w.drew.setCells b (k*8) (vs.drop ((k+1)*8))).setCells b ((m-1)*8) zRnL):=⟨by rw [s2.1,s1.1];rfl,by rw [s2.2.1,s1.2.1];rfl,by rw [s2.2.2.1,s1.2.2.1];rfl,by rw [s2.2.2.2,s1.2.2.2];exact Nat.le_refl _,fun q hq hqn=>by
    have hqb:q≠b:=by simpa using hqn
    rw [w4 q hqb,w2 q hqb];rfl⟩
   have t1:=hR.setO (g:=g) (ob:=.none) (S:=[]) rfl (Fresh.nil _) (by simp)
   have t2:=t1.world' (hon.below (fun s hs=>by simp at hs;omega) hB) fun q x hx=>by
    split at hx
    ·simp at hx
    ·rename_i hq
     exact hon.block x (hlt q x hx) fun h=>hR.dj q g hq x hx (by rw [hFg];exact h)
   refine ⟨_,.c (.sl 8 tRn (rows.take (k*8)++rows.drop ((k+1)*8))),_,[b],_,rfl,t2,?_,Fresh.one _ _ hbB,fun q x hx=>?_,rfl,rfl⟩
   ·refine ⟨(rows.take (k*8)++rows.drop ((k+1)*8)).map jmR,[b],[],⟨m-1,⟨?_,.inr ⟨b,c,us.toArray,rfl,Nat.zero_le _,w3,by omega,hc2,by simpa using hfl,?_⟩⟩,rfl⟩,d_mk _ _ hf2,by simp⟩
    ·rw [hvn,hnl]
    ·rw [hvn];simpa [hnl] using htk
   ·split
    ·simp
    ·rename_i hq
     intro hx';simp at hx;subst hx;exact hR.dj q g hq x hx' (by rw [hFg];simp)⟩
def jcd (id:Int) (e:En):Bool:=e.run !=id
noncomputable def jav (y:Yd) (id:Int):Int:=if jD y=false then 8 else if runAt y id<0 then 10 else if ((y.runs[(runAt y id).toNat]?).getD default).state=1 then 13 else 0
noncomputable def jau (y:Yd) (id:Int):Yd:=if jav y id=0 then ⟨y.now,y.seq,y.shelf.map (fun l=>l.filter (jcd id)),y.runs.eraseIdx (runAt y id).toNat⟩ else y
def jdq {α:Type} (f:α→α) (l:List α) (i:Nat):List α:=(l.take i).map f++l.drop i
section
variable {α:Type} {f:α→α} {l:List α} {i:Nat} {x:α}
theorem juf:jdq f l 0=l:=rfl
theorem jnJ:(jdq f l i).length=l.length:=by
 simp only [jdq,List.length_append,List.length_map,List.length_take,List.length_drop];omega
theorem jnL:jdq f l l.length=l.map f:=by simp [jdq]
theorem jnK (h:l[i]?=some x):(jdq f l i)[i]?=some x:=by
 have hi:=(List.getElem?_eq_some_iff.1 h).1;have hl:((l.take i).map f).length=i:=by rw [List.length_map,List.length_take];omega
 rw [jdq,List.getElem?_append_right (by omega),hl,Nat.sub_self,List.getElem?_drop,Nat.add_zero,h]
theorem jnI (h:l[i]?=some x):(jdq f l i).set i (f x)=jdq f l (i+1):=by
 have hi:=(List.getElem?_eq_some_iff.1 h).1;have hl:((l.take i).map f).length=i:=by rw [List.length_map,List.length_take];omega
 have hx:l[i]=x:=by rw [List.getElem?_eq_getElem hi] at h;exact Option.some.inj h
 rw [jdq,List.set_append_right _ _ (by omega),hl,Nat.sub_self,List.drop_eq_getElem_cons hi,List.set_cons_zero,jdq,List.take_add_one,h]
 simp
end
theorem juI {l:List En} {k:Nat} {e:En} (p:En→Bool) (h:l[k]?=some e):(l.take (k+1)).filter p=(l.take k).filter p++(if p e then [e] else []):=by
 rw [List.take_add_one,h,List.filter_append];cases hp:p e<;>simp [hp]
section
variable {l:List En} {k:Nat} {x:En}
theorem jx1 (hx:l[k]?=some x):((l.flatMap jk).drop (k*4+2)).take 1=[.val (.int .i64 x.run)]:=qw (enc:=jk) (size:=4) (fun _=>rfl) hx (j:=2) (n:=1) (by decide)
theorem jxK (hx:l[k]?=some x):k*4+2+1≤(l.flatMap jk).length:=qu (enc:=jk) (size:=4) (fun _=>rfl) hx (j:=2) (n:=1) (by decide)
end
section
variable {sh:List (List En)} {n:Nat} {l:List En}
theorem jqM (h:n<sh.length):n+1≤(sh.flatMap fun es=>[jm es]).length:=by have:=jaM h;rwa [Nat.mul_one] at this
theorem jrh (h:sh[n]?=some l):((sh.flatMap fun es=>[jm es]).drop n).take 1=[jm l]:=by have:=jbJ h;rwa [Nat.mul_one] at this
end
theorem jjz {rows:List D} (h:kb rows=true) (n m:Nat):kb (rows.take n)=true∧kb (rows.drop m)=true:=by
 have e1:kb (rows.take n++rows.drop n)=true:=by rw [List.take_append_drop];exact h
 have e2:kb (rows.take m++rows.drop m)=true:=by rw [List.take_append_drop];exact h
 rw [vx,Bool.and_eq_true] at e1 e2;exact ⟨e1.1,e2.2⟩
def jf3:C:=iS [iA 2 (.box 27 4 (.t 0)),iA 4 (.alloc 27 [.int .i64 0,.int .i64 0,.slice none 0 0,.slice none 0 0]),iA 5 (iN 0)] (iS [iA 11 (iT 4 2),iA 12 (.call 67 [.t 11]),iA 6 (.alloc 27 [.int .i64 0,.int .i64 0,.slice none 0 0,.slice none 0 0]),iC (.st 4 [none,none,some (1,35),some (8,52)] (.t 6) (.t 12))] (iS [iA 13 (iT 4 2),iA 14 (iM 1),iA 15 (.call 26 [.t 13,.t 14]),iA 7 (iM 15)] (.seq (.blk 0 (iS [iA 17 (iT 4 2),iA 18 (.call 66 [.t 17]),iA 19 (iU 18),iA 16 (iM 19)] (iD 16 (iS [iA 20 (iT 4 6),iC (.st 4 [none,none,some (1,35),some (8,52)] (.t 4) (.t 20)),iA 5 (iN 8)] .ret) (iS [iA 22 (iM 7),iA 23 (iQ .lss 3 22 0),iA 21 (iM 23)] (iD 21 (iS [iA 24 (iT 4 6),iC (.st 4 [none,none,some (1,35),some (8,52)] (.t 4) (.t 24)),iA 5 (iN 10)] .ret) (iS [iA 26 (iF 3 2),iA 27 (iL 26),iA 28 (iM 7),iA 29 (iI 8 27 28),iA 30 (iF 6 29),iA 31 (iL 30),iA 32 (iQ .eql 3 31 1),iA 25 (iM 32)] (iD 25 (iS [iA 33 (iT 4 6),iC (.st 4 [none,none,some (1,35),some (8,52)] (.t 4) (.t 33)),iA 5 (iN 13)] .ret) .skip))))))) (.seq (.dreg (T.pure 1 (iA 35 (iF 3 6)) (T.pure 2 (iA 36 (iL 35)) (T.pure 3 (iA 37 (iM 7)) (T.pure 4 (iA 38 (.sl 8 (.t 36) none (some (.t 37)))) (T.pure 6 (iA 40 (iF 3 6)) (T.pure 7 (iA 41 (iL 40)) (T.pure 8 (iA 42 (iM 7)) (T.pure 9 (iA 43 (iQ .add 3 42 1)) (T.pure 10 (iA 44 (.sl 8 (.t 41) (some (.t 43)) none)) (T.alt (iA 34 (.bsl 52 8 0 [] [])) [10,9,8,7,6,4,3,2,1] (T.alt (iA 39 (.app 52 8 96 (.t 34) (.t 38))) [10,9,8,7,6] (T.alt (iA 45 (.app 52 8 96 (.t 39) (.t 44))) [] (T.pure 12 (iA 46 (iF 3 6)) (T.alt (iC (.st 1 [some (8,52)] (.t 46) (.t 45))) [] T.done T.stop)) T.stop) T.stop) T.stop))))))))))) (.seq (iS [iA 8 (iN 0)] (.blk 1 (.loop (.seq (iS [iA 47 (iM 8),iA 48 (iF 2 6),iA 49 (iL 48),iA 50 (iG 49),iA 51 (iP .lss 3 47 50)] (iD 51 .skip (.exit 1))) (.seq (.blk 2 (iS [iA 54 (.bsl 44 4 0 [] []),iA 9 (iM 54)] (.seq (iS [iA 10 (iN 0)] (.blk 3 (.loop (.seq (iS [iA 55 (iM 10),iA 56 (iF 2 6),iA 57 (iL 56),iA 58 (iM 8),iA 59 (iI 1 57 58),iA 60 (iL 59),iA 61 (iG 60),iA 62 (iP .lss 3 55 61)] (iD 62 .skip (.exit 3))) (.seq (.blk 4 (iS [iA 65 (iF 2 6),iA 66 (iL 65),iA 67 (iM 8),iA 68 (iI 1 66 67),iA 69 (iL 68),iA 70 (iM 10),iA 71 (iI 4 69 70),iA 72 (iF 2 71),iA 73 (iL 72),iA 74 (iM 1),iA 75 (iP .neq 3 73 74)] (iD 75 (.reg [iA 76 (iM 9),iA 77 (iF 2 6),iA 78 (iL 77),iA 79 (iM 8),iA 80 (iI 1 78 79),iA 81 (iL 80),iA 82 (iM 10),iA 83 (iI 4 81 82),iA 84 (iT 4 83),iA 85 (.bsl 44 4 1 [none,none,none,none] [(0,4,.t 84)]),iA 86 (.app 44 4 32 (.t 76) (.t 85)),iA 9 (iM 86)]) .skip))) (.reg [iA 63 (iM 10),iA 64 (iQ .add 3 63 1),iA 10 (iM 64)])))))) (.reg [iA 87 (iF 2 6),iA 88 (iL 87),iA 89 (iM 8),iA 90 (iM 9),iA 91 (iI 1 88 89),iC (.st 1 [some (4,44)] (.t 91) (.t 90))])))) (.reg [iA 52 (iM 8),iA 53 (iQ .add 3 52 1),iA 8 (iM 53)])))))) (iS [iA 92 (iT 4 6),iC (.st 4 [none,none,some (1,35),some (8,52)] (.t 4) (.t 92)),iA 5 (iN 0)] .ret))))))
theorem jh7:fnC Tryz.prog Tryz.f151=some (jf3,[.cell 4 true 4,.t 5],93):=by kernel_rfl
def jgi:C:=iS [iA 2 (.box 27 4 (.t 0)),iA 3 (.box 3 1 (.t 1)),iA 4 (.alloc 27 [.int .i64 0,.int .i64 0,.slice none 0 0,.slice none 0 0]),iA 5 (iN 0)] (iS [iA 9 (iT 4 2),iA 10 (.call 61 [.t 9]),iA 6 (.alloc 27 [.int .i64 0,.int .i64 0,.slice none 0 0,.slice none 0 0]),iC (.st 4 [none,none,some (1,35),some (8,52)] (.t 6) (.t 10))] (iS [iA 11 (iT 4 2),iA 12 (iL 3),iA 13 (.call 25 [.t 11,.t 12]),iA 7 (iM 13)] (.seq (.blk 0 (iS [iA 15 (iT 4 2),iA 16 (.call 18 [.t 15]),iA 17 (iU 16),iA 14 (iM 17)] (iD 14 (iS [iA 18 (iT 4 6),iC (.st 4 [none,none,some (1,35),some (8,52)] (.t 4) (.t 18)),iA 5 (iN 8)] .ret) (iS [iA 20 (iM 7),iA 21 (iQ .lss 3 20 0),iA 19 (iM 21)] (iD 19 (iS [iA 22 (iT 4 6),iC (.st 4 [none,none,some (1,35),some (8,52)] (.t 4) (.t 22)),iA 5 (iN 10)] .ret) (iS [iA 24 (iF 3 2),iA 25 (iL 24),iA 26 (iM 7),iA 27 (iI 8 25 26),iA 28 (iF 6 27),iA 29 (iL 28),iA 30 (iQ .eql 3 29 1),iA 23 (iM 30)] (iD 23 (iS [iA 31 (iT 4 6),iC (.st 4 [none,none,some (1,35),some (8,52)] (.t 4) (.t 31)),iA 5 (iN 13)] .ret) .skip))))))) (iS [iA 32 (iF 3 6),iA 33 (iL 32),iA 34 (iM 7),iA 35 (iM 7),iA 36 (iQ .add 3 35 1),iA 37 (.call 144 [.t 33,.t 34,.t 36]),iA 38 (iF 3 6),iC (.st 1 [some (8,52)] (.t 38) (.t 37))] (.seq (iS [iA 39 (iF 2 6),iA 40 (iL 39),iA 41 (iG 40),iA 42 (iN 0)] (.blk 1 (.loop (iS [iA 43 (iP .lss 3 42 41)] (.seq (iD 43 .skip (.exit 1)) (.seq (.blk 2 (iS [iA 44 (iM 42),iA 8 (iM 44)] (.dreg (T.pure 0 (iA 45 (iF 2 6)) (T.pure 1 (iA 46 (iL 45)) (T.pure 2 (iA 47 (iM 8)) (T.pure 3 (iA 48 (iF 2 6)) (T.pure 4 (iA 49 (iL 48)) (T.pure 5 (iA 50 (iM 8)) (T.pure 6 (iA 51 (iI 1 49 50)) (T.pure 7 (iA 52 (iL 51)) (T.pure 8 (iA 53 (.mkf 145 [.t 3])) (T.alt (iA 54 (.call 85 [.t 52,.t 53])) [2,1,0] (T.pure 10 (iA 55 (iI 1 46 47)) (T.alt (iC (.st 1 [some (4,44)] (.t 55) (.t 54))) [] T.done T.stop)) T.stop))))))))))))) (.reg [iA 56 (iQ .add 3 42 1),iA 42 (iM 56)]))))))) (iS [iA 57 (iT 4 6),iC (.st 4 [none,none,some (1,35),some (8,52)] (.t 4) (.t 57)),iA 5 (iN 0)] .ret))))))
theorem jim:fnC Tryz.prog Tryz.f91=some (jgi,[.cell 4 true 4,.t 5],58):=by kernel_rfl
def jc3:C:=iS [iA 2 (.box 44 4 (.t 0)),iA 3 (iO false)] (iS [iA 4 (iF 2 2),iA 5 (iL 4),iA 6 (iL 1),iA 7 (iP .eql 3 5 6),iA 3 (iM 7)] .ret)
theorem jfO:fnC Tryz.prog Tryz.f145=some (jc3,[.t 3],8):=by kernel_rfl
theorem jlW (y:Yd) (id:Int) (ht:jJ y≤2000000):kj Tryz.prog 151 [.agg (jb y),.c (.val (.int .i64 id))] (.tup [(true,jb (jau y id)),(false,[.val (.int .i64 (jav y id))])]):=by
 refine zn [[1,1,1,1,0],[1,1,1,1,1,0,0]] Tryz.func151 jh7 (by simp) ?_
 unfold jf3;simp only [C.ghs,C.ghAt,List.foldr];simp only [go_sem,jb];intro b2 b4;refine jc (kx y ht) (by simp only [go_sem,jb]) fun ηc=>?_
 simp only [go_sem,jb];intro b6;refine jc (qj y id) (by simp only [go_sem,jb]) fun η=>?_
 simp only [go_sem,jb];refine jc (qi y ht) (by simp only [go_sem,jb]) fun η=>?_
 simp only [go_sem,jb];cases hok:jD y
 ·have hc:jav y id=8:=by simp [jav,hok]
  have hy:jau y id=y:=by rw [jau,if_neg (by rw [hc];decide)]
  simp only [go_sem,jb,hok,hc,hy];refine qh _ _ _ _ _ ?_;simp only [go_sem,jb]
 have hP:=yard_iff.1 hok;by_cases hneg:runAt y id<0
 ·have hc:jav y id=10:=by rw [jav,if_neg (by rw [hok];decide),if_pos hneg]
  have hy:jau y id=y:=by rw [jau,if_neg (by rw [hc];decide)]
  simp only [go_sem,jb,hok,hneg,hc,hy];refine qh _ _ _ _ _ ?_;simp only [go_sem,jb]
 obtain ⟨k,r,hrk,hr,hid,h8⟩:=qP hneg;have hk:=(List.getElem?_eq_some_iff.1 hr).1;have h0k:(k:Int)≥0:=by omega
 have hk0:¬(k:Int)<0:=by omega
 have hget:((y.runs[(runAt y id).toNat]?).getD default)=r:=by rw [hrk,Int.toNat_natCast,hr,Option.getD_some]
 cases hst:r.state==1;rotate_left
 ·have hs1:r.state=1:=by simpa using hst
  have hc:jav y id=13:=by rw [jav,if_neg (by rw [hok];decide),if_neg hneg,hget,if_pos hs1]
  have hy:jau y id=y:=by rw [jau,if_neg (by rw [hc];decide)]
  simp only [go_sem,jb,hok,hrk,hk0,h0k,hk,jV hr,jd,ja,hst,hc,hy];refine qh _ _ _ _ _ ?_;simp only [go_sem,jb]
 have hs1:¬r.state=1:=by simpa using hst
 have hc:jav y id=0:=by rw [jav,if_neg (by rw [hok];decide),if_neg hneg,hget,if_neg hs1]
 rw [hc,jau,if_pos hc,hrk,Int.toNat_natCast];simp only [go_sem,jb,hok,hrk,hk0,h0k,hk,jV hr,jd,ja,hst];refine kY ?_;generalize ηc 2=η2 at*;generalize ηc 3=η3 at*;refine WkK.wk (s':=St.of [(1,Ni id),(4,Bx 92 b4),(6,Bx 90 b6),(7,Ni k)] [(92,ZYd b4 tYd),(90,kq b6 tYd y.now y.seq y.shelf η2 y.runs η3)]) (jg [some 400,some 600] (by simp only [go_sem,jb]<;>and_intros<;>first|rfl|assumption|trivial)) ?_
 refine jiR 90 3 y.runs [] 1000000000000 _ η3 rfl (by decide) (fun j hj=>by
  show (if j=92 then _ else if j=90 then _ else Ob.none)=Ob.none
  rw [if_neg (by omega),if_neg (by omega)]) fun rows fam η' hcr hη=>?_
 refine WkK.wk (jmM [some 92,some 90] (T:=[(1,Ni id),(4,Bx 92 b4),(6,Bx 90 b6),(7,Ni k)]) (O:=[(92,ZYd b4 tYd),(90,qZ b6 tYd y.now y.seq y.shelf η2 (.sl 8 tRn rows) η')]) (b:=1000000000000) (fam:=fam) (by simp only [go_sem]<;>and_intros<;>first|rfl|assumption) (fun j hj=>by
  show (if 1000000000000≤j then _ else _)=_
  rw [if_pos hj]) (by decide)) ?_
 refine WkK.of ?_;have hrl:=hcr.len;have hfl:=hcr.flat;obtain ⟨hf1,hf2⟩:=jjz hfl (k*8) ((k+1)*8)
 have hdl:(D.sl 8 tRn rows).len=y.runs.length:=by
  simp only [D.len,D.cells,D.size,hrl];exact Nat.mul_div_cancel _ (by decide)
 have hw1:IntKind.i64.wrap ((k:Int)+1)=((k+1:Nat):Int):=jf (by omega) (by omega)
 have hkl2:k+1≤y.runs.length:=hk;have hkl3:k≤y.runs.length:=by omega
 have h0k1:((k+1:Nat):Int)≥0:=by omega
 have htd:List.take ((k+1+(y.runs.length-(k+1))-(k+1))*8) (List.drop ((k+1)*8) rows)=List.drop ((k+1)*8) rows:=List.take_of_length_le (by rw [List.length_drop,hrl];omega)
 have hnn:k+1+(y.runs.length-(k+1))≤y.runs.length:=by omega
 have hd1:(List.take (k*8) rows).length/8=k:=by rw [List.length_take,hrl,Nat.min_eq_left (by omega)];exact Nat.mul_div_cancel _ (by decide)
 have hd2:(List.drop ((k+1)*8) rows).length/8=y.runs.length-(k+1):=by
  rw [List.length_drop,hrl,show y.runs.length*8-(k+1)*8=(y.runs.length-(k+1))*8 by omega];exact Nat.mul_div_cancel _ (by decide)
 have m1:k≤maxLen:=by unfold maxLen;omega
 have m2:k*96≤140737488355328:=by omega
 have m3:k+(y.runs.length-(k+1))≤maxLen:=by unfold maxLen;omega
 have m4:(k+(y.runs.length-(k+1)))*96≤140737488355328:=by omega
 simp only [go_sem,hdl,hw1,hkl2,hkl3,h0k,h0k1,hf1,hf2,Nat.le_refl,htd,hnn,hd1,hd2,m1,m2,m3,m4];intro η34 η39 η45;refine kY ?_
 refine WkK.wk (jmM [some 92,some 90] (T:=[(1,Ni id),(4,Bx 92 b4),(6,Bx 90 b6)]) (O:=[(92,ZYd b4 tYd),(90,qZ b6 tYd y.now y.seq y.shelf η2 (.sl 8 tRn (rows.take (k*8)++rows.drop ((k+1)*8))) η45)]) (b:=1000000000000) (fam:=fam) (by simp only [go_sem]<;>and_intros<;>first|rfl|assumption) (fun j hj=>by
  simp only [go_sem]
  repeat rw [if_neg (by omega)]
  rw [if_pos hj]) (by decide)) ?_
 refine WkK.wk (jmN (b:=1000000000000) (fam:=fam) (fun j=>if j<2*k then j else j+2) (fun i j h=>by
  split at h<;>split at h<;>omega) (fun j hj=>by
  show (if 1000000000000≤j then _ else _)=_
  rw [if_pos hj])) ?_
 refine jeq 90 3 (y.runs.eraseIdx k) [] 1000000000000 _ η45 (rows.take (k*8)++rows.drop ((k+1)*8)) _ (hcr.erase hk) rfl (by decide) (fun j hj=>by
  show (if 1000000000000≤j then _ else _)=_
  rw [if_pos hj]) fun η9 _=>?_
 generalize y.runs.eraseIdx k=R at*;refine WkK.wk (s':=St.of [(1,Ni id),(4,Bx 92 b4),(6,Bx 90 b6)] [(92,ZYd b4 tYd),(90,kq b6 tYd y.now y.seq y.shelf η2 R η9)]) (jg [some 92,some 90] (by simp only [go_sem]<;>and_intros<;>first|rfl|assumption|trivial)) ?_
 refine WkK.of ?_;have hsl:y.shelf.length=4:=hP.four;simp only [go_sem];refine jn (fun i:Nat×js=>St.of [(1,Ni id),(4,Bx 92 b4),(6,Bx 90 b6),(8,Ni i.1)] [(92,ZYd b4 tYd),(90,kq b6 tYd y.now y.seq (jdq (fun l=>l.filter (jcd id)) y.shelf i.1) i.2 R η9)]) (fun i=>i.1≤y.shelf.length) (fun i=>y.shelf.length-i.1) (0,η2) (by (try dsimp only);first|omega|(simp;done)|(and_intros<;>first|omega|simp)) (jg [some 92,some 90] (by simp only [go_sem,juf]<;>and_intros<;>first|rfl|assumption|trivial)) ?_
 rintro ⟨n,η⟩ hn;dsimp only at hn;have hml:=jnJ (f:=fun l=>List.filter (jcd id) l) (l:=y.shelf) (i:=n)
 by_cases hlt:n<y.shelf.length
 ·obtain ⟨l,hl⟩:=je hlt
  have hSi:=jnK (f:=fun l=>List.filter (jcd id) l) hl
  have hSs:=jnI (f:=fun l=>List.filter (jcd id) l) hl
  have hll:=vU ht (List.mem_of_getElem? hl);have hwi:IntKind.i64.wrap ((n:Int)+1)=((n+1:Nat):Int):=jf (by omega) (by omega)
  have h0i:(n:Int)≥0:=by omega
  generalize hS:jdq (fun l=>List.filter (jcd id) l) y.shelf n=S at*
  have hli:n<S.length:=by omega
  have hlt':(n:Int)<S.length:=by omega
  simp only [go_sem,hlt'];intro ηe;refine jn (fun i:Nat×js=>St.of [(1,Ni id),(4,Bx 92 b4),(6,Bx 90 b6),(8,Ni n),(9,Hd 9 i.2),(10,Ni i.1)] [(92,ZYd b4 tYd),(90,kq b6 tYd y.now y.seq S η R η9),(9,.loose (jm ((l.take i.1).filter (jcd id))) i.2)]) (fun i=>i.1≤l.length) (fun i=>l.length-i.1) (0,ηe) (by (try dsimp only);first|omega|(simp;done)|(and_intros<;>first|omega|simp)) (jg [some 92,some 90,some 5400] (by simp only [go_sem,List.take_zero,List.filter_nil,jdf]<;>and_intros<;>first|rfl|assumption|trivial)) ?_
  rintro ⟨j,η8⟩ hj;dsimp only at hj;by_cases hjt:j<l.length
  ·have hjt':(j:Int)<l.length:=by omega
   have h0j:(j:Int)≥0:=by omega
   obtain ⟨e,he⟩:=je hjt;have hwj:IntKind.i64.wrap ((j:Int)+1)=((j+1:Nat):Int):=jf (by omega) (by omega)
   have hft:=juI (jcd id) he;have hFl:((l.take j).filter (jcd id)).length≤l.length:=Nat.le_trans (List.length_filter_le _ _) (by rw [List.length_take];omega)
   generalize (l.take j).filter (jcd id)=F at*;have n1:F.length+1≤maxLen:=by unfold maxLen;omega
   have n2:(F.length+1)*32≤140737488355328:=by omega
   cases hc2:e.run !=id
   ·have hp:jcd id e=false:=hc2
    rw [hp,if_neg (by decide),List.append_nil] at hft
    simp only [go_sem,hli,h0i,Nat.mul_one,jrh hSi,jqM hli,ko hSi,hjt',hjt,h0j,jx1 he,jxK he,hc2,hwj];exact ⟨(j+1,η8),by (try dsimp only);first|omega|assumption|(and_intros<;>first|omega|assumption),(jg [some 92,some 90,some 9] (by simp only [go_sem,hft]<;>and_intros<;>first|rfl|assumption|trivial)),by (try dsimp only);omega⟩
   ·have hp:jcd id e=true:=hc2
    rw [hp,if_pos rfl] at hft;simp only [go_sem,hli,h0i,Nat.mul_one,jrh hSi,jqM hli,ko hSi,hjt',hjt,h0j,jx1 he,jxK he,hc2,hwj,jsK he,jso he,jk,n1,n2,juO,kp];intro ηx ηy;exact ⟨(j+1,ηy),by (try dsimp only);first|omega|assumption|(and_intros<;>first|omega|assumption),(jg [some 92,some 90,some 8600] (by simp only [go_sem,hft]<;>and_intros<;>first|rfl|assumption|trivial)),by (try dsimp only);omega⟩
  ·have hjt':¬(j:Int)<l.length:=by omega
   obtain rfl:j=l.length:=by omega
   rw [List.take_length];simp only [go_sem,hli,h0i,Nat.mul_one,jrh hSi,jqM hli,ko hSi,hjt',jao,hSs,hwi];refine fun g' hg'=>?_
   exact ⟨(n+1,g'),by (try dsimp only);first|omega|assumption|(and_intros<;>first|omega|assumption),(jg [some 92,some 90] (by simp only [go_sem]<;>and_intros<;>first|rfl|assumption|trivial)),by (try dsimp only);omega⟩
 ·have hlt':¬(n:Int)<(jdq (fun l=>List.filter (jcd id) l) y.shelf n).length:=by omega
  obtain rfl:n=y.shelf.length:=by omega
  simp only [go_sem,hlt'];rw [jnL];refine qh _ _ _ _ _ ?_;simp only [go_sem,jb]
theorem jt3 (id:Int) (e:En):kj Tryz.prog 145 [.agg (jk e),.ptr [iv id]] (.c (.val (.bool (!jcd id e)))):=by
 refine jq Tryz.func145 jfO (by simp) ?_
 unfold jc3;have hb:(!jcd id e)=(e.run==id):=by simp [jcd,bne]
 simp only [go_sem,jk,hb]
theorem jl7 (y:Yd) (id:Int) (ht:jJ y≤2000000):kj Tryz.prog 91 [.agg (jb y),.c (.val (.int .i64 id))] (.tup [(true,jb (jau y id)),(false,[.val (.int .i64 (jav y id))])]):=by
 refine zn [[1,1,1,1,0],[1,1,1,1,1,0,0]] Tryz.func91 jim (by simp) ?_
 unfold jgi;simp only [C.ghs,C.ghAt,List.foldr];simp only [go_sem,jb];intro b2 b3 b4;refine jc (kn y ht) (by simp only [go_sem,jb]) fun ηc=>?_
 simp only [go_sem,jb];intro b6;refine jc (ql y id) (by simp only [go_sem,jb]) fun η=>?_
 simp only [go_sem,jb];refine jc (kI y ht) (by simp only [go_sem,jb]) fun η=>?_
 simp only [go_sem,jb];cases hok:jD y
 ·have hc:jav y id=8:=by simp [jav,hok]
  have hy:jau y id=y:=by rw [jau,if_neg (by rw [hc];decide)]
  simp only [go_sem,jb,hok,hc,hy];refine qh _ _ _ _ _ ?_;simp only [go_sem,jb]
 have hP:=yard_iff.1 hok;by_cases hneg:runAt y id<0
 ·have hc:jav y id=10:=by rw [jav,if_neg (by rw [hok];decide),if_pos hneg]
  have hy:jau y id=y:=by rw [jau,if_neg (by rw [hc];decide)]
  simp only [go_sem,jb,hok,hneg,hc,hy];refine qh _ _ _ _ _ ?_;simp only [go_sem,jb]
 obtain ⟨k,r,hrk,hr,hid,h8⟩:=qP hneg;have hk:=(List.getElem?_eq_some_iff.1 hr).1;have h0k:(k:Int)≥0:=by omega
 have hk0:¬(k:Int)<0:=by omega
 have hget:((y.runs[(runAt y id).toNat]?).getD default)=r:=by rw [hrk,Int.toNat_natCast,hr,Option.getD_some]
 cases hst:r.state==1;rotate_left
 ·have hs1:r.state=1:=by simpa using hst
  have hc:jav y id=13:=by rw [jav,if_neg (by rw [hok];decide),if_neg hneg,hget,if_pos hs1]
  have hy:jau y id=y:=by rw [jau,if_neg (by rw [hc];decide)]
  simp only [go_sem,jb,hok,hrk,hk0,h0k,hk,jV hr,jd,ja,hst,hc,hy];refine qh _ _ _ _ _ ?_;simp only [go_sem,jb]
 have hs1:¬r.state=1:=by simpa using hst
 have hc:jav y id=0:=by rw [jav,if_neg (by rw [hok];decide),if_neg hneg,hget,if_neg hs1]
 rw [hc,jau,if_pos hc,hrk,Int.toNat_natCast];simp only [go_sem,jb,hok,hrk,hk0,h0k,hk,jV hr,jd,ja,hst];refine kY ?_;generalize ηc 2=η2 at*;generalize ηc 3=η3 at*;refine WkK.wk (s':=St.of [(3,Bx 91 b3),(4,Bx 92 b4),(6,Bx 90 b6),(7,Ni k)] [(91,.box b3 jgn [.a (.v (.int .i64 id))]),(92,ZYd b4 tYd),(90,kq b6 tYd y.now y.seq y.shelf η2 y.runs η3)]) (jg [some 300,some 400,some 600] (by simp only [go_sem,jb]<;>and_intros<;>first|rfl|assumption|trivial)) ?_
 refine jiR 90 3 y.runs [] 1000000000000 _ η3 rfl (by decide) (fun j hj=>by
  show (if j=91 then _ else if j=92 then _ else if j=90 then _ else Ob.none)=Ob.none
  rw [if_neg (by omega),if_neg (by omega),if_neg (by omega)]) fun rows fam η' hcr hη=>?_
 refine WkK.wk (jmM [some 91,some 92,some 90] (T:=[(3,Bx 91 b3),(4,Bx 92 b4),(6,Bx 90 b6),(7,Ni k)]) (O:=[(91,.box b3 jgn [.a (.v (.int .i64 id))]),(92,ZYd b4 tYd),(90,qZ b6 tYd y.now y.seq y.shelf η2 (.sl 8 tRn rows) η')]) (b:=1000000000000) (fam:=fam) (by simp only [go_sem]<;>and_intros<;>first|rfl|assumption) (fun j hj=>by
  show (if 1000000000000≤j then _ else _)=_
  rw [if_pos hj]) (by decide)) ?_
 refine qG 90 3 95 (d:=.sl 8 tRn rows) (η:=η') rfl rfl (by decide) fun hone=>?_
 refine WkK.wk (jmM [some 91,some 92,some 90,some 95] (T:=[(3,Bx 91 b3),(4,Bx 92 b4),(6,Bx 90 b6),(7,Ni k)]) (O:=[(91,.box b3 jgn [.a (.v (.int .i64 id))]),(92,ZYd b4 tYd),(90,.box b6 tYd [.a (.v (.int .i64 y.now)),.a (.v (.int .i64 y.seq)),.own (ku y.shelf) η2,.a (.v (η' []))]),(95,.loose (.sl 8 tRn rows) η')]) (b:=1000000000000) (fam:=fam) (by simp only [go_sem]<;>and_intros<;>first|rfl|assumption) (fun j hj=>by
  simp only [go_sem]
  repeat rw [if_neg (by omega)]
  rw [if_pos hj]) (by decide)) ?_
 refine WkK.of ?_;have hrl:=hcr.len;have hfl:=hcr.flat;obtain ⟨hf1,hf2⟩:=jjz hfl (k*8) ((k+1)*8)
 have hdl:(D.sl 8 tRn rows).len=y.runs.length:=by
  simp only [D.len,D.cells,D.size,hrl];exact Nat.mul_div_cancel _ (by decide)
 have hw1:IntKind.i64.wrap ((k:Int)+1)=(k:Int)+1:=jf (by omega) (by omega)
 have hkl2:k+1≤y.runs.length:=hk;have hkl3:k≤y.runs.length:=by omega
 have h0k1:((k+1:Nat):Int)≥0:=by omega
 have htd:List.take ((k+1+(y.runs.length-(k+1))-(k+1))*8) (List.drop ((k+1)*8) rows)=List.drop ((k+1)*8) rows:=List.take_of_length_le (by rw [List.length_drop,hrl];omega)
 have hnn:k+1+(y.runs.length-(k+1))≤y.runs.length:=by omega
 have hd1:(List.take (k*8) rows).length/8=k:=by rw [List.length_take,hrl,Nat.min_eq_left (by omega)];exact Nat.mul_div_cancel _ (by decide)
 have hd2:(List.drop ((k+1)*8) rows).length/8=y.runs.length-(k+1):=by
  rw [List.length_drop,hrl,show y.runs.length*8-(k+1)*8=(y.runs.length-(k+1))*8 by omega];exact Nat.mul_div_cancel _ (by decide)
 have m1:k≤maxLen:=by unfold maxLen;omega
 have m2:k*96≤140737488355328:=by omega
 have m3:k+(y.runs.length-(k+1))≤maxLen:=by unfold maxLen;omega
 have m4:(k+(y.runs.length-(k+1)))*96≤140737488355328:=by omega
 have hf3:kb (rows.take (k*8)++rows.drop ((k+1)*8))=true:=by rw [vx,hf1,hf2];rfl
 simp only [go_sem,hw1]
 refine je8 (R:=fun rt o'=>rt=.c (.sl 8 tRn (rows.take (k*8)++rows.drop ((k+1)*8)))∧o' 90=.box b6 tYd [.a (.v (.int .i64 y.now)),.a (.v (.int .i64 y.seq)),.own (ku y.shelf) η2,.a (.v (η' []))]∧o' 91=.box b3 jgn [.a (.v (.int .i64 id))]∧o' 92=ZYd b4 tYd∧∀j,1000000000000≤j→o' j=fam (j-1000000000000)) (by
  simp only [go_sem];refine (jvK rows y.runs.length k hfl hf3 hrl hk (g:=95) (η:=η') (by simp only [go_sem])).mono fun rt o' h=>?_
  obtain ⟨h1,rfl⟩:=h;refine ⟨h1,by simp only [go_sem],by simp only [go_sem],by simp only [go_sem],fun j hj=>?_⟩
  simp only [go_sem]
  repeat rw [if_neg (by omega)]
  rw [if_pos hj]) fun rt o' hR η37=>?_
 obtain ⟨rfl,j90,j91,j92,jF⟩:=hR;simp only [go_sem,j90];refine kY ?_
 refine WkK.wk (jmM [some 91,some 92,some 90] (T:=[(3,Bx 91 b3),(4,Bx 92 b4),(6,Bx 90 b6)]) (O:=[(91,.box b3 jgn [.a (.v (.int .i64 id))]),(92,ZYd b4 tYd),(90,qZ b6 tYd y.now y.seq y.shelf η2 (.sl 8 tRn (rows.take (k*8)++rows.drop ((k+1)*8))) (η37 0))]) (b:=1000000000000) (fam:=fam) (by simp only [go_sem,j90,j91,j92]<;>and_intros<;>first|rfl|assumption) (fun j hj=>by
  simp only [go_sem]
  repeat rw [if_neg (by omega)]
  exact jF j hj) (by decide)) ?_
 refine WkK.wk (jmN (b:=1000000000000) (fam:=fam) (fun j=>if j<2*k then j else j+2) (fun i j h=>by
  split at h<;>split at h<;>omega) (fun j hj=>by
  show (if 1000000000000≤j then _ else _)=_
  rw [if_pos hj])) ?_
 refine jeq 90 3 (y.runs.eraseIdx k) [] 1000000000000 _ (η37 0) (rows.take (k*8)++rows.drop ((k+1)*8)) _ (hcr.erase hk) rfl (by decide) (fun j hj=>by
  show (if 1000000000000≤j then _ else _)=_
  rw [if_pos hj]) fun η9 _=>?_
 generalize y.runs.eraseIdx k=R at*;refine WkK.wk (s':=St.of [(3,Bx 91 b3),(4,Bx 92 b4),(6,Bx 90 b6)] [(91,.box b3 jgn [.a (.v (.int .i64 id))]),(92,ZYd b4 tYd),(90,kq b6 tYd y.now y.seq y.shelf η2 R η9)]) (jg [some 91,some 92,some 90] (by simp only [go_sem]<;>and_intros<;>first|rfl|assumption|trivial)) ?_
 refine WkK.of ?_;have hsl:y.shelf.length=4:=hP.four;simp only [go_sem];refine jn (fun i:Nat×js=>St.of [(3,Bx 91 b3),(4,Bx 92 b4),(6,Bx 90 b6),(41,Ni y.shelf.length),(42,Ni i.1)] [(91,.box b3 jgn [.a (.v (.int .i64 id))]),(92,ZYd b4 tYd),(90,kq b6 tYd y.now y.seq (jdq (fun l=>l.filter (jcd id)) y.shelf i.1) i.2 R η9)]) (fun i=>i.1≤y.shelf.length) (fun i=>y.shelf.length-i.1) (0,η2) (by (try dsimp only);first|omega|(simp;done)|(and_intros<;>first|omega|simp)) (jg [some 91,some 92,some 90] (by simp only [go_sem,juf]<;>and_intros<;>first|rfl|assumption|trivial)) ?_
 rintro ⟨n,η⟩ hnl;dsimp only at hnl;have hml:=jnJ (f:=fun l=>List.filter (jcd id) l) (l:=y.shelf) (i:=n)
 by_cases hlt:n<y.shelf.length
 ·have hlt':(n:Int)<y.shelf.length:=by omega
  obtain ⟨l,hl⟩:=je hlt;have hSi:=jnK (f:=fun l=>List.filter (jcd id) l) hl
  have hSs:=jnI (f:=fun l=>List.filter (jcd id) l) hl
  have hll:=ja9 ht (List.mem_of_getElem? hl);have hwn:IntKind.i64.wrap ((n:Int)+1)=((n+1:Nat):Int):=jf (by omega) (by omega)
  have h0n:(n:Int)≥0:=by omega
  generalize hS:jdq (fun l=>List.filter (jcd id) l) y.shelf n=S at*
  have hn:n<S.length:=by omega
  have hi1:=jqM hn;have ha1:=jrh hSi;simp only [go_sem,hlt',hn,h0n,kO hSi,ha1,hi1,Nat.mul_one];refine kV (jux ?_);refine qn (β:=7000000) Tryz.func85 kC (by simp) ?_
  unfold kg;simp only [go_sem];refine jc (jbB l _ [iv id] (fun e=>!jcd id e) (fun x=>jt3 id x) hll) (by simp only [go_sem,ko hSi]) fun ηq=>?_
  simp only [go_sem]
  have hcut:∀(L:List En) (m:Nat),m≤L.length→(L.flatMap jk).take (m*4)=(L.take m).flatMap jk:=fun L m hm=>by
   have e1:L.flatMap jk=(L.take m).flatMap jk++(L.drop m).flatMap jk:=by rw [←List.flatMap_append,List.take_append_drop]
   rw [e1,List.take_left' (by rw [jH jqY,List.length_take,Nat.min_eq_left hm])]
  rcases zq (fun e=>!jcd id e) l with ⟨h1,h2⟩|⟨i0,x0,h1,h2,h3,h4⟩
  ·have hfl:l.filter (jcd id)=l:=List.filter_eq_self.2 fun e he=>by have:=h2 e he;simpa using this
   rw [hfl] at hSs;simp only [go_sem,h1,beq_self_eq_true];refine ⟨90,2,n,777,l.length,4,tEn,jrs,l.flatMap jk,_,η,.inr ⟨rfl,(jH jqY l).symm⟩,by simp only [go_sem];rfl,jju hSi,by simp only [go_sem],by decide,by decide,by rw [jH jqY];exact Nat.le_refl _,fun η2' η'' hη2=>?_⟩
   rw [hcut l l.length (Nat.le_refl _),List.take_length];simp only [go_sem,jlc,jft,hη2,jlG,jlC,jiE,hn,h0n,Nat.mul_one,jdp,hi1,jiA _ l hn,kp,hwn];refine ⟨hn,fun g' hg'=>?_⟩
   exact ⟨(n+1,g'),by (try dsimp only);first|omega|assumption|(and_intros<;>first|omega|assumption),(jg [some 91,some 92,some 90] (by simp only [go_sem,jlc,hSs]<;>and_intros<;>first|rfl|assumption|trivial)),by (try dsimp only);omega⟩
  ·have hi0:=(List.getElem?_eq_some_iff.1 h2).1
   have hne:((i0:Int)==-1)=false:=by simp
   have hw0:IntKind.i64.wrap ((i0:Int)+1)=((i0+1:Nat):Int):=jf (by omega) (by omega)
   have hset0:=jad hSi;simp only [go_sem,h1,hne,hw0];refine jn (fun i:Nat×Nat×List En=>St.of [(0,.c (.h 90 2 [n] (η [n]))),(1,.fn 145 [.bp 91 0 b3]),(5,Ni i.1),(6,Ni i.2.1)] [(91,.box b3 jgn [.a (.v (.int .i64 id))]),(92,ZYd b4 tYd),(90,kq b6 tYd y.now y.seq (S.set n i.2.2) η R η9)]) (fun i=>jx4 (fun e=>!jcd id e) l i.2.2 i.1 i.2.1) (fun i=>l.length-i.2.1) (i0,i0+1,l) (jBL h2 h3 h4) (jg [some 91,some 92,some 90] (by simp only [go_sem,hset0]<;>and_intros<;>first|rfl|assumption|trivial)) ?_
   rintro ⟨i,j,L⟩ hd;dsimp only at hd;have hL:(S.set n L)[n]?=some L:=List.getElem?_set_self hn;have hLl:=hd.len;have hij:=hd.ij;have hjl:=hd.jl;have h0i:(i:Int)≥0:=by omega
   by_cases hjt:j<l.length
   ·have hjt':(j:Int)<l.length:=by omega
    have h0j:(j:Int)≥0:=by omega
    obtain ⟨e,he⟩:=je hjt;have heL:L[j]?=some e:=by rw [hd.suf j (Nat.le_refl _)];exact he
    have hiL:i<L.length:=by omega
    have hjL:j<L.length:=by omega
    obtain ⟨xi,hxi⟩:=je hiL;have hw:IntKind.i64.wrap ((j:Int)+1)=((j+1:Nat):Int):=jf (by omega) (by omega)
    have hwi:IntKind.i64.wrap ((i:Int)+1)=((i+1:Nat):Int):=jf (by omega) (by omega)
    simp only [go_sem,ko hL,hLl,hjt,hjt',h0j,jsK heL,jso heL,jk];intro b7;refine ji6 (by simp only [go_sem];rfl) (jt3 id e) (by simp only [go_sem,jk]) fun η=>?_
    cases hf:jcd id e
    ·simp only [go_sem,jk,hf,hw]
     exact ⟨(i,j+1,L),jxQ hd he (by simp [hf]),(jg [some 91,some 92,some 90] (by simp only [go_sem]<;>and_intros<;>first|rfl|assumption|trivial)),by (try dsimp only);omega⟩
    ·simp only [go_sem,jk,hf,hw,hwi,ko hL,hLl,h0i,jsK hxi,jso hxi,jqm e hL hiL,List.set_set,(show i<l.length by omega)]
     exact ⟨(i+1,j+1,L.set i e),juY hd he (by simp [hf]),(jg [some 91,some 92,some 90] (by simp only [go_sem]<;>and_intros<;>first|rfl|assumption|trivial)),by (try dsimp only);omega⟩
   ·have hjt':¬(j:Int)<l.length:=by omega
    obtain rfl:j=l.length:=by omega
    have hde:=juZ hd;have hfe:l.filter (fun e=>!!jcd id e)=l.filter (jcd id):=by simp
    rw [hfe] at hde;have hin:i≤l.length:=by omega
    have hpos:0<l.length-i:=by omega
    have hsum:i+(l.length-i)=l.length:=by omega
    have hsum2:i+(l.length-i)=L.length:=by omega
    have hrf:kb ((List.replicate (l.length-i) jdC).flatMap jk)=true:=jaP _;obtain ⟨L2,hL2⟩:∃L2,L2=L.take i++List.replicate (l.length-i) jdC:=⟨_,rfl⟩;have hL2l:L2.length=l.length:=by rw [hL2];simp;omega
    have hL2t:L2.take i=l.filter (jcd id):=by rw [hL2,List.take_left' (by rw [List.length_take];omega),hde]
    have hp2:D.put [n] (i*4) ((List.replicate (l.length-i) jdC).flatMap jk) (ku (S.set n L))=ku (S.set n L2):=by rw [jo6 hL (jxU hsum2),List.set_set,hL2]
    have hg2:(S.set n L2)[n]?=some L2:=List.getElem?_set_self hn;have hns:n<(S.set n L2).length:=by rw [List.length_set];exact hn
    simp only [go_sem,ko hL,hLl,hjt',h0i,hin,Nat.le_refl,hpos,hsum,jxy,jn9,hrf,hp2,ko hg2,hL2l];refine ⟨90,2,n,777,i,4,tEn,jrs,L2.flatMap jk,_,η,.inl rfl,by simp only [go_sem];rfl,jju hg2,by simp only [go_sem],by decide,by decide,by rw [jH jqY];omega,fun η2' η'' hη2=>?_⟩
    rw [hcut L2 i (by omega),hL2t]
    simp only [go_sem,jlc,jft,hη2,jlG,jlC,jiE,hns,h0n,Nat.mul_one,jdp,jiA _ (l.filter (jcd id)) hns,kp,List.set_set,List.length_set,hn,hwn];refine ⟨hn,fun g' hg'=>?_⟩
    exact ⟨(n+1,g'),by (try dsimp only);first|omega|assumption|(and_intros<;>first|omega|assumption),(jg [some 91,some 92,some 90] (by simp only [go_sem,jlc,hSs]<;>and_intros<;>first|rfl|assumption|trivial)),by (try dsimp only);omega⟩
 ·have hlt':¬(n:Int)<y.shelf.length:=by omega
  obtain rfl:n=y.shelf.length:=by omega
  simp only [go_sem,hlt'];rw [jnL];refine qh _ _ _ _ _ ?_;simp only [go_sem,jb]
theorem jxS (u:UInt8):IntKind.i64.wrap (u.toNat:Int)=u.toNat:=jf (by omega) (by have:=u.toNat_lt;omega)
section
variable {P:Program} {β N B:Nat} {s:St} {K:St→Prop} {d:Option Nat} {gd:Option (Nat×Bool)} {a:Act} {w w0:World} {F:Nat→List Nat}
def jxl (o' o:Nat→Ob):Prop:=∀g,o' g=o g∨o' g=.none
open Classical in
theorem RelF.less (h:RelF B w0 N s a w F) {o':Nat→Ob} (ho:jxl o' s.o):∃F':Nat→List Nat,RelF B w0 N ⟨s.t,o'⟩ a w F'∧∀g,∀b∈F' g,b∈F g:=by
 have hs:∀g,∀b∈(if o' g=s.o g then F g else []),b∈F g:=fun g b hb=>by
  split at hb
  ·exact hb
  ·simp at hb
 refine ⟨fun g=>if o' g=s.o g then F g else [],⟨h.below,h.hB,h.df,h.sz,h.sl,fun g=>?_,fun g=>?_,fun g g' hne b hb hb'=>h.dj g g' hne b (hs g b hb) (hs g' b hb')⟩,hs⟩
 ·show ORel B w (o' g) _
  by_cases e:o' g=s.o g
  ·rw [if_pos e,e];exact h.ob g
  ·rw [if_neg e,(ho g).resolve_left e];rfl
 ·by_cases e:o' g=s.o g
  ·rw [if_pos e];exact h.fr g
  ·rw [if_neg e];exact Fresh.nil _
def jB6 (P:Program) (f:FuncId) (args:List AV) (o:Nat→Ob) (A:AV) (o':Nat→Ob):Prop:=Inl P f args o fun av o2=>av=A∧o2=o'
theorem jpu {f:FuncId} {args:List AV} {o o':Nat→Ob} {A:AV} (h:Inl P f args o fun av o2=>av=A∧jxl o' o2):jB6 P f args o A o':=
 ⟨h.1,fun B w F xs h1 h2=>(h.2 B w F xs h1 h2).mono fun e w' ⟨v,av,o2,F',k1,k2,k3,k4,k5⟩=>by
  obtain ⟨F2,r,_⟩:=k2.less (o':=o') k5;exact ⟨v,av,o',F2,k1,r,k3,k4,rfl⟩⟩
theorem kh {f:Nat} {args:List X} {vs:List AV} {A:AV} {o':Nat→Ob} (h:jB6 P f vs s.o A o') (ha:args.map s.ev=vs) (hk:K (St.put ⟨s.t,o'⟩ d A)):vd P β ⟨d,gd,.call f args⟩ s K:=by
 subst ha;exact jkR h fun av o2 ⟨h1,h2⟩=>by subst h1 h2;exact hk
theorem jz {g M:Nat} (h:g<M) (n:Nat) (hn:M≤n):(g=n)=False:=eq_false (by omega)
end
def jzY (o:Nat→Ob) (g:Nat) (ob:Ob):Nat→Ob:=fun k=>if k=g then ob else o k
theorem jzX (o:Nat→Ob) (g:Nat) (ob:Ob) (k:Nat):jzY o g ob k=if k=g then ob else o k:=(rfl)
theorem jbg {g:Nat} {o o2:Nat→Ob} {ob:Ob} (h1:o2 g=ob) (h2:∀k,k≠g→o2 k=o k):jxl (jzY o g ob) o2:=fun k=>by
 rw [jzX];by_cases e:k=g
 ·rw [if_pos e,e];exact .inl h1.symm
 ·rw [if_neg e];exact .inl (h2 k e).symm
attribute [go_sem] jzX
def St.ofB (T:List (Nat×AV)) (O:List (Nat×Ob)) (M:Nat) (ob:Nat→Ob):St:=⟨lkT T,fun j=>if j<M then ob j else lkO O j⟩
theorem ofB_t (T:List (Nat×AV)) (O:List (Nat×Ob)) (M:Nat) (ob:Nat→Ob) (n:Nat):(St.ofB T O M ob).t n=lkT T n:=(rfl)
theorem ofB_o (T:List (Nat×AV)) (O:List (Nat×Ob)) (M:Nat) (ob:Nat→Ob) (n:Nat):(St.ofB T O M ob).o n=if n<M then ob n else lkO O n:=(rfl)
attribute [go_sem] ofB_t ofB_o
theorem kS {s:St} {T:List (Nat×AV)} {O:List (Nat×Ob)} {M:Nat} {ob:Nat→Ob} (ks:List (Option Nat)) (h:jxN s T∧jqU s ks O) (hf:∀j,j<M→s.o j=ob j) (hk:∀k∈jry ks,M≤k) (hn:jj2 (jry ks)=true:=by decide):Wk s (St.ofB T O M ob):=fun B N w0 w a F hr=>by
 have hob:=juC hr.ob h.2;have hdj:=jwJ (ks:=ks) (O:=O) hr.dj (jbK hn);refine ⟨fun j=>if j<M then F j else fp F ks O j,⟨hr.below,hr.hB,hr.df,hr.sz,jwM hr.sl h.1,fun g=>?_,fun g=>?_,fun g g' hne x hx hx'=>?_⟩,fun g x hx=>?_⟩
 ·by_cases c:g<M
  ·simp only [St.ofB,if_pos c];rw [←hf g c];exact hr.ob g
  ·simp only [St.ofB,if_neg c];exact hob g
 ·by_cases c:g<M
  ·simp only [if_pos c];exact hr.fr g
  ·simp only [if_neg c];exact jwI hr.fr ks O g
 ·by_cases c:g<M
  ·simp only [if_pos c] at hx
   by_cases c':g'<M
   ·simp only [if_pos c'] at hx';exact hr.dj g g' hne x hx hx'
   ·simp only [if_neg c'] at hx'
    obtain ⟨k,h1,h2⟩:=jfs hx';exact hr.dj g k (by have:=hk k h1;omega) x hx h2
  ·simp only [if_neg c] at hx
   by_cases c':g'<M
   ·simp only [if_pos c'] at hx'
    obtain ⟨k,h1,h2⟩:=jfs hx;exact hr.dj k g' (by have:=hk k h1;omega) x h2 hx'
   ·simp only [if_neg c'] at hx';exact hdj g g' hne x hx hx'
 ·by_cases c:g<M
  ·simp only [if_pos c] at hx;exact ⟨g,hx⟩
  ·simp only [if_neg c] at hx
   obtain ⟨k,_,h2⟩:=jfs hx;exact ⟨k,h2⟩
abbrev jxk (b ty:Nat) (p m w t:Int) (E:List Ed) (η:js):Ob:=.box b ty [.a (.v (.int .i64 p)),.a (.v (.int .i64 m)),.a (.v (.int .i64 w)),.a (.v (.int .i64 t)),.own (jy E) η]
abbrev ZPl (b ty:Nat):Ob:=.box b ty [.a (.v (.int .i64 0)),.a (.v (.int .i64 0)),.a (.v (.int .i64 0)),.a (.v (.int .i64 0)),.a (.v (.slice none 0 0))]
abbrev DdR (b ty:Nat) (d:Dd) (η:js):Ob:=.box b ty [.a (.v (.int .i64 d.kind)),.a (.v (.int .i64 d.run)),.a (.v (.int .i64 d.plan.prio)),.a (.v (.int .i64 d.plan.most)),.a (.v (.int .i64 d.plan.wait)),.a (.v (.int .i64 d.plan.tasks)),.own (jy d.plan.edges) η,.a (.v (.int .i64 d.task)),.a (.v (.int .i64 d.tri)),.a (.v (.int .i64 d.worker)),.a (.v (.int .i64 d.draw))]
open Go.RowKit Go.ChangeShapes Go.WideShapes Go.Deep Go.ChangeAt
theorem rByte:ReadsAs Tryz.prog 5 (fun u:UInt8=>[qX u]) (fun _=>True):=by
 intro H enc w base spare held n cs y hy;obtain ⟨i,rfl,_,hw⟩:=DataW.trod_int (k:=.u8) (by kernel_rfl) hy
 have hi:0≤i∧i≤255:=by simpa [Lit.wf,IntKind.min,IntKind.max,IntKind.signed,IntKind.bits] using hw
 refine ⟨UInt8.ofNat i.toNat,trivial,[],?_⟩
 have he:((UInt8.ofNat i.toNat).toNat:Int)=i:=by
  rw [UInt8.toNat_ofNat'];omega
 have hb:qX (UInt8.ofNat i.toNat)=D.val (.int .u8 i):=by simp only [qX];rw [he]
 dsimp only;rw [hb];exact RepL.val_ RepL.nil_
theorem jxz:ReadsAs Tryz.prog 22 (fun l=>[jaY l]) (fun l=>∀e∈l,True):=by
 have h:=jwf (size:=1) (ty:=5) (P:=Tryz.prog) (t:=22) (e:=5) (by kernel_rfl) rByte (by kernel_rfl) (fun _=>rfl) (by decide)
 refine h.map id (fun l=>?_) (fun _ h=>h)
 have e:l.flatMap (fun u=>[qX u])=l.map qX:=by
  induction l with
  |nil=>rfl
  |cons x l ih=>simp only [List.flatMap_cons,List.map_cons,ih];rfl
 simp only [jaY,id];rw [e]
end Go.Proofs.YtcehjhiglmifjaaGreat
