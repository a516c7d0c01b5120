/- Parts. -/
import Derived.Test.YtmnpailnelmpiaaGreatQDeedB
import Derived.Test.YtmnpailnelmpiaaGreatQSub
import Derived.Laws.Strings
set_option linter.unusedSimpArgs false
set_option linter.unusedVariables false
set_option maxHeartbeats 8000000
set_option maxRecDepth 100000
namespace Go.Proofs.YtmnpailnelmpiaaGreat
open Go.RowKit Go.Sort
abbrev jcy (l:List UInt8):D:=.sl 1 5 (l.map qX)
theorem jas (l:List UInt8):(jcy l).len=l.length:=by simp [D.len,D.cells,D.size]
noncomputable def vI (r:Rn):Rn:=if (kK r&&r.state==1)=true then ⟨r.id,r.plan,4,qS jy r.tasks r.tasks.length⟩ else r
theorem jih {r:Rn} (h:(kK r&&r.state==1)=false):vI r=r:=by simp [vI,h]
theorem jiY {r:Rn} (h:(kK r&&r.state==1)=true):vI r=⟨r.id,r.plan,4,qS jy r.tasks r.tasks.length⟩:=by simp [vI,h]
theorem jAB {r:Rn} (h:RunOkP r) (h1:r.state=1):cS 5 r.tasks=0:=by
 have h2:=h.state;rw [h1] at h2;unfold jf2 at h2;split at h2
 ·omega
 split at h2
 ·omega
 split at h2
 ·omega
 split at h2
 ·rename_i h3;exact h3.1
 ·omega
theorem jrH {ts:List Tk} (h:cS 5 ts=0) (k:Nat):qS (qm (-1)) ts k=qS jy ts k:=by
 refine jkM (fun j y hy=>?_) k
 have h5:y.state≠5:=jqz h hy;have hj:(j:Int)≠-1:=by omega
 simp [qm,jy,h5,hj]
def jdu (y:Yd) (k:Nat) (r:Rn):Yd:=⟨y.now,y.seq,y.shelf,y.runs.set k r⟩
noncomputable def kI (y:Yd) (id:Int):Int:=if jC y=false then 8 else if runAt y id<0 then 10 else if ((y.runs[(runAt y id).toNat]?).getD default).state=1 then 0 else 12
noncomputable def jO (y:Yd) (id:Int):Yd:=if kI y id=0 then jdu y (runAt y id).toNat (vI ((y.runs[(runAt y id).toNat]?).getD default)) else y
def kP (y:Yd) (k:Nat) (r:Rn):Yd:=jrI ⟨y.now,y.seq,y.shelf,y.runs.set k r⟩ r (vR ((y.runs[k]?).getD default).tasks r.tasks r.tasks.length)
def jbu (l:List Rn) (k:Nat) (row:List D):List D:=(l.take k).flatMap jd++(row++(l.drop (k+1)).flatMap jd)
abbrev rnV (r:Rn) (x5 x7:Value):List D:=[.val (.int .i64 r.id),.val (.int .i64 r.plan.prio),.val (.int .i64 r.plan.most),.val (.int .i64 r.plan.wait),.val (.int .i64 r.plan.tasks),.val x5,.val (.int .i64 r.state),.val x7]
section
variable {l:List Rn} {k:Nat} {r:Rn} {row row':List D}
theorem qD (hk:k<l.length):((l.take k).flatMap jd).length=k*8:=by rw [jf8,List.length_take,Nat.min_eq_left (Nat.le_of_lt hk)]
theorem jlw (h:l[k]?=some r):l.flatMap jd=jbu l k (jd r):=ja1 (enc:=jd) h
theorem jaG (hk:k<l.length) (j:Nat) (hj:j<row.length):(jbu l k row)[k*8+j]?=row[j]?:=by
 rw [jbu,List.getElem?_append_right (by rw [qD hk];omega),qD hk,Nat.add_sub_cancel_left,List.getElem?_append_left hj]
theorem jab (hk:k<l.length) (j:Nat) (hj:j<row.length) (d:D):(jbu l k row).set (k*8+j) d=jbu l k (row.set j d):=by
 rw [jbu,List.set_append_right _ _ (by rw [qD hk];omega),qD hk,Nat.add_sub_cancel_left,List.set_append_left _ _ hj];rfl
theorem js6 (hk:k<l.length) (h8:row.length=8):((jbu l k row).drop (k*8)).take 8=row:=by
 rw [jbu,List.drop_append_of_le_length (by rw [qD hk];exact Nat.le_refl _),List.drop_eq_nil_of_le (by rw [qD hk];exact Nat.le_refl _),List.nil_append,←h8,List.take_left]
theorem jib (hk:k<l.length) (h8:row.length=8):(jbu l k row).length=l.length*8:=by
 have h1:=jf8 (l.drop (k+1));rw [List.length_drop] at h1;rw [jbu,List.length_append,List.length_append,qD hk,h1,h8];omega
theorem jvz (hk:k<l.length) (h8:row.length=8) (h8':row'.length=8):kG (jbu l k row) (k*8) row'=jbu l k row':=by
 have h1:=qD hk;have h2:=jib hk h8;rw [kV _ _ _ (by rw [h2,h8'];omega),jbu,List.take_left' h1,h8']
 have:((l.take k).flatMap jd++(row++(l.drop (k+1)).flatMap jd)).drop (k*8+8)=(l.drop (k+1)).flatMap jd:=by
  rw [←List.append_assoc];exact List.drop_left' (by rw [List.length_append,h1,h8])
 rw [this,jbu,List.append_assoc]
theorem jmU (hk:k<l.length) (h8:row.length=8):(D.sl 8 tRn (jbu l k row)).len=l.length:=by
 simp only [D.len,D.cells,D.size,jib hk h8];exact Nat.mul_div_cancel _ (by decide)
theorem jlv (hk:k<l.length):D.sl 8 tRn (jbu l k (jd r))=jN (l.set k r):=by
 have h1:(l.set k r)[k]?=some r:=List.getElem?_set_self hk;have h2:=jlw h1
 have h3:jbu (l.set k r) k (jd r)=jbu l k (jd r):=by
  rw [jbu,jbu,List.take_set_of_le (Nat.le_refl _),List.drop_set_of_lt (Nat.lt_succ_self k)]
 rw [jN,h2,h3]
end
theorem jxF {flat:Bool} {p:List Nat} {k n:Nat} {η:jr} {K:jr→Prop} (h:∀η',K η'):stH flat p k n η K:=by
 cases flat with
 |true=>exact h _
 |false=>exact fun η' _=>h η'
theorem jek (r:Rn) (t:Int):(qf r t).tasks.length=r.tasks.length:=by
 unfold qf;split
 ·simp only [jhu,jbd]
 ·rfl
theorem kY (r:Rn) (t:Int):(jD r t).tasks.length=r.tasks.length:=by
 unfold jD;split
 ·unfold zg
  split
  ·simp only [List.length_set]
  ·simp only [vY,List.length_set]
 ·rfl
theorem RunOkP.le12 {r:Rn} (h:RunOkP r):r.tasks.length≤12:=by
 obtain ⟨n,h1,_,h2,_⟩:=jdd h.plan;have:=h.len;omega
theorem jyl {was ts:List Tk} {k:Nat} {x z:Tk} (h:ts[k]?=some x) (hz:was[k]?=some z):jod was ts k=((x.state==2)&&!(z.state==2)):=by
 have:=(List.getElem?_eq_some_iff.1 hz).1;simp [jod,kx h,kx hz,this]
section
variable {P:Program} {β:Nat} {s:St} {K:St→Prop} {d:Option Nat} {g:Option (Nat×Bool)}
theorem Inl.weak {f:FuncId} {args:List AV} {o:Nat→Ob} {R R':AV→(Nat→Ob)→Prop} (h:Inl P f args o R) (hk:∀av o',R av o'→R' av o'):Inl P f args o R':=
 ⟨h.1,fun B w F xs h1 h2=>(h.2 B w F xs h1 h2).mono fun e w' ⟨v,av,o',F',k1,k2,k3,k4⟩=>⟨v,av,o',F',k1,k2,k3,hk _ _ k4⟩⟩
theorem jkx {f:Nat} {args:List X} {R:AV→(Nat→Ob)→Prop} (h:Inl P f (args.map s.ev) s.o R) (hk:∀av o',R av o'→K (St.put ⟨s.t,o'⟩ d av)):va P β ⟨d,g,.call f args⟩ s K:=kW (h.weak hk)
theorem kS {f:Nat} {args:List X} {vs:List AV} {R:AV→(Nat→Ob)→Prop} (ha:args.map s.ev=vs) (h:Inl P f vs s.o R) (hk:∀av o',R av o'→K (St.put ⟨s.t,o'⟩ d av)):va P β ⟨d,g,.call f args⟩ s K:=by subst ha;exact jkx h hk
theorem jmI (x:A0):x.sim x=True:=by cases x<;>simp [A0.sim]
theorem jmG:∀l:List A0,simL l l=True
 |[]=>rfl
 |x::l=>by simp [simL,jmI,jmG l]
theorem jmF (x:Cell):x.sim x=True:=by cases x<;>simp [Cell.sim,jmI]
theorem jmH:∀l:List Cell,simC l l=True
 |[]=>rfl
 |x::l=>by simp [simC,jmF,jmH l]
theorem jW (x:Ob):x.sim x=True:=by cases x<;>simp [Ob.sim,jmH]
end
abbrev jBo (o o':Nat→Ob):Prop:=o' 92=o 92∧o' 93=o 93∧o' 94=o 94∧o' 95=o 95∧o' 96=o 96∧o' 97=o 97
def EpK (P:Program) (f:FuncId) (k:Nat) (t:Int) (y:Yd) (r2:Rn):Prop:=∀(o:Nat→Ob) (b:Nat) (e2 e3:jr),o 90=kv b tYd y.now y.seq y.shelf e2 y.runs e3→
 Inl P f [.c (.ep 90 3 [] (k*8) (e3 [])),Ni t] o fun av o'=>av=.tup []∧o' 90=kv b tYd y.now y.seq y.shelf e2 (y.runs.set k r2) e3∧o' 91=o 91∧jBo o o'
def ju3 (P:Program) (f:FuncId) (caps:List A0) (H:Ob) (k:Nat) (y:Yd) (r2:Rn):Prop:=∀(o:Nat→Ob) (b:Nat) (e2 e3:jr),o 90=kv b tYd y.now y.seq y.shelf e2 y.runs e3→o 91=H→
 Turns P f ([.c (.ep 90 3 [] (k*8) (e3 []))]++caps.map .c) o fun rt o'=>rt=.tup []∧o' 90=kv b tYd y.now y.seq y.shelf e2 (y.runs.set k r2) e3∧o' 91=H∧jBo o o'
section
variable {l:List Rn} {k:Nat} {r:Rn}
theorem qY (h:l[k]?=some r):((l.flatMap jd).drop (k*8+7)).take 1=[jG r.tasks]:=qw (enc:=jd) (size:=8) (fun _=>rfl) h (j:=7) (n:=1) (by decide)
theorem juO (h:l[k]?=some r):((l.flatMap jd).drop (k*8+6)).take 1=[.val (.int .i64 r.state)]:=qw (enc:=jd) (size:=8) (fun _=>rfl) h (j:=6) (n:=1) (by decide)
theorem jBi (h:l[k]?=some r):((l.flatMap jd).drop (k*8+1)).take 5=ja r.plan:=qw (enc:=jd) (size:=8) (fun _=>rfl) h (j:=1) (n:=5) (by decide)
theorem jBj (h:l[k]?=some r):((l.flatMap jd).drop (k*8+1+1)).take 1=[.val (.int .i64 r.plan.most)]:=qw (enc:=jd) (size:=8) (fun _=>rfl) h (j:=2) (n:=1) (by decide)
theorem vm (h:l[k]?=some r):k*8+7+1≤(l.flatMap jd).length:=qu (enc:=jd) (size:=8) (fun _=>rfl) h (j:=7) (n:=1) (by decide)
theorem jtY (h:l[k]?=some r):k*8+6+1≤(l.flatMap jd).length:=qu (enc:=jd) (size:=8) (fun _=>rfl) h (j:=6) (n:=1) (by decide)
theorem jAK (h:l[k]?=some r):k*8+1+5≤(l.flatMap jd).length:=qu (enc:=jd) (size:=8) (fun _=>rfl) h (j:=1) (n:=5) (by decide)
theorem jAL (h:l[k]?=some r):k*8+1+1+1≤(l.flatMap jd).length:=qu (enc:=jd) (size:=8) (fun _=>rfl) h (j:=2) (n:=1) (by decide)
theorem jtg (h:l[k]?=some r) (v:Int):D.put [] (k*8+6) [.val (.int .i64 v)] (jN l)=jN (l.set k ⟨r.id,r.plan,v,r.tasks⟩):=ja6 (enc:=jd) (size:=8) (fun _=>rfl) h (j:=6) rfl (by simp [jd,ja])
theorem qI (h:l[k]?=some r) {ts:List Tk} {i:Nat} {ds:List D} (hp:D.put [] i ds (jG r.tasks)=jG ts):D.put [k*8+7] i ds (jN l)=jN (l.set k ⟨r.id,r.plan,r.state,ts⟩):=by
 have hk:=(List.getElem?_eq_some_iff.1 h).1;have h7:(l.flatMap jd)[k*8+7]?=some (jG r.tasks):=jop (j:=7) h (by decide)
 have e:(l.flatMap jd).set (k*8+7) (jG ts)=jbu l k (jd ⟨r.id,r.plan,r.state,ts⟩):=by
  rw [jlw h,jab hk 7 (by simp [jd,ja])];rfl
 rw [←jlv hk,←e];simp only [jN,D.put,h7,hp]
end
theorem jyP {k t:Nat} {y:Yd} {r:Rn} (hr:y.runs[k]?=some r) (hrun:vt r t=true):EpK Tryz.prog 223 k t y (qf r t):=by
 intro o b10 e2 e3 h10;refine qn (β:=7000000) Tryz.func223 jkd (by simp) ?_
 unfold jjx;obtain ⟨t',x,ht',hx,hs,hP⟩:=jaF hrun;obtain rfl:t=t':=by omega
 obtain ⟨n,hn,hn1,h12,h30,hes,hnd,-⟩:=jdd hP.plan;have hlen:=hP.len;have hkl:=(List.getElem?_eq_some_iff.1 hr).1;have htl':=(List.getElem?_eq_some_iff.1 hx).1;have h0t:(t:Int)≥0:=by omega
 have hx2:(r.tasks.set t ⟨4,x.need,x.tri,x.til⟩)[t]?=some ⟨4,x.need,x.tri,x.til⟩:=List.getElem?_set_self htl';have htl2:t<(r.tasks.set t ⟨4,x.need,x.tri,x.til⟩).length:=by rw [List.length_set];exact htl'
 have hS:∀r':Rn,(y.runs.set k r')[k]?=some r':=fun r'=>List.getElem?_set_self hkl
 have hr2:=hS ⟨r.id,r.plan,r.state,r.tasks.set t ⟨4,x.need,x.tri,x.til⟩⟩;have hr3:=hS ⟨r.id,r.plan,r.state,r.tasks.set t ⟨4,x.need,x.tri,0⟩⟩;simp only [go_sem,h10,Nat.add_zero,htl',h0t,qY hr,vm hr,ke hr,qI hr (jaR hx 4),qI hr (zA hx 4),vl hx,qz hx,zX hx,zc hx,htl2,qY hr2,vm hr2,ke hr2,ji3 hx2,juN hx2,qI hr2 (jel hx2 0),List.set_set,jBi hr3,jAK hr3,ja,ki hr3];refine jc (jiR r.plan t hP.plan) (by simp only [go_sem,jd,ja,je6 hr3,ki hr3]) fun ηb=>?_
 simp only [go_sem,jd,ja,je6 hr3,ki hr3];have hbl:=jqA hn h12 h30 t;have hlD:(vK r.plan r.tasks t x).length=r.tasks.length:=jbd _ _ _ _;have hR:qf r t=jhu r t x:=jej hx hrun;generalize hts:r.tasks.set t ⟨4,x.need,x.tri,0⟩=ts0 at*;have htl:ts0.length=r.tasks.length:=by rw [←hts,List.length_set]
 have hdn:vK r.plan r.tasks t x=(jbm r.plan t).foldl jay ts0:=by rw [←hts];rfl
 refine jp (fun i:Nat=>St.of [(0,.c (.ep 90 3 [] (k*8) (e3 []))),(26,Hd 26 (ηb 0)),(27,Ni (jbm r.plan t).length),(28,Ni i)] [(90,kv b10 tYd y.now y.seq y.shelf e2 (y.runs.set k ⟨r.id,r.plan,r.state,((jbm r.plan t).take i).foldl jay ts0⟩) e3),(91,o 91),(92,o 92),(93,o 93),(94,o 94),(95,o 95),(96,o 96),(97,o 97),(26,.loose (jf (jbm r.plan t)) (ηb 0))]) (fun i=>i≤(jbm r.plan t).length) (fun i=>(jbm r.plan t).length-i) 0 (by (try dsimp only);first|omega|(simp;done)|(and_intros<;>first|omega|simp)) (ji [some 90,some 91,some 92,some 93,some 94,some 95,some 96,some 97,some 700002600] (by simp only [go_sem,jd,ja,List.take_zero,List.foldl_nil,jW]<;>and_intros<;>first|rfl|assumption|trivial)) ?_
 rintro j hj;by_cases hlt:j<(jbm r.plan t).length
 ·have hlt':(j:Int)<(jbm r.plan t).length:=by omega
  obtain ⟨v,hv⟩:=je hlt;have hvb:=jpf hn (List.mem_of_getElem? hv);have hfl:=jfa ((jbm r.plan t).take j) ts0;have hft:=jkV hv ts0;generalize ((jbm r.plan t).take j).foldl jay ts0=ts at*;have hvl:v.toNat<ts.length:=by omega
  have hv0:=hvb.1;obtain ⟨z,hz0⟩:=je hvl;have hw:IntKind.i64.wrap ((j:Int)+1)=((j+1:Nat):Int):=jg (by omega) (by omega)
  rw [jpw hz0] at hft;generalize hnd':IntKind.i64.wrap (z.need-1)=nd at*;have hy1:(ts.set v.toNat ⟨z.state,nd,z.tri,z.til⟩)[v.toNat]?=some ⟨z.state,nd,z.tri,z.til⟩:=List.getElem?_set_self hvl;have q1:=hS ⟨r.id,r.plan,r.state,ts⟩;have q2:=hS ⟨r.id,r.plan,r.state,ts.set v.toNat ⟨z.state,nd,z.tri,z.til⟩⟩;cases hz:nd==0
  ·have hz':¬nd=0:=by simpa using hz
   rw [if_neg hz'] at hft;simp only [go_sem,jd,ja,Nat.add_zero,hlt,hlt',jj hv,jh hlt,qY q1,vm q1,ke q1,hvl,hv0,jqE hz0,jqa hz0,hnd',qI q1 (jtf hz0 nd),List.set_set,qY q2,vm q2,ke q2,jqE hy1,jqa hy1,hz,hw];exact ⟨j+1,by (try dsimp only);first|omega|assumption|(and_intros<;>first|omega|assumption),(ji [some 90,some 91,some 92,some 93,some 94,some 95,some 96,some 97,some 26] (by simp only [go_sem,jd,ja,hft,jW]<;>and_intros<;>first|rfl|assumption|trivial)),by (try dsimp only);omega⟩
  ·have hz':nd=0:=by simpa using hz
   rw [if_pos hz'] at hft;simp only [go_sem,jd,ja,Nat.add_zero,hlt,hlt',jj hv,jh hlt,qY q1,vm q1,ke q1,hvl,hv0,jqE hz0,jqa hz0,hnd',qI q1 (jtf hz0 nd),List.set_set,qY q2,vm q2,ke q2,jqE hy1,jqa hy1,hz,vl hy1,qz hy1,qI q2 (jaR hy1 2),qI q2 (zA hy1 2),hw];exact ⟨j+1,by (try dsimp only);first|omega|assumption|(and_intros<;>first|omega|assumption),(ji [some 90,some 91,some 92,some 93,some 94,some 95,some 96,some 97,some 26] (by simp only [go_sem,jd,ja,hft,jW]<;>and_intros<;>first|rfl|assumption|trivial)),by (try dsimp only);omega⟩
 have hlt':¬(j:Int)<(jbm r.plan t).length:=by omega
 rw [List.take_of_length_le (by omega)]
 rw [hR,←hdn];have hrr:jhu r t x=⟨r.id,r.plan,if (qL 4 (vK r.plan r.tasks t x)).length=r.tasks.length then 2 else r.state,vK r.plan r.tasks t x⟩:=rfl
 rw [hrr];generalize vK r.plan r.tasks t x=tD at*;have q3:=hS ⟨r.id,r.plan,r.state,tD⟩;simp only [go_sem,jd,ja,Nat.add_zero,hlt',jjE q3,jeo q3,qY q3,vm q3,ke q3,ku q3,ki q3];refine jc (qr ⟨r.id,r.plan,r.state,tD⟩ 4 (by simp only;omega)) (by simp only [go_sem,jd,ja,ki q3,ku q3,ke q3]) fun η=>?_
 simp only [go_sem,jd,ja,ki q3,ku q3,ke q3];rw [←hlD];generalize hq:(qL 4 tD).length=q at*;cases he:(q:Int)==(tD.length:Int)
 ·have he':¬q=tD.length:=jt3 he
  rw [if_neg he'];simp only [go_sem,jd,ja,Nat.add_zero,he,hq];exact ⟨rfl,rfl,rfl,rfl,rfl,rfl⟩
 ·have he':q=tD.length:=jt2 he
  rw [if_pos he'];simp only [go_sem,jd,ja,Nat.add_zero,he,hq,juO q3,jtY q3,jtg q3,List.set_set];exact ⟨rfl,rfl,rfl,rfl,rfl,rfl⟩
theorem jmc {k t:Nat} {y:Yd} {r:Rn} (hr:y.runs[k]?=some r) (hrun:vt r t=true):EpK Tryz.prog 225 k t y (jD r t):=by
 intro o b10 e2 e3 h10;refine qn (β:=7000000) Tryz.func225 jjp (by simp) ?_
 unfold jhf;obtain ⟨t',x,ht',hx,hs,hP⟩:=jaF hrun;obtain rfl:t=t':=by omega
 obtain ⟨n,hn,hn1,h12,h30,hes,hnd,-⟩:=jdd hP.plan;have hlen:=hP.len;have hkl:=(List.getElem?_eq_some_iff.1 hr).1;have htl':=(List.getElem?_eq_some_iff.1 hx).1;have h0t:(t:Int)≥0:=by omega
 have hx2:(r.tasks.set t ⟨x.state,x.need,x.tri,0⟩)[t]?=some ⟨x.state,x.need,x.tri,0⟩:=List.getElem?_set_self htl';have hS:∀r':Rn,(y.runs.set k r')[k]?=some r':=fun r'=>List.getElem?_set_self hkl
 have q1:=hS ⟨r.id,r.plan,r.state,r.tasks.set t ⟨x.state,x.need,x.tri,0⟩⟩;simp only [go_sem,h10,Nat.add_zero,htl',h0t,qY hr,vm hr,ke hr,ji3 hx,juN hx,qI hr (jel hx 0),qY q1,vm q1,ke q1,jk7 hx2,jkR hx2,jBj q1,jAL q1];by_cases hm:x.tri<r.plan.most
 ·have hR:jD r t=⟨r.id,r.plan,r.state,r.tasks.set t ⟨2,x.need,x.tri,0⟩⟩:=by rw [qC hx hrun,zg,if_pos hm]
  simp only [go_sem,Nat.add_zero,hm,hR,qY q1,vm q1,ke q1,zX hx2,vl hx2,zc hx2,qz hx2,qI q1 (jaR hx2 2),qI q1 (zA hx2 2),List.set_set];exact ⟨rfl,rfl,rfl,rfl,rfl,rfl⟩
 have hR:jD r t=⟨r.id,r.plan,3,qS jy (r.tasks.set t ⟨5,x.need,x.tri,0⟩) r.tasks.length⟩:=by rw [qC hx hrun,zg,if_neg hm]
 rw [hR,←jpa hP hx hs];simp only [go_sem,Nat.add_zero,hm,qY q1,vm q1,ke q1,zX hx2,vl hx2,zc hx2,qz hx2,qI q1 (jaR hx2 5),qI q1 (zA hx2 5),List.set_set];have htl:(r.tasks.set t ⟨5,x.need,x.tri,0⟩).length=r.tasks.length:=by rw [List.length_set]
 generalize r.tasks.set t ⟨5,x.need,x.tri,0⟩=ts0 at*;refine kW (qn (β:=8000000) Tryz.func236 jcC (by simp) ?_)
 unfold jcP;have q2:=hS ⟨r.id,r.plan,r.state,ts0⟩;simp only [go_sem,Nat.add_zero,qY q2,vm q2,ke q2];refine jp (fun i:Nat=>St.of [(0,.c (.ep 90 3 [] (k*8) (e3 []))),(1,Ni t),(10,Ni ts0.length),(11,Ni i)] [(90,kv b10 tYd y.now y.seq y.shelf e2 (y.runs.set k ⟨r.id,r.plan,r.state,qS (qm t) ts0 i⟩) e3),(91,o 91),(92,o 92),(93,o 93),(94,o 94),(95,o 95),(96,o 96),(97,o 97)]) (fun i=>i≤ts0.length) (fun i=>ts0.length-i) 0 (by (try dsimp only);first|omega|(simp;done)|(and_intros<;>first|omega|simp)) (ji [some 90,some 91,some 92,some 93,some 94,some 95,some 96,some 97] (by simp only [go_sem,jd,ja,jp2,jW]<;>and_intros<;>first|rfl|assumption|trivial)) ?_
 rintro j hj;have hml:=vY (f:=qm t) (ts:=ts0) (k:=j);by_cases hlt:j<ts0.length
 ·have hlt':(j:Int)<ts0.length:=by omega
  have h0j:(j:Int)≥0:=by omega
  obtain ⟨z,hz⟩:=je hlt;have hyk:=jeU (f:=qm t) hz;have hset:=jeT (f:=qm t) hz;have hsame:=jni (f:=qm t) hz;generalize qS (qm t) ts0 j=M at*;have hw:IntKind.i64.wrap ((j:Int)+1)=((j+1:Nat):Int):=jg (by omega) (by omega)
  have hlm:j<M.length:=by omega
  have p1:=hS ⟨r.id,r.plan,r.state,M⟩;cases hne:(j:Int) !=(t:Int)
  ·have hg:qm t j z=z:=by have:(j:Int)=t:=by simpa using hne
                          simp [qm,this]
   have hq:=hsame hg;simp only [go_sem,jd,ja,Nat.add_zero,hml,hlt',h0j,hlt,qY p1,vm p1,ke p1,hne,hw];exact ⟨j+1,by (try dsimp only);first|omega|assumption|(and_intros<;>first|omega|assumption),(ji [some 90,some 91,some 92,some 93,some 94,some 95,some 96,some 97] (by simp only [go_sem,jd,ja,hq,jW]<;>and_intros<;>first|rfl|assumption|trivial)),by (try dsimp only);omega⟩
  have hne':¬(j:Int)=t:=by simpa using hne
  cases hc4:z.state !=4
  ·have hg:qm t j z=z:=by have:z.state=4:=by simpa using hc4
                          simp [qm,this]
   have hq:=hsame hg;simp only [go_sem,jd,ja,Nat.add_zero,hml,hlt',h0j,hlt,qY p1,vm p1,ke p1,hne,zX hyk,zc hyk,vl hyk,qz hyk,hc4,hw];exact ⟨j+1,by (try dsimp only);first|omega|assumption|(and_intros<;>first|omega|assumption),(ji [some 90,some 91,some 92,some 93,some 94,some 95,some 96,some 97] (by simp only [go_sem,jd,ja,hq,jW]<;>and_intros<;>first|rfl|assumption|trivial)),by (try dsimp only);omega⟩
  ·have hg:qm t j z=⟨6,z.need,z.tri,0⟩:=by
    have h1:¬z.state=4:=by simpa using hc4
    simp [qm,h1,hne']
   rw [hg] at hset;have hyk2:(M.set j ⟨6,z.need,z.tri,z.til⟩)[j]?=some ⟨6,z.need,z.tri,z.til⟩:=List.getElem?_set_self hlm;have p2:=hS ⟨r.id,r.plan,r.state,M.set j ⟨6,z.need,z.tri,z.til⟩⟩;simp only [go_sem,jd,ja,Nat.add_zero,hml,hlt',h0j,hlt,qY p1,vm p1,ke p1,hne,zX hyk,zc hyk,vl hyk,qz hyk,hc4,qI p1 (jaR hyk 6),qI p1 (zA hyk 6),qY p2,vm p2,ke p2,qI p2 (jel hyk2 0),ji3 hyk2,juN hyk2,List.set_set,hset,hw];exact ⟨j+1,by (try dsimp only);first|omega|assumption|(and_intros<;>first|omega|assumption),(ji [some 90,some 91,some 92,some 93,some 94,some 95,some 96,some 97] (by simp only [go_sem,jd,ja,jW]<;>and_intros<;>first|rfl|assumption|trivial)),by (try dsimp only);omega⟩
 have hlt':¬(j:Int)<ts0.length:=by omega
 obtain rfl:j=ts0.length:=by omega
 rw [←htl];generalize qS (qm t) ts0 ts0.length=M at*;have p3:=hS ⟨r.id,r.plan,r.state,M⟩;simp only [go_sem,jd,ja,Nat.add_zero,hml,hlt',juO p3,jtY p3,jtg p3,List.set_set];exact ⟨rfl,rfl,rfl,rfl,rfl,rfl⟩
section
variable {s:St} {K:St→Prop}
theorem jxA (g c sz lo n:Nat) (p:List Nat) (x:Value) (l:List A0) (R:List Cell→St→Prop):qA s (.hs g c p x sz lo n::l) R=qA s l (fun cs s'=>R (.a (.hs g c p x sz lo n)::cs) s'):=by simp [qA,A0.one]
theorem jpv {w:World} {d:D} {u:Value} {S:List Nat} (hd:d.isSl=true) (hs:0<d.size) (h:Rep w true d u S):jh7 u d.size 0 d.len=u:=by
 cases d with
 |val _=>cases hd
 |sl size ty cs=>
  obtain ⟨vs,T,S',hr,hl,_⟩:=h;have hlen:=RepL.length _ hl;rcases qy hr with ⟨rfl,rfl⟩|⟨g,n,c,rfl,_,h3,_⟩
  ·have:cs=[]:=List.eq_nil_of_length_eq_zero (by simpa using hlen.symm)
   subst this;simp [jh7,D.len,D.cells,D.size]
  ·have e:(D.sl size ty cs).len=n:=by
    simp only [D.len,D.cells,D.size];rw [←hlen,h3];exact Nat.mul_div_cancel _ hs
   rw [e];simp only [jh7,Nat.zero_mul,Nat.sub_zero];split
   ·rfl
   ·simp [Addr.add_lit]
theorem jjA {B:Nat} {w:World} {a a':A0} (h:∀u,A0Rel B w a u→A0Rel B w a' u):∀{c:Nat} {l:List Cell} {us:List Value} {S:List Nat},CRel B w l us S→l[c]?=some (.a a)→CRel B w (l.set c (.a a')) us S
 |_,[],_,_,_,hc=>by simp at hc
 |0,.a x::l,_,S,⟨v,us',e,h1,h2⟩,hc=>by
  simp at hc;subst hc;exact ⟨v,us',e,h _ h1,h2⟩
 |0,.own e ε::l,_,_,_,hc=>by simp at hc
 |c+1,.a x::l,_,S,⟨v,us',e,h1,h2⟩,hc=>by
  simp at hc;exact ⟨v,us',e,h1,jjA h h2 hc⟩
 |c+1,.own e ε::l,_,_,⟨v,us',T1,T2,e1,e2,h1,h2,h3,h4⟩,hc=>by
  simp at hc;exact ⟨v,us',T1,T2,e1,e2,h1,h2,h3,jjA h h4 hc⟩
theorem jmt (g c:Nat) {b ty:Nat} {cs:List Cell} {a a':A0} (hb:s.o g=.box b ty cs) (hc:cs[c]?=some (.a a)) (h:∀(B N:Nat) (w0 w:World) (act:Act) (F:Nat→List Nat),RelF B w0 N s act w F→∀u,A0Rel B w a u→A0Rel B w a' u) (hk:WkK (s.setO g (.box b ty (cs.set c (.a a')))) K):WkK s K:=by
 intro B N w0 w act F hr;have h4:=hr.ob g;rw [hb] at h4;obtain ⟨us,S1,q1,q2,q3⟩:=h4;refine hk _ _ _ _ _ _ (hr.setO (g:=g) (ob:=.box b ty (cs.set c (.a a'))) (S:=F g) ⟨us,S1,q1,jjA (h _ _ _ _ _ _ hr) q2 hc,q3⟩ (hr.fr g) fun g' hg' x hx hx'=>hr.dj g' g hg' x hx' hx)
theorem jf4 (g c g2:Nat) {b ty:Nat} {cs:List Cell} {d:D} {η:jr} (hb:s.o g=.box b ty cs) (hc:cs[c]?=some (.own d η)) (h2:s.o g2=.none) (hne:g2≠g) (hsz:0<d.size)
 (hk:WkK (((s.rm g c).setO g2 (.loose d η)).setO g (.box b ty (cs.set c (.a (.hs g2 0 [] (η []) d.size 0 d.len))))) K):WkK s K:=by
 have hcl:=(List.getElem?_eq_some_iff.1 hc).1;have ho:(s.o g).own c=some (d,η):=by rw [hb];simp [Ob.own,hc]
 refine qG g c g2 ho h2 hne fun hone=>?_
 have hrm:(s.rm g c).o g=.box b ty (cs.set c (.a (.v (η [])))):=by
  show (if g=g then (s.o g).rm c else _)=_
  rw [if_pos rfl,hb];simp only [Ob.rm,hc,rmC]
 refine jmt g c (a:=.v (η [])) (b:=b) (ty:=ty) (cs:=cs.set c (.a (.v (η [])))) (by
  show (if g=g2 then _ else (s.rm g c).o g)=_
  rw [if_neg (Ne.symm hne)];exact hrm) (List.getElem?_set_self hcl) (a':=.hs g2 0 [] (η []) d.size 0 d.len) (fun B N w0 w act F hr u hu=>?_) ?_
 ·have h3:=hr.ob g2
  have e:((s.rm g c).setO g2 (.loose d η)).o g2=.loose d η:=by show (if g2=g2 then _ else _)=_;rw [if_pos rfl]
  rw [e] at h3;obtain ⟨k1,u',k2,k3⟩:=h3;have e2:η []=u':=by rw [k3,zQ k1]
  have hu':u=η []:=hu;rw [hu'];exact ⟨.inl (by rw [e2,jpv k1 hsz k2]),hone⟩
 ·rw [List.set_set];exact hk
theorem jaV (g c g2:Nat) {g3 sz n b ty:Nat} {cs:List Cell} {d:D} {η:jr} {x:Value} (hb:s.o g=.box b ty cs) (hc:cs[c]?=some (.a (.hs g3 0 [] x sz 0 n))) (hx:x=η []) (hs:sz=d.size) (hn:n=d.len) (h2:s.o g2=.loose d η) (hsz:0<d.size)
 (hk:WkK (((s.setO g (.box b ty (cs.set c (.a (.v (η [])))))).setO g2 .none).setO g (.box b ty (cs.set c (.own d η)))) K):WkK s K:=by
 have hcl:=(List.getElem?_eq_some_iff.1 hc).1;have hne:g2≠g:=fun e=>by rw [e,hb] at h2;cases h2
 subst hx hs hn;refine jmt g c (a:=.hs g3 0 [] (η []) d.size 0 d.len) hb hc (a':=.v (η [])) (fun B N w0 w act F hr u hu=>?_) ?_
 ·have h3:=hr.ob g2
  rw [h2] at h3;obtain ⟨k1,u',k2,k3⟩:=h3;have e2:η []=u':=by rw [k3,zQ k1]
  obtain ⟨h5,_⟩:=hu;have h5:=h5.resolve_right fun h=>absurd h.1 (Nat.lt_irrefl 0)
  show u=η [];rw [h5,e2,jpv k1 hsz k2]
 ·refine qK g c g2 (b:=b) (ty:=ty) (cs:=cs.set c (.a (.v (η [])))) (d:=d) (η:=η) (by show (if g=g then _ else _)=_;rw [if_pos rfl]) (List.getElem?_set_self hcl) (by show (if g2=g then _ else s.o g2)=_;rw [if_neg hne];exact h2) ?_
  rw [List.set_set];exact hk
end
attribute [go_sem] jxA
theorem jxg (u:UInt8):IntKind.i64.wrap (u.toNat:Int)=u.toNat:=jg (by omega) (by have:=u.toNat_lt;omega)
section
variable {P:Program} {β N B:Nat} {s:St} {K:St→Prop} {d:Option Nat} {gd:Option (Nat×Bool)} {a:Act} {w w0:World} {F:Nat→List Nat}
def jwN (o' o:Nat→Ob):Prop:=∀g,o' g=o g∨o' g=.none
open Classical in
theorem RelF.less (h:RelF B w0 N s a w F) {o':Nat→Ob} (ho:jwN o' s.o):∃F':Nat→List Nat,RelF B w0 N ⟨s.t,o'⟩ a w F'∧∀g,∀b∈F' g,b∈F g:=by
 have hs:∀g,∀b∈(if o' g=s.o g then F g else []),b∈F g:=fun g b hb=>by
  split at hb
  ·exact hb
  ·simp at hb
 refine ⟨fun g=>if o' g=s.o g then F g else [],⟨h.below,h.hB,h.df,h.sz,h.sl,fun g=>?_,fun g=>?_,fun g g' hne b hb hb'=>h.dj g g' hne b (hs g b hb) (hs g' b hb')⟩,hs⟩
 ·show ORel B w (o' g) _
  by_cases e:o' g=s.o g
  ·rw [if_pos e,e];exact h.ob g
  ·rw [if_neg e,(ho g).resolve_left e];rfl
 ·by_cases e:o' g=s.o g
  ·rw [if_pos e];exact h.fr g
  ·rw [if_neg e];exact Fresh.nil _
def jBs (P:Program) (f:FuncId) (args:List AV) (o:Nat→Ob) (A:AV) (o':Nat→Ob):Prop:=Inl P f args o fun av o2=>av=A∧o2=o'
theorem joV {f:FuncId} {args:List AV} {o o':Nat→Ob} {A:AV} (h:Inl P f args o fun av o2=>av=A∧jwN o' o2):jBs P f args o A o':=
 ⟨h.1,fun B w F xs h1 h2=>(h.2 B w F xs h1 h2).mono fun e w' ⟨v,av,o2,F',k1,k2,k3,k4,k5⟩=>by
  obtain ⟨F2,r,_⟩:=k2.less (o':=o') k5;exact ⟨v,av,o',F2,k1,r,k3,k4,rfl⟩⟩
theorem kg {f:Nat} {args:List X} {vs:List AV} {A:AV} {o':Nat→Ob} (h:jBs P f vs s.o A o') (ha:args.map s.ev=vs) (hk:K (St.put ⟨s.t,o'⟩ d A)):va P β ⟨d,gd,.call f args⟩ s K:=by
 subst ha;exact jkx h fun av o2 ⟨h1,h2⟩=>by subst h1 h2;exact hk
theorem jA {g M:Nat} (h:g<M) (n:Nat) (hn:M≤n):(g=n)=False:=eq_false (by omega)
end
def jzj (o:Nat→Ob) (g:Nat) (ob:Ob):Nat→Ob:=fun k=>if k=g then ob else o k
theorem jzi (o:Nat→Ob) (g:Nat) (ob:Ob) (k:Nat):jzj o g ob k=if k=g then ob else o k:=(rfl)
theorem ja9 {g:Nat} {o o2:Nat→Ob} {ob:Ob} (h1:o2 g=ob) (h2:∀k,k≠g→o2 k=o k):jwN (jzj o g ob) o2:=fun k=>by
 rw [jzi];by_cases e:k=g
 ·rw [if_pos e,e];exact .inl h1.symm
 ·rw [if_neg e];exact .inl (h2 k e).symm
attribute [go_sem] jzi
def St.ofB (T:List (Nat×AV)) (O:List (Nat×Ob)) (M:Nat) (ob:Nat→Ob):St:=⟨lkT T,fun j=>if j<M then ob j else lkO O j⟩
theorem ofB_t (T:List (Nat×AV)) (O:List (Nat×Ob)) (M:Nat) (ob:Nat→Ob) (n:Nat):(St.ofB T O M ob).t n=lkT T n:=(rfl)
theorem ofB_o (T:List (Nat×AV)) (O:List (Nat×Ob)) (M:Nat) (ob:Nat→Ob) (n:Nat):(St.ofB T O M ob).o n=if n<M then ob n else lkO O n:=(rfl)
attribute [go_sem] ofB_t ofB_o
theorem kU {s:St} {T:List (Nat×AV)} {O:List (Nat×Ob)} {M:Nat} {ob:Nat→Ob} (ks:List (Option Nat)) (h:jxc s T∧jqi s ks O) (hf:∀j,j<M→s.o j=ob j) (hk:∀k∈jqV ks,M≤k) (hn:jjF (jqV ks)=true:=by decide):Wk s (St.ofB T O M ob):=fun B N w0 w a F hr=>by
 have hob:=jt6 hr.ob h.2;have hdj:=jwb (ks:=ks) (O:=O) hr.dj (jbH hn);refine ⟨fun j=>if j<M then F j else fp F ks O j,⟨hr.below,hr.hB,hr.df,hr.sz,jwe hr.sl h.1,fun g=>?_,fun g=>?_,fun g g' hne x hx hx'=>?_⟩,fun g x hx=>?_⟩
 ·by_cases c:g<M
  ·simp only [St.ofB,if_pos c];rw [←hf g c];exact hr.ob g
  ·simp only [St.ofB,if_neg c];exact hob g
 ·by_cases c:g<M
  ·simp only [if_pos c];exact hr.fr g
  ·simp only [if_neg c];exact jwa hr.fr ks O g
 ·by_cases c:g<M
  ·simp only [if_pos c] at hx
   by_cases c':g'<M
   ·simp only [if_pos c'] at hx';exact hr.dj g g' hne x hx hx'
   ·simp only [if_neg c'] at hx'
    obtain ⟨k,h1,h2⟩:=je8 hx';exact hr.dj g k (by have:=hk k h1;omega) x hx h2
  ·simp only [if_neg c] at hx
   by_cases c':g'<M
   ·simp only [if_pos c'] at hx'
    obtain ⟨k,h1,h2⟩:=je8 hx;exact hr.dj k g' (by have:=hk k h1;omega) x h2 hx'
   ·simp only [if_neg c'] at hx';exact hdj g g' hne x hx hx'
 ·by_cases c:g<M
  ·simp only [if_pos c] at hx;exact ⟨g,hx⟩
  ·simp only [if_neg c] at hx
   obtain ⟨k,_,h2⟩:=je8 hx;exact ⟨k,h2⟩
abbrev jwM (b ty:Nat) (p m w t:Int) (E:List Ed) (η:jr):Ob:=.box b ty [.a (.v (.int .i64 p)),.a (.v (.int .i64 m)),.a (.v (.int .i64 w)),.a (.v (.int .i64 t)),.own (jz E) η]
abbrev ZPl (b ty:Nat):Ob:=.box b ty [.a (.v (.int .i64 0)),.a (.v (.int .i64 0)),.a (.v (.int .i64 0)),.a (.v (.int .i64 0)),.a (.v (.slice none 0 0))]
abbrev DdR (b ty:Nat) (d:Dd) (η:jr):Ob:=.box b ty [.a (.v (.int .i64 d.kind)),.a (.v (.int .i64 d.run)),.a (.v (.int .i64 d.plan.prio)),.a (.v (.int .i64 d.plan.most)),.a (.v (.int .i64 d.plan.wait)),.a (.v (.int .i64 d.plan.tasks)),.own (jz d.plan.edges) η,.a (.v (.int .i64 d.task)),.a (.v (.int .i64 d.tri)),.a (.v (.int .i64 d.worker)),.a (.v (.int .i64 d.draw))]
open Go.RowKit Go.ChangeShapes Go.WideShapes Go.Deep Go.ChangeAt
theorem rByte:ReadsAs Tryz.prog 5 (fun u:UInt8=>[qX u]) (fun _=>True):=by
 intro H enc w base spare held n cs y hy;obtain ⟨i,rfl,_,hw⟩:=DataW.trod_int (k:=.u8) (by kernel_rfl) hy
 have hi:0≤i∧i≤255:=by simpa [Lit.wf,IntKind.min,IntKind.max,IntKind.signed,IntKind.bits] using hw
 refine ⟨UInt8.ofNat i.toNat,trivial,[],?_⟩
 have he:((UInt8.ofNat i.toNat).toNat:Int)=i:=by
  rw [UInt8.toNat_ofNat'];omega
 have hb:qX (UInt8.ofNat i.toNat)=D.val (.int .u8 i):=by simp only [qX];rw [he]
 dsimp only;rw [hb];exact RepL.val_ RepL.nil_
theorem jAc:ReadsAs Tryz.prog 99 (fun l=>[jcy l]) (fun l=>∀e∈l,True):=by
 have h:=jvG (size:=1) (ty:=5) (P:=Tryz.prog) (t:=99) (e:=5) (by kernel_rfl) rByte (by kernel_rfl) (fun _=>rfl) (by decide)
 refine h.map id (fun l=>?_) (fun _ h=>h)
 have e:l.flatMap (fun u=>[qX u])=l.map qX:=by
  induction l with
  |nil=>rfl
  |cons x l ih=>simp only [List.flatMap_cons,List.map_cons,ih];rfl
 simp only [jcy,id];rw [e]
end Go.Proofs.YtmnpailnelmpiaaGreat
