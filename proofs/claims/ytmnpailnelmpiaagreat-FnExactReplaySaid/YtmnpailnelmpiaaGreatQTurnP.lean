/- Parts. -/
import Derived.Test.YtmnpailnelmpiaaGreatQHole
import Derived.Test.YtmnpailnelmpiaaGreatQSub
set_option linter.unusedSimpArgs false
set_option linter.unusedVariables false
set_option maxHeartbeats 8000000
set_option maxRecDepth 100000
namespace Go.Proofs.YtmnpailnelmpiaaGreat
open Go.RowKit Go.Sort
def qc (y:Yd) (k:Nat) (r:Rn):Yd:=jxX ⟨y.now,y.seq,y.shelf,y.runs.set k r⟩ r (jbi ((y.runs[k]?).getD default).tasks r.tasks r.tasks.length)
def jbe (l:List Rn) (k:Nat) (row:List D):List D:=(l.take k).flatMap jd++(row++(l.drop (k+1)).flatMap jd)
abbrev rnV (r:Rn) (x5 x7:Value):List D:=[.val (.int .i64 r.id),.val (.int .i64 r.plan.prio),.val (.int .i64 r.plan.most),.val (.int .i64 r.plan.wait),.val (.int .i64 r.plan.tasks),.val x5,.val (.int .i64 r.state),.val x7]
section
variable {l:List Rn} {k:Nat} {r:Rn} {row row':List D}
theorem qA (hk:k<l.length):((l.take k).flatMap jd).length=k*8:=by rw [jfI,List.length_take,Nat.min_eq_left (Nat.le_of_lt hk)]
theorem jkH (h:l[k]?=some r):l.flatMap jd=jbe l k (jd r):=jaS (enc:=jd) h
theorem jaz (hk:k<l.length) (j:Nat) (hj:j<row.length):(jbe l k row)[k*8+j]?=row[j]?:=by
 rw [jbe,List.getElem?_append_right (by rw [qA hk];omega),qA hk,Nat.add_sub_cancel_left,List.getElem?_append_left hj]
theorem zS (hk:k<l.length) (j:Nat) (hj:j<row.length) (d:D):(jbe l k row).set (k*8+j) d=jbe l k (row.set j d):=by
 rw [jbe,List.set_append_right _ _ (by rw [qA hk];omega),qA hk,Nat.add_sub_cancel_left,List.set_append_left _ _ hj];rfl
theorem jsl (hk:k<l.length) (h8:row.length=8):((jbe l k row).drop (k*8)).take 8=row:=by
 rw [jbe,List.drop_append_of_le_length (by rw [qA hk];exact Nat.le_refl _),List.drop_eq_nil_of_le (by rw [qA hk];exact Nat.le_refl _),List.nil_append,←h8,List.take_left]
theorem jhK (hk:k<l.length) (h8:row.length=8):(jbe l k row).length=l.length*8:=by
 have h1:=jfI (l.drop (k+1));rw [List.length_drop] at h1;rw [jbe,List.length_append,List.length_append,qA hk,h1,h8];omega
theorem juX (hk:k<l.length) (h8:row.length=8) (h8':row'.length=8):kC (jbe l k row) (k*8) row'=jbe l k row':=by
 have h1:=qA hk;have h2:=jhK hk h8;rw [kS _ _ _ (by rw [h2,h8'];omega),jbe,List.take_left' h1,h8']
 have:((l.take k).flatMap jd++(row++(l.drop (k+1)).flatMap jd)).drop (k*8+8)=(l.drop (k+1)).flatMap jd:=by
  rw [←List.append_assoc];exact List.drop_left' (by rw [List.length_append,h1,h8])
 rw [this,jbe,List.append_assoc]
theorem jl5 (hk:k<l.length) (h8:row.length=8):(D.sl 8 tRn (jbe l k row)).len=l.length:=by
 simp only [D.len,D.cells,D.size,jhK hk h8];exact Nat.mul_div_cancel _ (by decide)
theorem jkG (hk:k<l.length):D.sl 8 tRn (jbe l k (jd r))=jM (l.set k r):=by
 have h1:(l.set k r)[k]?=some r:=List.getElem?_set_self hk;have h2:=jkH h1
 have h3:jbe (l.set k r) k (jd r)=jbe l k (jd r):=by
  rw [jbe,jbe,List.take_set_of_le (Nat.le_refl _),List.drop_set_of_lt (Nat.lt_succ_self k)]
 rw [jM,h2,h3]
end
theorem jw7 {flat:Bool} {p:List Nat} {k n:Nat} {η:jp} {K:jp→Prop} (h:∀η',K η'):stH flat p k n η K:=by
 cases flat with
 |true=>exact h _
 |false=>exact fun η' _=>h η'
theorem jdS (r:Rn) (t:Int):(qv r t).tasks.length=r.tasks.length:=by
 unfold qv;split
 ·simp only [jjv,jcf]
 ·rfl
theorem qg (r:Rn) (t:Int):(jE r t).tasks.length=r.tasks.length:=by
 unfold jE;split
 ·unfold jby
  split
  ·simp only [List.length_set]
  ·simp only [zu,List.length_set]
 ·rfl
theorem RunOkP.le12 {r:Rn} (h:RunOkP r):r.tasks.length≤12:=by
 obtain ⟨n,h1,_,h2,_⟩:=ji6 h.plan;have:=h.len;omega
theorem jxL {was ts:List Tk} {k:Nat} {x z:Tk} (h:ts[k]?=some x) (hz:was[k]?=some z):juf was ts k=((x.state==2)&&!(z.state==2)):=by
 have:=(List.getElem?_eq_some_iff.1 hz).1;simp [juf,vl h,vl hz,this]
section
variable {P:Program} {β:Nat} {s:St} {K:St→Prop} {d:Option Nat} {g:Option (Nat×Bool)}
theorem Inl.weak {f:FuncId} {args:List AV} {o:Nat→Ob} {R R':AV→(Nat→Ob)→Prop} (h:Inl P f args o R) (hk:∀av o',R av o'→R' av o'):Inl P f args o R':=
 ⟨h.1,fun B w F xs h1 h2=>(h.2 B w F xs h1 h2).mono fun e w' ⟨v,av,o',F',k1,k2,k3,k4⟩=>⟨v,av,o',F',k1,k2,k3,hk _ _ k4⟩⟩
theorem jp2 {f:Nat} {args:List X} {R:AV→(Nat→Ob)→Prop} (h:Inl P f (args.map s.ev) s.o R) (hk:∀av o',R av o'→K (St.put ⟨s.t,o'⟩ d av)):qT P β ⟨d,g,.call f args⟩ s K:=kT (h.weak hk)
theorem vF {f:Nat} {args:List X} {vs:List AV} {R:AV→(Nat→Ob)→Prop} (ha:args.map s.ev=vs) (h:Inl P f vs s.o R) (hk:∀av o',R av o'→K (St.put ⟨s.t,o'⟩ d av)):qT P β ⟨d,g,.call f args⟩ s K:=by subst ha;exact jp2 h hk
theorem jlX (x:A0):x.sim x=True:=by cases x<;>simp [A0.sim]
theorem jlV:∀l:List A0,simL l l=True
 |[]=>rfl
 |x::l=>by simp [simL,jlX,jlV l]
theorem jlU (x:Cell):x.sim x=True:=by cases x<;>simp [Cell.sim,jlX]
theorem jlW:∀l:List Cell,simC l l=True
 |[]=>rfl
 |x::l=>by simp [simC,jlU,jlW l]
theorem jQ (x:Ob):x.sim x=True:=by cases x<;>simp [Ob.sim,jlW]
end
abbrev jA5 (o o':Nat→Ob):Prop:=o' 92=o 92∧o' 93=o 93∧o' 94=o 94∧o' 95=o 95∧o' 96=o 96∧o' 97=o 97
def EpK (P:Program) (f:FuncId) (k:Nat) (t:Int) (y:Yd) (r2:Rn):Prop:=∀(o:Nat→Ob) (b:Nat) (e2 e3:jp),o 90=ky b tYd y.now y.seq y.shelf e2 y.runs e3→
 Inl P f [.c (.ep 90 3 [] (k*8) (e3 [])),Ni t] o fun av o'=>av=.tup []∧o' 90=ky b tYd y.now y.seq y.shelf e2 (y.runs.set k r2) e3∧o' 91=o 91∧jA5 o o'
def jud (P:Program) (f:FuncId) (caps:List A0) (H:Ob) (k:Nat) (y:Yd) (r2:Rn):Prop:=∀(o:Nat→Ob) (b:Nat) (e2 e3:jp),o 90=ky b tYd y.now y.seq y.shelf e2 y.runs e3→o 91=H→
 Turns P f ([.c (.ep 90 3 [] (k*8) (e3 []))]++caps.map .c) o fun rt o'=>rt=.tup []∧o' 90=ky b tYd y.now y.seq y.shelf e2 (y.runs.set k r2) e3∧o' 91=H∧jA5 o o'
section
variable {l:List Rn} {k:Nat} {r:Rn}
theorem vg (h:l[k]?=some r):((l.flatMap jd).drop (k*8+7)).take 1=[jx r.tasks]:=qK (enc:=jd) (size:=8) (fun _=>rfl) h (j:=7) (n:=1) (by decide)
theorem jwN (h:l[k]?=some r):((l.flatMap jd).drop (k*8+6)).take 1=[.val (.int .i64 r.state)]:=qK (enc:=jd) (size:=8) (fun _=>rfl) h (j:=6) (n:=1) (by decide)
theorem jA0 (h:l[k]?=some r):((l.flatMap jd).drop (k*8+1)).take 5=ja r.plan:=qK (enc:=jd) (size:=8) (fun _=>rfl) h (j:=1) (n:=5) (by decide)
theorem jA1 (h:l[k]?=some r):((l.flatMap jd).drop (k*8+1+1)).take 1=[.val (.int .i64 r.plan.most)]:=qK (enc:=jd) (size:=8) (fun _=>rfl) h (j:=2) (n:=1) (by decide)
theorem vv (h:l[k]?=some r):k*8+7+1≤(l.flatMap jd).length:=qI (enc:=jd) (size:=8) (fun _=>rfl) h (j:=7) (n:=1) (by decide)
theorem jwz (h:l[k]?=some r):k*8+6+1≤(l.flatMap jd).length:=qI (enc:=jd) (size:=8) (fun _=>rfl) h (j:=6) (n:=1) (by decide)
theorem jAr (h:l[k]?=some r):k*8+1+5≤(l.flatMap jd).length:=qI (enc:=jd) (size:=8) (fun _=>rfl) h (j:=1) (n:=5) (by decide)
theorem jAs (h:l[k]?=some r):k*8+1+1+1≤(l.flatMap jd).length:=qI (enc:=jd) (size:=8) (fun _=>rfl) h (j:=2) (n:=1) (by decide)
theorem jst (h:l[k]?=some r) (v:Int):D.put [] (k*8+6) [.val (.int .i64 v)] (jM l)=jM (l.set k ⟨r.id,r.plan,v,r.tasks⟩):=jaW (enc:=jd) (size:=8) (fun _=>rfl) h (j:=6) rfl (by simp [jd,ja])
theorem qG (h:l[k]?=some r) {ts:List Tk} {i:Nat} {ds:List D} (hp:D.put [] i ds (jx r.tasks)=jx ts):D.put [k*8+7] i ds (jM l)=jM (l.set k ⟨r.id,r.plan,r.state,ts⟩):=by
 have hk:=(List.getElem?_eq_some_iff.1 h).1;have h7:(l.flatMap jd)[k*8+7]?=some (jx r.tasks):=jnw (j:=7) h (by decide)
 have e:(l.flatMap jd).set (k*8+7) (jx ts)=jbe l k (jd ⟨r.id,r.plan,r.state,ts⟩):=by
  rw [jkH h,zS hk 7 (by simp [jd,ja])];rfl
 rw [←jkG hk,←e];simp only [jM,D.put,h7,hp]
end
theorem jyq {k t:Nat} {y:Yd} {r:Rn} (hr:y.runs[k]?=some r) (hrun:vS r t=true):EpK Tryz.prog 223 k t y (qv r t):=by
 intro o b10 e2 e3 h10;refine qW (β:=7000000) Tryz.func223 jjA (by simp) ?_
 unfold jiV;obtain ⟨t',x,ht',hx,hs,hP⟩:=jcE hrun;obtain rfl:t=t':=by omega
 obtain ⟨n,hn,hn1,h12,h30,hes,hnd,-⟩:=ji6 hP.plan;have hlen:=hP.len;have hkl:=(List.getElem?_eq_some_iff.1 hr).1;have htl':=(List.getElem?_eq_some_iff.1 hx).1;have h0t:(t:Int)≥0:=by omega
 have hx2:(r.tasks.set t ⟨4,x.need,x.tri,x.til⟩)[t]?=some ⟨4,x.need,x.tri,x.til⟩:=List.getElem?_set_self htl';have htl2:t<(r.tasks.set t ⟨4,x.need,x.tri,x.til⟩).length:=by rw [List.length_set];exact htl'
 have hS:∀r':Rn,(y.runs.set k r')[k]?=some r':=fun r'=>List.getElem?_set_self hkl
 have hr2:=hS ⟨r.id,r.plan,r.state,r.tasks.set t ⟨4,x.need,x.tri,x.til⟩⟩;have hr3:=hS ⟨r.id,r.plan,r.state,r.tasks.set t ⟨4,x.need,x.tri,0⟩⟩;simp only [go_sem,h10,Nat.add_zero,htl',h0t,vg hr,vv hr,ki hr,qG hr (jaJ hx 4),qG hr (zr hx 4),ve hx,qx hx,zK hx,vZ hx,htl2,vg hr2,vv hr2,ki hr2,jiw hx2,jtZ hx2,qG hr2 (jdT hx2 0),List.set_set,jA0 hr3,jAr hr3,ja,ka hr3];refine jc (jil r.plan t hP.plan) (by simp only [go_sem,jd,ja,jlk hr3,ka hr3]) fun ηb=>?_
 simp only [go_sem,jd,ja,jlk hr3,ka hr3];have hbl:=jpx hn h12 h30 t;have hlD:(jcg r.plan r.tasks t x).length=r.tasks.length:=jcf _ _ _ _;have hR:qv r t=jjv r t x:=jie hx hrun;generalize hts:r.tasks.set t ⟨4,x.need,x.tri,0⟩=ts0 at*;have htl:ts0.length=r.tasks.length:=by rw [←hts,List.length_set]
 have hdn:jcg r.plan r.tasks t x=(jfv r.plan t).foldl jbb ts0:=by rw [←hts];rfl
 refine jq (fun i:Nat=>St.of [(0,.c (.ep 90 3 [] (k*8) (e3 []))),(26,Hd 26 (ηb 0)),(27,Ni (jfv r.plan t).length),(28,Ni i)] [(90,ky b10 tYd y.now y.seq y.shelf e2 (y.runs.set k ⟨r.id,r.plan,r.state,((jfv r.plan t).take i).foldl jbb ts0⟩) e3),(91,o 91),(92,o 92),(93,o 93),(94,o 94),(95,o 95),(96,o 96),(97,o 97),(26,.loose (jg (jfv r.plan t)) (ηb 0))]) (fun i=>i≤(jfv r.plan t).length) (fun i=>(jfv r.plan t).length-i) 0 (by (try dsimp only);first|omega|(simp;done)|(and_intros<;>first|omega|simp)) (jk [some 90,some 91,some 92,some 93,some 94,some 95,some 96,some 97,some 700002600] (by simp only [go_sem,jd,ja,List.take_zero,List.foldl_nil,jQ]<;>and_intros<;>first|rfl|assumption)) ?_
 rintro j hj;by_cases hlt:j<(jfv r.plan t).length
 ·have hlt':(j:Int)<(jfv r.plan t).length:=by omega
  obtain ⟨v,hv⟩:=je hlt;have hvb:=jtT hn (List.mem_of_getElem? hv);have hfl:=jeJ ((jfv r.plan t).take j) ts0;have hft:=jkd hv ts0;generalize ((jfv r.plan t).take j).foldl jbb ts0=ts at*;have hvl:v.toNat<ts.length:=by omega
  have hv0:=hvb.1;obtain ⟨z,hz0⟩:=je hvl;have hw:IntKind.i64.wrap ((j:Int)+1)=((j+1:Nat):Int):=jo (by omega) (by omega)
  rw [joG hz0] at hft;generalize hnd':IntKind.i64.wrap (z.need-1)=nd at*;have hy1:(ts.set v.toNat ⟨z.state,nd,z.tri,z.til⟩)[v.toNat]?=some ⟨z.state,nd,z.tri,z.til⟩:=List.getElem?_set_self hvl;have q1:=hS ⟨r.id,r.plan,r.state,ts⟩;have q2:=hS ⟨r.id,r.plan,r.state,ts.set v.toNat ⟨z.state,nd,z.tri,z.til⟩⟩;cases hz:nd==0
  ·have hz':¬nd=0:=by simpa using hz
   rw [if_neg hz'] at hft;simp only [go_sem,jd,ja,Nat.add_zero,hlt,hlt',jm hv,jj hlt,vg q1,vv q1,ki q1,hvl,hv0,jpA hz0,jpc hz0,hnd',qG q1 (jss hz0 nd),List.set_set,vg q2,vv q2,ki q2,jpA hy1,jpc hy1,hz,hw];exact ⟨j+1,by (try dsimp only);first|omega|assumption|(and_intros<;>first|omega|assumption),(jk [some 90,some 91,some 92,some 93,some 94,some 95,some 96,some 97,some 26] (by simp only [go_sem,jd,ja,hft,jQ]<;>and_intros<;>first|rfl|assumption)),by (try dsimp only);omega⟩
  ·have hz':nd=0:=by simpa using hz
   rw [if_pos hz'] at hft;simp only [go_sem,jd,ja,Nat.add_zero,hlt,hlt',jm hv,jj hlt,vg q1,vv q1,ki q1,hvl,hv0,jpA hz0,jpc hz0,hnd',qG q1 (jss hz0 nd),List.set_set,vg q2,vv q2,ki q2,jpA hy1,jpc hy1,hz,ve hy1,qx hy1,qG q2 (jaJ hy1 2),qG q2 (zr hy1 2),hw];exact ⟨j+1,by (try dsimp only);first|omega|assumption|(and_intros<;>first|omega|assumption),(jk [some 90,some 91,some 92,some 93,some 94,some 95,some 96,some 97,some 26] (by simp only [go_sem,jd,ja,hft,jQ]<;>and_intros<;>first|rfl|assumption)),by (try dsimp only);omega⟩
 have hlt':¬(j:Int)<(jfv r.plan t).length:=by omega
 rw [List.take_of_length_le (by omega)]
 rw [hR,←hdn];have hrr:jjv r t x=⟨r.id,r.plan,if (zn 4 (jcg r.plan r.tasks t x)).length=r.tasks.length then 2 else r.state,jcg r.plan r.tasks t x⟩:=rfl
 rw [hrr];generalize jcg r.plan r.tasks t x=tD at*;have q3:=hS ⟨r.id,r.plan,r.state,tD⟩;simp only [go_sem,jd,ja,Nat.add_zero,hlt',jjF q3,jeE q3,vg q3,vv q3,ki q3,ko q3,ka q3];refine jc (qq ⟨r.id,r.plan,r.state,tD⟩ 4 (by simp only;omega)) (by simp only [go_sem,jd,ja,ka q3,ko q3,ki q3]) fun η=>?_
 simp only [go_sem,jd,ja,ka q3,ko q3,ki q3];rw [←hlD];generalize hq:(zn 4 tD).length=q at*;cases he:(q:Int)==(tD.length:Int)
 ·have he':¬q=tD.length:=jtd he
  rw [if_neg he'];simp only [go_sem,jd,ja,Nat.add_zero,he,hq];exact ⟨rfl,rfl,rfl,rfl,rfl,rfl⟩
 ·have he':q=tD.length:=jtc he
  rw [if_pos he'];simp only [go_sem,jd,ja,Nat.add_zero,he,hq,jwN q3,jwz q3,jst q3,List.set_set];exact ⟨rfl,rfl,rfl,rfl,rfl,rfl⟩
theorem js7 {P:Program} {f:FuncId} {args:List AV} {o:Nat→Ob} {R:AV→(Nat→Ob)→Prop} (h:Inl P f args o fun av o'=>WkK (.only o') fun s'=>R av s'.o):Inl P f args o R:=
 ⟨h.1,fun B w F xs h1 h2=>(h.2 B w F xs h1 h2).mono fun e w' ⟨v,av,o',F',k1,k2,k3,k4⟩=>by
  obtain ⟨s',F2,k5,k6⟩:=k4 _ _ _ _ _ _ k2;exact ⟨v,av,s'.o,F2,k1,⟨k5.below,k5.hB,k5.df,k5.sz,fun _=>trivial,k5.ob,k5.fr,k5.dj⟩,k3,k6⟩⟩
def frP (was:List Tk) (v:Int):Bool:=!decide (v∈zn 2 was)
theorem jvp {s:Int} {ts:List Tk} {j:Nat}:(j:Int)∈zn s ts↔j<ts.length∧(stT ts (j:Int)==s)=true:=by
 simp only [zn,zA,List.mem_map,List.mem_filter,List.mem_range];constructor
 ·rintro ⟨i,h,he⟩
  obtain rfl:i=j:=by omega
  exact h
 ·exact fun h=>⟨j,h,rfl⟩
theorem jAv (was ts:List Tk):(zn 2 ts).filter (frP was)=jbi was ts ts.length:=by
 simp only [zn,zA,jbi,List.filter_map,List.filter_filter]
 congr 1
 refine List.filter_congr fun j _=>?_
 have h:frP was (j:Int)=!(decide (j<was.length)&&(stT was (j:Int)==2)):=by
  simp only [frP,jvp]
  congr 1
  cases (stT was (j:Int)==2)<;>simp
 simp only [Function.comp,h,juf];rw [Bool.and_comm]
theorem jyi {l:List Int} {k:Nat} {v:Int} (p:Int→Bool) (h:l[k]?=some v):(l.take (k+1)).filter p=(l.take k).filter p++(if p v then [v] else []):=by
 rw [List.take_add_one,h,List.filter_append];cases hp:p v<;>simp [hp]
def jfi:C:=iS [iA 10 (iM 0),iA 11 (iF 0 10),iA 12 (iF 3 11),iA 13 (iL 12),iA 14 (iM 1),iA 15 (iI 8 13 14),iA 16 (iT 8 15),iA 17 (.call 214 [.t 16,.c (.int .i64 2)]),iA 6 (iM 17)] (iS [iA 18 (iM 2),iA 19 (iM 0),iA 20 (iF 0 19),iA 21 (iF 3 20),iA 22 (iL 21),iA 23 (iM 1),iA 24 (iI 8 22 23),iA 25 (.callv (.t 18) [.t 24])] (iS [iA 7 (.mov (.c (.slice none 0 0)))] (.seq (iS [iA 26 (iM 0),iA 27 (iF 0 26),iA 28 (iF 3 27),iA 29 (iL 28),iA 30 (iM 1),iA 31 (iI 8 29 30),iA 32 (iT 8 31),iA 33 (.call 214 [.t 32,.c (.int .i64 2)]),iA 34 (iG 33),iA 35 (iN 0)] (.blk 0 (.loop (iS [iA 36 (iP .lss 3 35 34)] (.seq (iD 36 .skip (.exit 0)) (.seq (.blk 1 (iS [iA 37 (iI 1 33 35),iA 38 (iL 37),iA 9 (iM 38)] (iS [iA 39 (iM 6),iA 40 (iM 9),iA 41 (.call 137 [.t 39,.t 40]),iA 42 (iU 41)] (iD 42 (.reg [iA 43 (iM 7),iA 44 (iM 9),iA 45 (.bsl 3 1 1 [none] [(0,1,.t 44)]),iA 46 (.app 3 1 8 (.t 43) (.t 45)),iA 7 (iM 46)]) .skip)))) (.reg [iA 47 (iQ .add 3 35 1),iA 35 (iM 47)]))))))) (.reg [iA 48 (iM 0),iA 49 (iM 0),iA 50 (iF 0 49),iA 51 (iF 3 50),iA 52 (iL 51),iA 53 (iM 1),iA 54 (iI 8 52 53),iA 55 (iT 8 54),iA 56 (iM 7),iA 57 (.call 213 [.t 48,.t 55,.t 56])]))))
theorem jhm:fnC Tryz.prog Tryz.f221=some (jfi,[],58):=by kernel_rfl
theorem jcP {k b:Nat} {y:Yd} {r r2:Rn} {f:FuncId} {caps:List A0} {H:Ob} (hr:y.runs[k]?=some r) (hl2:r2.tasks.length=r.tasks.length) (hl12:r.tasks.length≤12) (h4:y.shelf.length=4) (hq:1≤y.seq∧y.seq≤4000000000) (ht:jt y≤2000000)
 (hc:jud Tryz.prog f caps H k y r2) {o:Nat→Ob} {e2 e3:jp} (h90:o 90=ky b tYd y.now y.seq y.shelf e2 y.runs e3) (h91:o 91=H):
 Inl Tryz.prog 221 [Bx 90 b,Ni k,.fn f caps] o fun av o'=>av=.tup []∧(∃e2' e3',o' 90=ky b tYd (qc y k r2).now (qc y k r2).seq (qc y k r2).shelf e2' (qc y k r2).runs e3')∧o' 91=H∧o' 92=o 92∧o' 93=o 93∧o' 94=o 94∧o' 95=o 95∧o' 96=o 96:=by
 refine js7 ?_;refine js8 (β:=5000000) [[1,0],[1,1,1,1]] Tryz.func221 jhm (by simp) ?_
 unfold jfi;simp only [C.ghs,C.ghAt,List.foldr];have hk:=(List.getElem?_eq_some_iff.1 hr).1;have h0k:(k:Int)≥0:=by omega
 simp only [go_sem,h90,Nat.add_zero,hk,h0k,jjF hr,jeE hr,jd,ja];refine jc (qq r 2 (by omega)) (by simp only [go_sem,h90,jd,ja,ka hr,ko hr]) fun ηi=>?_
 simp only [go_sem,h90,jd,ja,ka hr,ko hr];refine vh ?_;refine WkK.wk (s':=St.of [(0,Bx 90 b),(1,Ni k),(2,.fn f caps),(6,Hd 97 (ηi 0))] [(90,ky b tYd y.now y.seq y.shelf e2 y.runs e3),(91,o 91),(92,o 92),(93,o 93),(94,o 94),(95,o 95),(96,o 96),(97,.loose (jg (zn 2 r.tasks)) (ηi 0))]) (jk [some 90,some 91,some 92,some 93,some 94,some 95,some 96,some 500001700] (by simp only [go_sem,h90,jQ,jlV]<;>and_intros<;>first|rfl|assumption)) ?_
 refine WkK.of ?_;simp only [go_sem,Nat.add_zero,hk,h0k,jeE hr];refine jsb (f:=f) (caps:=caps) (by simp only [go_sem]) (hc _ b e2 e3 (by simp only [go_sem]) (by simp only [go_sem];exact h91)) ?_
 rintro _ o1 ⟨rfl,j90,j91,j92,j93,j94,j95,j96,j97⟩ η;simp only [go_sem] at j92 j93 j94 j95 j96 j97;have hr2:(y.runs.set k r2)[k]?=some r2:=List.getElem?_set_self hk;have hk2:k<(y.runs.set k r2).length:=by rw [List.length_set];exact hk
 simp only [go_sem,j90,Nat.add_zero,hk2,h0k,jjF hr2,jeE hr2,jd,ja];refine jc (qq r2 2 (by omega)) (by simp only [go_sem,j90,jd,ja,ka hr2,ko hr2]) fun ηj=>?_
 simp only [go_sem,j90,jd,ja,ka hr2,ko hr2]
 have hn0:∀v:Int,v∈zn 2 r2.tasks→0≤v:=fun v hv=>by
  simp only [zn,zA,List.mem_map] at hv;obtain ⟨a,_,rfl⟩:=hv;omega
 have hfn:=jAv r.tasks r2.tasks;have hLl:(zn 2 r2.tasks).length≤12:=Nat.le_trans (zQ _ _ _) (by omega)
 have hBl:(zn 2 r.tasks).length≤12:=Nat.le_trans (zQ _ _ _) hl12;generalize zn 2 r2.tasks=L2 at*;refine jq (fun i:Nat×jp=>St.of [(0,Bx 90 b),(1,Ni k),(6,Hd 97 (ηi 0)),(7,Hd 7 i.2),(33,Hd 33 (ηj 0)),(34,Ni L2.length),(35,Ni i.1)] [(90,ky b tYd y.now y.seq y.shelf e2 (y.runs.set k r2) e3),(91,H),(92,o 92),(93,o 93),(94,o 94),(95,o 95),(96,o 96),(97,.loose (jg (zn 2 r.tasks)) (ηi 0)),(7,.loose (jg ((L2.take i.1).filter (frP r.tasks))) i.2),(33,.loose (jg L2) (ηj 0))]) (fun i=>i.1≤L2.length) (fun i=>L2.length-i.1) (0,jlF) (by (try dsimp only);first|omega|(simp;done)|(and_intros<;>first|omega|simp)) (jk [some 90,some 91,some 92,some 93,some 94,some 95,some 96,some 97,none,some 500003300] (by simp only [go_sem,j90,j91,j92,j93,j94,j95,j96,j97,List.take_zero,List.filter_nil,jQ]<;>and_intros<;>first|rfl|assumption)) ?_
 rintro ⟨i,η7⟩ hi;dsimp only at hi;by_cases hlt:i<L2.length
 ·have hlt':(i:Int)<L2.length:=by omega
  obtain ⟨v,hv⟩:=je hlt;have hw:IntKind.i64.wrap ((i:Int)+1)=((i+1:Nat):Int):=jo (by omega) (by omega)
  have hft:=jyi (frP r.tasks) hv;have hFl:((L2.take i).filter (frP r.tasks)).length≤12:=Nat.le_trans (List.length_filter_le _ _) (by rw [List.length_take];omega)
  generalize (L2.take i).filter (frP r.tasks)=F at*;have m1:F.length+1≤maxLen:=by unfold maxLen;omega
  have m2:(F.length+1)*8≤140737488355328:=by omega
  simp only [go_sem,hlt',hlt,jm hv,jj hlt];refine jc (jim (zn 2 r.tasks) v (by omega)) (by simp only [go_sem]) fun η=>?_
  simp only [go_sem];cases hd:decide (v∈zn 2 r.tasks)
  ·have hp:frP r.tasks v=true:=by rw [frP,hd];rfl
   rw [hp,if_pos rfl] at hft;simp only [go_sem,hd,m1,m2,vI,hw];intro η1 η8;exact ⟨(i+1,η8),by (try dsimp only);first|omega|assumption|(and_intros<;>first|omega|assumption),(jk [some 90,some 91,some 92,some 93,some 94,some 95,some 96,some 97,some 500004600,some 33] (by simp only [go_sem,hft,jQ]<;>and_intros<;>first|rfl|assumption)),by (try dsimp only);omega⟩
  ·have hp:frP r.tasks v=false:=by rw [frP,hd];rfl
   rw [hp,if_neg (by decide),List.append_nil] at hft
   simp only [go_sem,hd,hw];exact ⟨(i+1,η7),by (try dsimp only);first|omega|assumption|(and_intros<;>first|omega|assumption),(jk [some 90,some 91,some 92,some 93,some 94,some 95,some 96,some 97,some 7,some 33] (by simp only [go_sem,hft,jQ]<;>and_intros<;>first|rfl|assumption)),by (try dsimp only);omega⟩
 have hlt':¬(i:Int)<L2.length:=by omega
 rw [List.take_of_length_le (by omega),hfn]
 simp only [go_sem,hlt'];refine vh ?_;have hR:jM (y.runs.set k r2)=.sl 8 tRn (jbe y.runs k (jd r2)):=(jkG hk).symm;have hid:(jbi r.tasks r2.tasks r2.tasks.length).length≤12:=Nat.le_trans (jew _ _ _) (by omega)
 have hLY:qc y k r2=⟨y.now,(zU r2.plan.prio r2.id (jbi r.tasks r2.tasks r2.tasks.length) ((y.shelf[shN r2.id]?).getD default,y.seq)).2,y.shelf.set (shN r2.id) (zU r2.plan.prio r2.id (jbi r.tasks r2.tasks r2.tasks.length) ((y.shelf[shN r2.id]?).getD default,y.seq)).1,y.runs.set k r2⟩:=by rw [qc,hr,Option.getD_some];rfl
 generalize jbi r.tasks r2.tasks r2.tasks.length=ids at*;refine WkK.wk (s':=St.of [(0,Bx 90 b),(1,Ni k),(7,Hd 97 η7)] [(90,qX b tYd y.now y.seq y.shelf e2 (jM (y.runs.set k r2)) e3),(91,H),(92,o 92),(93,o 93),(94,o 94),(95,o 95),(96,o 96),(97,.loose (jg ids) η7)]) (jk [some 90,some 91,some 92,some 93,some 94,some 95,some 96,some 7] (by simp only [go_sem,jQ]<;>and_intros<;>first|rfl|assumption)) ?_
 rw [hR];refine jdM 90 3 (k*8+5) 98 (η:=e3) (cs:=r2.plan.edges.flatMap jH) rfl (jaz hk 5 (by simp [jd,ja])) rfl (by decide) fun ηa ηA hA1 hA2 hA3=>?_
 rw [zS hk 5 (by simp [jd,ja])]
 refine jdM 90 3 (k*8+7) 99 (η:=ηA) (cs:=r2.tasks.flatMap jn) rfl (jaz hk 7 (by simp [jd,ja])) rfl (by decide) fun ηb ηB hB1 hB2 hB3=>?_
 rw [zS hk 7 (by simp [jd,ja])]
 rw [←hA2,←hB2];rw [←hA2] at hA3;rw [←hB2] at hB3;have hV:((jd r2).set 5 (.val (ηa []))).set 7 (.val (ηb []))=rnV r2 (ηa []) (ηb []):=rfl;rw [hV];obtain ⟨dR,hdR⟩:∃dR,D.sl 8 tRn (jbe y.runs k (rnV r2 (ηa []) (ηb [])))=dR:=⟨_,rfl⟩;refine WkK.wk (s':=St.of [(0,Bx 90 b),(1,Ni k),(7,Hd 97 η7)] [(90,qX b tYd y.now y.seq y.shelf e2 (.sl 8 tRn (jbe y.runs k (rnV r2 (ηa []) (ηb [])))) ηB),(91,H),(92,o 92),(93,o 93),(94,o 94),(95,o 95),(96,o 96),(97,.loose (jg ids) η7),(98,.loose (jA r2.plan.edges) ηa),(99,.loose (jx r2.tasks) ηb)]) (jk [some 90,some 91,some 92,some 93,some 94,some 95,some 96,some 97,some 98,some 99] (by simp only [go_sem,jQ,jA,jx]<;>and_intros<;>first|rfl|assumption)) ?_
 refine WkK.of ?_;have hl1:(jbe y.runs k (rnV r2 (ηa []) (ηb []))).length=y.runs.length*8:=jhK hk rfl;have ha1:((jbe y.runs k (rnV r2 (ηa []) (ηb []))).drop (k*8)).take 8=rnV r2 (ηa []) (ηb []):=jsl hk rfl;have hi8:k*8+8≤y.runs.length*8:=by omega
 have hdl:(D.sl 8 tRn (jbe y.runs k (rnV r2 (ηa []) (ηb [])))).len=y.runs.length:=jl5 hk rfl;simp only [go_sem,hl1,hdl,ha1,hi8,hk,h0k,hA3,hB3,Nat.add_zero];refine kT (qW (β:=8000000) Tryz.func213 jci (by simp) ?_)
 unfold jcs;simp only [go_sem,hA3,hB3];intro b74;refine jc (jdh r2.id) (by simp only [go_sem]) fun η=>?_
 simp only [go_sem];obtain ⟨hsn,hs4⟩:=jA9 r2.id;rw [hsn];rw [hLY];generalize shN r2.id=n at*;have hn:n<y.shelf.length:=by omega
 have h0n:(n:Int)≥0:=by omega
 obtain ⟨l,hl⟩:=je hn;have hll:=vQ ht (List.mem_of_getElem? hl);rw [hl,Option.getD_some];rw [hdR];refine jq (fun i:Nat×jp=>St.of [(0,Bx 90 b),(4,Bx 4 b74),(6,Ni n),(12,Hd 97 η7),(13,Ni ids.length),(14,Ni i.1)] [(90,qX b tYd y.now (zU r2.plan.prio r2.id (ids.take i.1) (l,y.seq)).2 (y.shelf.set n (zU r2.plan.prio r2.id (ids.take i.1) (l,y.seq)).1) i.2 dR ηB),(91,H),(92,o 92),(93,o 93),(94,o 94),(95,o 95),(96,o 96),(97,.loose (jg ids) η7),(98,.loose (jA r2.plan.edges) ηa),(99,.loose (jx r2.tasks) ηb),(4,jng b74 tRn r2 (ηa []) (ηb []))]) (fun i=>i.1≤ids.length) (fun i=>ids.length-i.1) (0,e2) (by (try dsimp only);first|omega|(simp;done)|(and_intros<;>first|omega|simp)) (jk [some 90,some 91,some 92,some 93,some 94,some 95,some 96,some 97,some 98,some 99,some 800000400] (by simp only [go_sem,List.take_zero,jhS,zR hl,jQ]<;>and_intros<;>first|rfl|assumption)) ?_
 rintro ⟨i,η⟩ hi;dsimp only at hi;have hsq:=jcN r2.plan.prio r2.id (ids.take i) (l,y.seq);have hle:=jcO r2.plan.prio r2.id (ids.take i) (l,y.seq);have hnl:(ids.take i).length=i:=by rw [List.length_take];omega
 dsimp only at hsq hle;by_cases hlt:i<ids.length
 ·have hlt':(i:Int)<ids.length:=by omega
  have h0i:(i:Int)≥0:=by omega
  obtain ⟨x,hx⟩:=je hlt;have hsnoc:=jez r2.plan.prio r2.id (ids.take i) x (l,y.seq);have hnx:ids.take (i+1)=ids.take i++[x]:=by rw [List.take_add_one,hx];rfl
  rw [←hnx] at hsnoc;have hw:IntKind.i64.wrap ((i:Int)+1)=((i+1:Nat):Int):=jo (by omega) (by omega)
  have hw2:IntKind.i64.wrap ((zU r2.plan.prio r2.id (ids.take i) (l,y.seq)).2+1)=(zU r2.plan.prio r2.id (ids.take i) (l,y.seq)).2+1:=jo (by omega) (by omega)
  generalize hPe:zU r2.plan.prio r2.id (ids.take i) (l,y.seq)=P at*;obtain ⟨sh,hsh⟩:∃s,y.shelf.set n P.1=s:=⟨_,rfl⟩;have hSl:sh[n]?=some P.1:=by rw [←hsh];exact List.getElem?_set_self hn
  have hns:n<sh.length:=by rw [←hsh,List.length_set];exact hn
  have hss:∀L,sh.set n L=y.shelf.set n L:=fun L=>by rw [←hsh,List.set_set]
  have hi1:n+1≤(sh.flatMap fun es=>[ji es]).length:=by have:=jaB hns;rwa [Nat.mul_one] at this
  have hb1:((sh.flatMap fun es=>[ji es]).drop n).take 1=[ji P.1]:=by have:=jbu hSl;rwa [Nat.mul_one] at this
  have hxi:i+1≤(ids.flatMap fun n=>[iv n]).length:=by have:=jj hlt;rwa [Nat.mul_one] at this
  have hxa:((ids.flatMap fun n=>[iv n]).drop i).take 1=[iv x]:=by have:=jm hx;rwa [Nat.mul_one] at this
  rw [hsh];simp only [go_sem,ja,jd,hlt',h0i,hlt,hxa,hxi,Nat.add_zero,hns,Nat.mul_one,hb1,hi1,h0n];refine jc (jai P.1 ⟨r2.plan.prio,P.2,r2.id,x⟩ (by omega)) (by simp only [go_sem,jf,kb hSl]) fun ηp=>?_
  simp only [go_sem,jf,kb hSl];simp only [go_sem,hns,Nat.mul_one,hi1,hb1,h0n,jaf,hw2,hw,hss,Nat.add_zero];refine fun η' hη'=>?_
  exact ⟨(i+1,η'),by (try dsimp only);first|omega|assumption|(and_intros<;>first|omega|assumption),(jk [some 90,some 91,some 92,some 93,some 94,some 95,some 96,some 97,some 98,some 99,some 4] (by simp only [go_sem,ja,jd,hsnoc,jQ]<;>and_intros<;>first|rfl|assumption)),by (try dsimp only);omega⟩
 obtain rfl:i=ids.length:=by omega
 have hlt':¬((ids.length:Nat):Int)<ids.length:=by omega
 rw [List.take_length];generalize zU r2.plan.prio r2.id ids (l,y.seq)=P at*;subst hdR;simp only [go_sem,hlt'];refine WkK.wk (s':=St.of [] [(90,qX b tYd y.now P.2 (y.shelf.set n P.1) η (.sl 8 tRn (jbe y.runs k (rnV r2 (ηa []) (ηb [])))) ηB),(91,H),(92,o 92),(93,o 93),(94,o 94),(95,o 95),(96,o 96),(98,.loose (jA r2.plan.edges) ηa),(99,.loose (jx r2.tasks) ηb)]) (jk [some 90,some 91,some 92,some 93,some 94,some 95,some 96,some 98,some 99] (by simp only [go_sem,jQ]<;>and_intros<;>first|rfl|assumption)) ?_
 refine qM 90 3 (k*8+5) 98 (η:=ηB) (η2:=ηa) (cs:=r2.plan.edges.flatMap jH) rfl (jaz hk 5 (by simp)) (.inl rfl) rfl (by decide) fun ηD _=>?_
 rw [zS hk 5 (by simp)]
 refine qM 90 3 (k*8+7) 99 (η:=ηD) (η2:=ηb) (cs:=r2.tasks.flatMap jn) rfl (jaz hk 7 (by simp)) (.inl rfl) rfl (by decide) fun ηE _=>?_
 rw [zS hk 7 (by simp)]
 have hrow:(List.set (List.set (rnV r2 (ηa []) (ηb [])) 5 (.sl 2 tEd (r2.plan.edges.flatMap jH))) 7 (.sl 4 tTk (r2.tasks.flatMap jn)))=jd r2:=rfl;rw [hrow,jkG hk];refine WkK.of ?_;exact ⟨⟨η,ηE,rfl⟩,rfl,rfl,rfl,rfl,rfl,rfl⟩
theorem jdN {α:Type} (f:α→Nat) (m:Nat):∀l:List α,(∀x∈l,f x≤m)→kj f l≤m*l.length
 |[],_=>by simp [kj]
 |x::l,h=>by
  have h1:=h x (by simp)
  have h2:=jdN f m l fun x hx=>h x (by simp [hx])
  simp only [kj,List.map_cons,List.sum_cons,List.length_cons,Nat.mul_succ] at h2⊢;omega
theorem YardOkP.small {y:Yd} (h:YardOkP y):jt y≤700:=by
 have h1:=jdN kO 80 y.shelf fun l hl=>(h.shelves l hl).most
 have h2:=jdN km 42 y.runs fun r hr=>by
  have hR:=h.right r hr;obtain ⟨n,hn,_,h12,h30,_⟩:=ji6 hR.plan;have:=hR.len;have h30':r.plan.edges.length≤30:=h30;simp only [km,zP];omega
 have h3:=h.four;have h4:=h.eight;simp only [jt,vL,qz];omega
end Go.Proofs.YtmnpailnelmpiaaGreat
