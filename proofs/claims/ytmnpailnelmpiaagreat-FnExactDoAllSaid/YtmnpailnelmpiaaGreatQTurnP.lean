/- Parts. -/
import Derived.Test.YtmnpailnelmpiaaGreatQSub
import Derived.Lib.SliceRun
import Derived.Deep.RegionLaw
set_option linter.unusedSimpArgs false
set_option linter.unusedVariables false
set_option maxHeartbeats 8000000
set_option maxRecDepth 100000
namespace Go.Proofs.YtmnpailnelmpiaaGreat
open Go.RowKit Go.Sort
def qd (y:Yd) (k:Nat) (r:Rn):Yd:=jyi ⟨y.now,y.seq,y.shelf,y.runs.set k r⟩ r (jbi ((y.runs[k]?).getD default).tasks r.tasks r.tasks.length)
def jbe (l:List Rn) (k:Nat) (row:List D):List D:=(l.take k).flatMap jd++(row++(l.drop (k+1)).flatMap jd)
abbrev rnV (r:Rn) (x5 x7:Value):List D:=[.val (.int .i64 r.id),.val (.int .i64 r.plan.prio),.val (.int .i64 r.plan.most),.val (.int .i64 r.plan.wait),.val (.int .i64 r.plan.tasks),.val x5,.val (.int .i64 r.state),.val x7]
section
variable {l:List Rn} {k:Nat} {r:Rn} {row row':List D}
theorem qB (hk:k<l.length):((l.take k).flatMap jd).length=k*8:=by rw [jfM,List.length_take,Nat.min_eq_left (Nat.le_of_lt hk)]
theorem jkQ (h:l[k]?=some r):l.flatMap jd=jbe l k (jd r):=jaT (enc:=jd) h
theorem jaB (hk:k<l.length) (j:Nat) (hj:j<row.length):(jbe l k row)[k*8+j]?=row[j]?:=by
 rw [jbe,List.getElem?_append_right (by rw [qB hk];omega),qB hk,Nat.add_sub_cancel_left,List.getElem?_append_left hj]
theorem zU (hk:k<l.length) (j:Nat) (hj:j<row.length) (d:D):(jbe l k row).set (k*8+j) d=jbe l k (row.set j d):=by
 rw [jbe,List.set_append_right _ _ (by rw [qB hk];omega),qB hk,Nat.add_sub_cancel_left,List.set_append_left _ _ hj];rfl
theorem jsF (hk:k<l.length) (h8:row.length=8):((jbe l k row).drop (k*8)).take 8=row:=by
 rw [jbe,List.drop_append_of_le_length (by rw [qB hk];exact Nat.le_refl _),List.drop_eq_nil_of_le (by rw [qB hk];exact Nat.le_refl _),List.nil_append,←h8,List.take_left]
theorem jhO (hk:k<l.length) (h8:row.length=8):(jbe l k row).length=l.length*8:=by
 have h1:=jfM (l.drop (k+1));rw [List.length_drop] at h1;rw [jbe,List.length_append,List.length_append,qB hk,h1,h8];omega
theorem jvj (hk:k<l.length) (h8:row.length=8) (h8':row'.length=8):kz (jbe l k row) (k*8) row'=jbe l k row':=by
 have h1:=qB hk;have h2:=jhO hk h8;rw [kQ _ _ _ (by rw [h2,h8'];omega),jbe,List.take_left' h1,h8']
 have:((l.take k).flatMap jd++(row++(l.drop (k+1)).flatMap jd)).drop (k*8+8)=(l.drop (k+1)).flatMap jd:=by
  rw [←List.append_assoc];exact List.drop_left' (by rw [List.length_append,h1,h8])
 rw [this,jbe,List.append_assoc]
theorem jmd (hk:k<l.length) (h8:row.length=8):(D.sl 8 tRn (jbe l k row)).len=l.length:=by
 simp only [D.len,D.cells,D.size,jhO hk h8];exact Nat.mul_div_cancel _ (by decide)
theorem jkP (hk:k<l.length):D.sl 8 tRn (jbe l k (jd r))=jM (l.set k r):=by
 have h1:(l.set k r)[k]?=some r:=List.getElem?_set_self hk;have h2:=jkQ h1
 have h3:jbe (l.set k r) k (jd r)=jbe l k (jd r):=by
  rw [jbe,jbe,List.take_set_of_le (Nat.le_refl _),List.drop_set_of_lt (Nat.lt_succ_self k)]
 rw [jM,h2,h3]
end
theorem jxs {flat:Bool} {p:List Nat} {k n:Nat} {η:jp} {K:jp→Prop} (h:∀η',K η'):stH flat p k n η K:=by
 cases flat with
 |true=>exact h _
 |false=>exact fun η' _=>h η'
theorem jdU (r:Rn) (t:Int):(qw r t).tasks.length=r.tasks.length:=by
 unfold qw;split
 ·simp only [jjG,jcf]
 ·rfl
theorem qh (r:Rn) (t:Int):(jE r t).tasks.length=r.tasks.length:=by
 unfold jE;split
 ·unfold jbw
  split
  ·simp only [List.length_set]
  ·simp only [zy,List.length_set]
 ·rfl
theorem RunOkP.le12 {r:Rn} (h:RunOkP r):r.tasks.length≤12:=by
 obtain ⟨n,h1,_,h2,_⟩:=jjh h.plan;have:=h.len;omega
theorem jx6 {was ts:List Tk} {k:Nat} {x z:Tk} (h:ts[k]?=some x) (hz:was[k]?=some z):juC was ts k=((x.state==2)&&!(z.state==2)):=by
 have:=(List.getElem?_eq_some_iff.1 hz).1;simp [juC,vn h,vn hz,this]
section
variable {P:Program} {β:Nat} {s:St} {K:St→Prop} {d:Option Nat} {g:Option (Nat×Bool)}
theorem Inl.weak {f:FuncId} {args:List AV} {o:Nat→Ob} {R R':AV→(Nat→Ob)→Prop} (h:Inl P f args o R) (hk:∀av o',R av o'→R' av o'):Inl P f args o R':=
 ⟨h.1,fun B w F xs h1 h2=>(h.2 B w F xs h1 h2).mono fun e w' ⟨v,av,o',F',k1,k2,k3,k4⟩=>⟨v,av,o',F',k1,k2,k3,hk _ _ k4⟩⟩
theorem jqg {f:Nat} {args:List X} {R:AV→(Nat→Ob)→Prop} (h:Inl P f (args.map s.ev) s.o R) (hk:∀av o',R av o'→K (St.put ⟨s.t,o'⟩ d av)):qV P β ⟨d,g,.call f args⟩ s K:=kS (h.weak hk)
theorem vJ {f:Nat} {args:List X} {vs:List AV} {R:AV→(Nat→Ob)→Prop} (ha:args.map s.ev=vs) (h:Inl P f vs s.o R) (hk:∀av o',R av o'→K (St.put ⟨s.t,o'⟩ d av)):qV P β ⟨d,g,.call f args⟩ s K:=by subst ha;exact jqg h hk
theorem jl5 (x:A0):x.sim x=True:=by cases x<;>simp [A0.sim]
theorem jl3:∀l:List A0,simL l l=True
 |[]=>rfl
 |x::l=>by simp [simL,jl5,jl3 l]
theorem jl2 (x:Cell):x.sim x=True:=by cases x<;>simp [Cell.sim,jl5]
theorem jl4:∀l:List Cell,simC l l=True
 |[]=>rfl
 |x::l=>by simp [simC,jl2,jl4 l]
theorem jQ (x:Ob):x.sim x=True:=by cases x<;>simp [Ob.sim,jl4]
end
abbrev jBq (o o':Nat→Ob):Prop:=o' 92=o 92∧o' 93=o 93∧o' 94=o 94∧o' 95=o 95∧o' 96=o 96∧o' 97=o 97
def EpK (P:Program) (f:FuncId) (k:Nat) (t:Int) (y:Yd) (r2:Rn):Prop:=∀(o:Nat→Ob) (b:Nat) (e2 e3:jp),o 90=ky b tYd y.now y.seq y.shelf e2 y.runs e3→
 Inl P f [.c (.ep 90 3 [] (k*8) (e3 [])),Ni t] o fun av o'=>av=.tup []∧o' 90=ky b tYd y.now y.seq y.shelf e2 (y.runs.set k r2) e3∧o' 91=o 91∧jBq o o'
def juA (P:Program) (f:FuncId) (caps:List A0) (H:Ob) (k:Nat) (y:Yd) (r2:Rn):Prop:=∀(o:Nat→Ob) (b:Nat) (e2 e3:jp),o 90=ky b tYd y.now y.seq y.shelf e2 y.runs e3→o 91=H→
 Turns P f ([.c (.ep 90 3 [] (k*8) (e3 []))]++caps.map .c) o fun rt o'=>rt=.tup []∧o' 90=ky b tYd y.now y.seq y.shelf e2 (y.runs.set k r2) e3∧o' 91=H∧jBq o o'
section
variable {l:List Rn} {k:Nat} {r:Rn}
theorem vi (h:l[k]?=some r):((l.flatMap jd).drop (k*8+7)).take 1=[jw r.tasks]:=qL (enc:=jd) (size:=8) (fun _=>rfl) h (j:=7) (n:=1) (by decide)
theorem jw8 (h:l[k]?=some r):((l.flatMap jd).drop (k*8+6)).take 1=[.val (.int .i64 r.state)]:=qL (enc:=jd) (size:=8) (fun _=>rfl) h (j:=6) (n:=1) (by decide)
theorem jBl (h:l[k]?=some r):((l.flatMap jd).drop (k*8+1)).take 5=ja r.plan:=qL (enc:=jd) (size:=8) (fun _=>rfl) h (j:=1) (n:=5) (by decide)
theorem jBm (h:l[k]?=some r):((l.flatMap jd).drop (k*8+1+1)).take 1=[.val (.int .i64 r.plan.most)]:=qL (enc:=jd) (size:=8) (fun _=>rfl) h (j:=2) (n:=1) (by decide)
theorem vz (h:l[k]?=some r):k*8+7+1≤(l.flatMap jd).length:=qJ (enc:=jd) (size:=8) (fun _=>rfl) h (j:=7) (n:=1) (by decide)
theorem jwT (h:l[k]?=some r):k*8+6+1≤(l.flatMap jd).length:=qJ (enc:=jd) (size:=8) (fun _=>rfl) h (j:=6) (n:=1) (by decide)
theorem jAL (h:l[k]?=some r):k*8+1+5≤(l.flatMap jd).length:=qJ (enc:=jd) (size:=8) (fun _=>rfl) h (j:=1) (n:=5) (by decide)
theorem jAM (h:l[k]?=some r):k*8+1+1+1≤(l.flatMap jd).length:=qJ (enc:=jd) (size:=8) (fun _=>rfl) h (j:=2) (n:=1) (by decide)
theorem jsN (h:l[k]?=some r) (v:Int):D.put [] (k*8+6) [.val (.int .i64 v)] (jM l)=jM (l.set k ⟨r.id,r.plan,v,r.tasks⟩):=jaX (enc:=jd) (size:=8) (fun _=>rfl) h (j:=6) rfl (by simp [jd,ja])
theorem qH (h:l[k]?=some r) {ts:List Tk} {i:Nat} {ds:List D} (hp:D.put [] i ds (jw r.tasks)=jw ts):D.put [k*8+7] i ds (jM l)=jM (l.set k ⟨r.id,r.plan,r.state,ts⟩):=by
 have hk:=(List.getElem?_eq_some_iff.1 h).1;have h7:(l.flatMap jd)[k*8+7]?=some (jw r.tasks):=jnJ (j:=7) h (by decide)
 have e:(l.flatMap jd).set (k*8+7) (jw ts)=jbe l k (jd ⟨r.id,r.plan,r.state,ts⟩):=by
  rw [jkQ h,zU hk 7 (by simp [jd,ja])];rfl
 rw [←jkP hk,←e];simp only [jM,D.put,h7,hp]
end
theorem jyL {k t:Nat} {y:Yd} {r:Rn} (hr:y.runs[k]?=some r) (hrun:vW r t=true):EpK Tryz.prog 223 k t y (qw r t):=by
 intro o b10 e2 e3 h10;refine qY (β:=7000000) Tryz.func223 jjL (by simp) ?_
 unfold ji6;obtain ⟨t',x,ht',hx,hs,hP⟩:=jcF hrun;obtain rfl:t=t':=by omega
 obtain ⟨n,hn,hn1,h12,h30,hes,hnd,-⟩:=jjh hP.plan;have hlen:=hP.len;have hkl:=(List.getElem?_eq_some_iff.1 hr).1;have htl':=(List.getElem?_eq_some_iff.1 hx).1;have h0t:(t:Int)≥0:=by omega
 have hx2:(r.tasks.set t ⟨4,x.need,x.tri,x.til⟩)[t]?=some ⟨4,x.need,x.tri,x.til⟩:=List.getElem?_set_self htl';have htl2:t<(r.tasks.set t ⟨4,x.need,x.tri,x.til⟩).length:=by rw [List.length_set];exact htl'
 have hS:∀r':Rn,(y.runs.set k r')[k]?=some r':=fun r'=>List.getElem?_set_self hkl
 have hr2:=hS ⟨r.id,r.plan,r.state,r.tasks.set t ⟨4,x.need,x.tri,x.til⟩⟩;have hr3:=hS ⟨r.id,r.plan,r.state,r.tasks.set t ⟨4,x.need,x.tri,0⟩⟩;simp only [go_sem,h10,Nat.add_zero,htl',h0t,vi hr,vz hr,ki hr,qH hr (jaK hx 4),qH hr (zw hx 4),vg hx,qy hx,zN hx,zc hx,htl2,vi hr2,vz hr2,ki hr2,jiE hx2,jum hx2,qH hr2 (jdV hx2 0),List.set_set,jBl hr3,jAL hr3,ja,jZ hr3];refine jc (jir r.plan t hP.plan) (by simp only [go_sem,jd,ja,jls hr3,jZ hr3]) fun ηb=>?_
 simp only [go_sem,jd,ja,jls hr3,jZ hr3];have hbl:=jpK hn h12 h30 t;have hlD:(jcg r.plan r.tasks t x).length=r.tasks.length:=jcf _ _ _ _;have hR:qw r t=jjG r t x:=jik hx hrun;generalize hts:r.tasks.set t ⟨4,x.need,x.tri,0⟩=ts0 at*;have htl:ts0.length=r.tasks.length:=by rw [←hts,List.length_set]
 have hdn:jcg r.plan r.tasks t x=(jfA r.plan t).foldl jbb ts0:=by rw [←hts];rfl
 refine jq (fun i:Nat=>St.of [(0,.c (.ep 90 3 [] (k*8) (e3 []))),(26,Hd 26 (ηb 0)),(27,Ni (jfA r.plan t).length),(28,Ni i)] [(90,ky b10 tYd y.now y.seq y.shelf e2 (y.runs.set k ⟨r.id,r.plan,r.state,((jfA r.plan t).take i).foldl jbb ts0⟩) e3),(91,o 91),(92,o 92),(93,o 93),(94,o 94),(95,o 95),(96,o 96),(97,o 97),(26,.loose (jh (jfA r.plan t)) (ηb 0))]) (fun i=>i≤(jfA r.plan t).length) (fun i=>(jfA r.plan t).length-i) 0 (by (try dsimp only);first|omega|(simp;done)|(and_intros<;>first|omega|simp)) (jk [some 90,some 91,some 92,some 93,some 94,some 95,some 96,some 97,some 700002600] (by simp only [go_sem,jd,ja,List.take_zero,List.foldl_nil,jQ]<;>and_intros<;>first|rfl|assumption|trivial)) ?_
 rintro j hj;by_cases hlt:j<(jfA r.plan t).length
 ·have hlt':(j:Int)<(jfA r.plan t).length:=by omega
  obtain ⟨v,hv⟩:=je hlt;have hvb:=jug hn (List.mem_of_getElem? hv);have hfl:=jeO ((jfA r.plan t).take j) ts0;have hft:=jkl hv ts0;generalize ((jfA r.plan t).take j).foldl jbb ts0=ts at*;have hvl:v.toNat<ts.length:=by omega
  have hv0:=hvb.1;obtain ⟨z,hz0⟩:=je hvl;have hw:IntKind.i64.wrap ((j:Int)+1)=((j+1:Nat):Int):=jo (by omega) (by omega)
  rw [joT hz0] at hft;generalize hnd':IntKind.i64.wrap (z.need-1)=nd at*;have hy1:(ts.set v.toNat ⟨z.state,nd,z.tri,z.til⟩)[v.toNat]?=some ⟨z.state,nd,z.tri,z.til⟩:=List.getElem?_set_self hvl;have q1:=hS ⟨r.id,r.plan,r.state,ts⟩;have q2:=hS ⟨r.id,r.plan,r.state,ts.set v.toNat ⟨z.state,nd,z.tri,z.til⟩⟩;cases hz:nd==0
  ·have hz':¬nd=0:=by simpa using hz
   rw [if_neg hz'] at hft;simp only [go_sem,jd,ja,Nat.add_zero,hlt,hlt',jm hv,jj hlt,vi q1,vz q1,ki q1,hvl,hv0,jpN hz0,jpp hz0,hnd',qH q1 (jsM hz0 nd),List.set_set,vi q2,vz q2,ki q2,jpN hy1,jpp hy1,hz,hw];exact ⟨j+1,by (try dsimp only);first|omega|assumption|(and_intros<;>first|omega|assumption),(jk [some 90,some 91,some 92,some 93,some 94,some 95,some 96,some 97,some 26] (by simp only [go_sem,jd,ja,hft,jQ]<;>and_intros<;>first|rfl|assumption|trivial)),by (try dsimp only);omega⟩
  ·have hz':nd=0:=by simpa using hz
   rw [if_pos hz'] at hft;simp only [go_sem,jd,ja,Nat.add_zero,hlt,hlt',jm hv,jj hlt,vi q1,vz q1,ki q1,hvl,hv0,jpN hz0,jpp hz0,hnd',qH q1 (jsM hz0 nd),List.set_set,vi q2,vz q2,ki q2,jpN hy1,jpp hy1,hz,vg hy1,qy hy1,qH q2 (jaK hy1 2),qH q2 (zw hy1 2),hw];exact ⟨j+1,by (try dsimp only);first|omega|assumption|(and_intros<;>first|omega|assumption),(jk [some 90,some 91,some 92,some 93,some 94,some 95,some 96,some 97,some 26] (by simp only [go_sem,jd,ja,hft,jQ]<;>and_intros<;>first|rfl|assumption|trivial)),by (try dsimp only);omega⟩
 have hlt':¬(j:Int)<(jfA r.plan t).length:=by omega
 rw [List.take_of_length_le (by omega)]
 rw [hR,←hdn];have hrr:jjG r t x=⟨r.id,r.plan,if (zq 4 (jcg r.plan r.tasks t x)).length=r.tasks.length then 2 else r.state,jcg r.plan r.tasks t x⟩:=rfl
 rw [hrr];generalize jcg r.plan r.tasks t x=tD at*;have q3:=hS ⟨r.id,r.plan,r.state,tD⟩;simp only [go_sem,jd,ja,Nat.add_zero,hlt',jjQ q3,jeJ q3,vi q3,vz q3,ki q3,ko q3,jZ q3];refine jc (qr ⟨r.id,r.plan,r.state,tD⟩ 4 (by simp only;omega)) (by simp only [go_sem,jd,ja,jZ q3,ko q3,ki q3]) fun η=>?_
 simp only [go_sem,jd,ja,jZ q3,ko q3,ki q3];rw [←hlD];generalize hq:(zq 4 tD).length=q at*;cases he:(q:Int)==(tD.length:Int)
 ·have he':¬q=tD.length:=jtz he
  rw [if_neg he'];simp only [go_sem,jd,ja,Nat.add_zero,he,hq];exact ⟨rfl,rfl,rfl,rfl,rfl,rfl⟩
 ·have he':q=tD.length:=jty he
  rw [if_pos he'];simp only [go_sem,jd,ja,Nat.add_zero,he,hq,jw8 q3,jwT q3,jsN q3,List.set_set];exact ⟨rfl,rfl,rfl,rfl,rfl,rfl⟩
theorem jtt {P:Program} {f:FuncId} {args:List AV} {o:Nat→Ob} {R:AV→(Nat→Ob)→Prop} (h:Inl P f args o fun av o'=>WkK (.only o') fun s'=>R av s'.o):Inl P f args o R:=
 ⟨h.1,fun B w F xs h1 h2=>(h.2 B w F xs h1 h2).mono fun e w' ⟨v,av,o',F',k1,k2,k3,k4⟩=>by
  obtain ⟨s',F2,k5,k6⟩:=k4 _ _ _ _ _ _ k2;exact ⟨v,av,s'.o,F2,k1,⟨k5.below,k5.hB,k5.df,k5.sz,fun _=>trivial,k5.ob,k5.fr,k5.dj⟩,k3,k6⟩⟩
def frP (was:List Tk) (v:Int):Bool:=!decide (v∈zq 2 was)
theorem jvK {s:Int} {ts:List Tk} {j:Nat}:(j:Int)∈zq s ts↔j<ts.length∧(stT ts (j:Int)==s)=true:=by
 simp only [zq,zD,List.mem_map,List.mem_filter,List.mem_range];constructor
 ·rintro ⟨i,h,he⟩
  obtain rfl:i=j:=by omega
  exact h
 ·exact fun h=>⟨j,h,rfl⟩
theorem jAP (was ts:List Tk):(zq 2 ts).filter (frP was)=jbi was ts ts.length:=by
 simp only [zq,zD,jbi,List.filter_map,List.filter_filter]
 congr 1
 refine List.filter_congr fun j _=>?_
 have h:frP was (j:Int)=!(decide (j<was.length)&&(stT was (j:Int)==2)):=by
  simp only [frP,jvK]
  congr 1
  cases (stT was (j:Int)==2)<;>simp
 simp only [Function.comp,h,juC];rw [Bool.and_comm]
theorem jyD {l:List Int} {k:Nat} {v:Int} (p:Int→Bool) (h:l[k]?=some v):(l.take (k+1)).filter p=(l.take k).filter p++(if p v then [v] else []):=by
 rw [List.take_add_one,h,List.filter_append];cases hp:p v<;>simp [hp]
def jfo:C:=iS [iA 10 (iM 0),iA 11 (iF 0 10),iA 12 (iF 3 11),iA 13 (iL 12),iA 14 (iM 1),iA 15 (iI 8 13 14),iA 16 (iT 8 15),iA 17 (.call 214 [.t 16,.c (.int .i64 2)]),iA 6 (iM 17)] (iS [iA 18 (iM 2),iA 19 (iM 0),iA 20 (iF 0 19),iA 21 (iF 3 20),iA 22 (iL 21),iA 23 (iM 1),iA 24 (iI 8 22 23),iA 25 (.callv (.t 18) [.t 24])] (iS [iA 7 (.mov (.c (.slice none 0 0)))] (.seq (iS [iA 26 (iM 0),iA 27 (iF 0 26),iA 28 (iF 3 27),iA 29 (iL 28),iA 30 (iM 1),iA 31 (iI 8 29 30),iA 32 (iT 8 31),iA 33 (.call 214 [.t 32,.c (.int .i64 2)]),iA 34 (iG 33),iA 35 (iN 0)] (.blk 0 (.loop (iS [iA 36 (iP .lss 3 35 34)] (.seq (iD 36 .skip (.exit 0)) (.seq (.blk 1 (iS [iA 37 (iI 1 33 35),iA 38 (iL 37),iA 9 (iM 38)] (iS [iA 39 (iM 6),iA 40 (iM 9),iA 41 (.call 137 [.t 39,.t 40]),iA 42 (iU 41)] (iD 42 (.reg [iA 43 (iM 7),iA 44 (iM 9),iA 45 (.bsl 3 1 1 [none] [(0,1,.t 44)]),iA 46 (.app 3 1 8 (.t 43) (.t 45)),iA 7 (iM 46)]) .skip)))) (.reg [iA 47 (iQ .add 3 35 1),iA 35 (iM 47)]))))))) (.reg [iA 48 (iM 0),iA 49 (iM 0),iA 50 (iF 0 49),iA 51 (iF 3 50),iA 52 (iL 51),iA 53 (iM 1),iA 54 (iI 8 52 53),iA 55 (iT 8 54),iA 56 (iM 7),iA 57 (.call 213 [.t 48,.t 55,.t 56])]))))
theorem jhr:fnC Tryz.prog Tryz.f221=some (jfo,[],58):=by kernel_rfl
theorem jcQ {k b:Nat} {y:Yd} {r r2:Rn} {f:FuncId} {caps:List A0} {H:Ob} (hr:y.runs[k]?=some r) (hl2:r2.tasks.length=r.tasks.length) (hl12:r.tasks.length≤12) (h4:y.shelf.length=4) (hq:1≤y.seq∧y.seq≤4000000000) (ht:jt y≤2000000)
 (hc:juA Tryz.prog f caps H k y r2) {o:Nat→Ob} {e2 e3:jp} (h90:o 90=ky b tYd y.now y.seq y.shelf e2 y.runs e3) (h91:o 91=H):
 Inl Tryz.prog 221 [Bx 90 b,Ni k,.fn f caps] o fun av o'=>av=.tup []∧(∃e2' e3',o' 90=ky b tYd (qd y k r2).now (qd y k r2).seq (qd y k r2).shelf e2' (qd y k r2).runs e3')∧o' 91=H∧o' 92=o 92∧o' 93=o 93∧o' 94=o 94∧o' 95=o 95∧o' 96=o 96:=by
 refine jtt ?_;refine jtu (β:=5000000) [[1,0],[1,1,1,1]] Tryz.func221 jhr (by simp) ?_
 unfold jfo;simp only [C.ghs,C.ghAt,List.foldr];have hk:=(List.getElem?_eq_some_iff.1 hr).1;have h0k:(k:Int)≥0:=by omega
 simp only [go_sem,h90,Nat.add_zero,hk,h0k,jjQ hr,jeJ hr,jd,ja];refine jc (qr r 2 (by omega)) (by simp only [go_sem,h90,jd,ja,jZ hr,ko hr]) fun ηi=>?_
 simp only [go_sem,h90,jd,ja,jZ hr,ko hr];refine vl ?_;refine WkK.wk (s':=St.of [(0,Bx 90 b),(1,Ni k),(2,.fn f caps),(6,Hd 97 (ηi 0))] [(90,ky b tYd y.now y.seq y.shelf e2 y.runs e3),(91,o 91),(92,o 92),(93,o 93),(94,o 94),(95,o 95),(96,o 96),(97,.loose (jh (zq 2 r.tasks)) (ηi 0))]) (jk [some 90,some 91,some 92,some 93,some 94,some 95,some 96,some 500001700] (by simp only [go_sem,h90,jQ,jl3]<;>and_intros<;>first|rfl|assumption|trivial)) ?_
 refine WkK.of ?_;simp only [go_sem,Nat.add_zero,hk,h0k,jeJ hr];refine jsu (f:=f) (caps:=caps) (by simp only [go_sem]) (hc _ b e2 e3 (by simp only [go_sem]) (by simp only [go_sem];exact h91)) ?_
 rintro _ o1 ⟨rfl,j90,j91,j92,j93,j94,j95,j96,j97⟩ η;simp only [go_sem] at j92 j93 j94 j95 j96 j97;have hr2:(y.runs.set k r2)[k]?=some r2:=List.getElem?_set_self hk;have hk2:k<(y.runs.set k r2).length:=by rw [List.length_set];exact hk
 simp only [go_sem,j90,Nat.add_zero,hk2,h0k,jjQ hr2,jeJ hr2,jd,ja];refine jc (qr r2 2 (by omega)) (by simp only [go_sem,j90,jd,ja,jZ hr2,ko hr2]) fun ηj=>?_
 simp only [go_sem,j90,jd,ja,jZ hr2,ko hr2]
 have hn0:∀v:Int,v∈zq 2 r2.tasks→0≤v:=fun v hv=>by
  simp only [zq,zD,List.mem_map] at hv;obtain ⟨a,_,rfl⟩:=hv;omega
 have hfn:=jAP r.tasks r2.tasks;have hLl:(zq 2 r2.tasks).length≤12:=Nat.le_trans (zS _ _ _) (by omega)
 have hBl:(zq 2 r.tasks).length≤12:=Nat.le_trans (zS _ _ _) hl12;generalize zq 2 r2.tasks=L2 at*;refine jq (fun i:Nat×jp=>St.of [(0,Bx 90 b),(1,Ni k),(6,Hd 97 (ηi 0)),(7,Hd 7 i.2),(33,Hd 33 (ηj 0)),(34,Ni L2.length),(35,Ni i.1)] [(90,ky b tYd y.now y.seq y.shelf e2 (y.runs.set k r2) e3),(91,H),(92,o 92),(93,o 93),(94,o 94),(95,o 95),(96,o 96),(97,.loose (jh (zq 2 r.tasks)) (ηi 0)),(7,.loose (jh ((L2.take i.1).filter (frP r.tasks))) i.2),(33,.loose (jh L2) (ηj 0))]) (fun i=>i.1≤L2.length) (fun i=>L2.length-i.1) (0,jli) (by (try dsimp only);first|omega|(simp;done)|(and_intros<;>first|omega|simp)) (jk [some 90,some 91,some 92,some 93,some 94,some 95,some 96,some 97,none,some 500003300] (by simp only [go_sem,j90,j91,j92,j93,j94,j95,j96,j97,List.take_zero,List.filter_nil,jQ]<;>and_intros<;>first|rfl|assumption|trivial)) ?_
 rintro ⟨i,η7⟩ hi;dsimp only at hi;by_cases hlt:i<L2.length
 ·have hlt':(i:Int)<L2.length:=by omega
  obtain ⟨v,hv⟩:=je hlt;have hw:IntKind.i64.wrap ((i:Int)+1)=((i+1:Nat):Int):=jo (by omega) (by omega)
  have hft:=jyD (frP r.tasks) hv;have hFl:((L2.take i).filter (frP r.tasks)).length≤12:=Nat.le_trans (List.length_filter_le _ _) (by rw [List.length_take];omega)
  generalize (L2.take i).filter (frP r.tasks)=F at*;have m1:F.length+1≤maxLen:=by unfold maxLen;omega
  have m2:(F.length+1)*8≤140737488355328:=by omega
  simp only [go_sem,hlt',hlt,jm hv,jj hlt];refine jc (jis (zq 2 r.tasks) v (by omega)) (by simp only [go_sem]) fun η=>?_
  simp only [go_sem];cases hd:decide (v∈zq 2 r.tasks)
  ·have hp:frP r.tasks v=true:=by rw [frP,hd];rfl
   rw [hp,if_pos rfl] at hft;simp only [go_sem,hd,m1,m2,vM,hw];intro η1 η8;exact ⟨(i+1,η8),by (try dsimp only);first|omega|assumption|(and_intros<;>first|omega|assumption),(jk [some 90,some 91,some 92,some 93,some 94,some 95,some 96,some 97,some 500004600,some 33] (by simp only [go_sem,hft,jQ]<;>and_intros<;>first|rfl|assumption|trivial)),by (try dsimp only);omega⟩
  ·have hp:frP r.tasks v=false:=by rw [frP,hd];rfl
   rw [hp,if_neg (by decide),List.append_nil] at hft
   simp only [go_sem,hd,hw];exact ⟨(i+1,η7),by (try dsimp only);first|omega|assumption|(and_intros<;>first|omega|assumption),(jk [some 90,some 91,some 92,some 93,some 94,some 95,some 96,some 97,some 7,some 33] (by simp only [go_sem,hft,jQ]<;>and_intros<;>first|rfl|assumption|trivial)),by (try dsimp only);omega⟩
 have hlt':¬(i:Int)<L2.length:=by omega
 rw [List.take_of_length_le (by omega),hfn]
 simp only [go_sem,hlt'];refine vl ?_;have hR:jM (y.runs.set k r2)=.sl 8 tRn (jbe y.runs k (jd r2)):=(jkP hk).symm;have hid:(jbi r.tasks r2.tasks r2.tasks.length).length≤12:=Nat.le_trans (jeB _ _ _) (by omega)
 have hLY:qd y k r2=⟨y.now,(zW r2.plan.prio r2.id (jbi r.tasks r2.tasks r2.tasks.length) ((y.shelf[shN r2.id]?).getD default,y.seq)).2,y.shelf.set (shN r2.id) (zW r2.plan.prio r2.id (jbi r.tasks r2.tasks r2.tasks.length) ((y.shelf[shN r2.id]?).getD default,y.seq)).1,y.runs.set k r2⟩:=by rw [qd,hr,Option.getD_some];rfl
 generalize jbi r.tasks r2.tasks r2.tasks.length=ids at*;refine WkK.wk (s':=St.of [(0,Bx 90 b),(1,Ni k),(7,Hd 97 η7)] [(90,qZ b tYd y.now y.seq y.shelf e2 (jM (y.runs.set k r2)) e3),(91,H),(92,o 92),(93,o 93),(94,o 94),(95,o 95),(96,o 96),(97,.loose (jh ids) η7)]) (jk [some 90,some 91,some 92,some 93,some 94,some 95,some 96,some 7] (by simp only [go_sem,jQ]<;>and_intros<;>first|rfl|assumption|trivial)) ?_
 rw [hR];refine jdO 90 3 (k*8+5) 98 (η:=e3) (cs:=r2.plan.edges.flatMap jI) rfl (jaB hk 5 (by simp [jd,ja])) rfl (by decide) fun ηa ηA hA1 hA2 hA3=>?_
 rw [zU hk 5 (by simp [jd,ja])]
 refine jdO 90 3 (k*8+7) 99 (η:=ηA) (cs:=r2.tasks.flatMap jn) rfl (jaB hk 7 (by simp [jd,ja])) rfl (by decide) fun ηb ηB hB1 hB2 hB3=>?_
 rw [zU hk 7 (by simp [jd,ja])]
 rw [←hA2,←hB2];rw [←hA2] at hA3;rw [←hB2] at hB3;have hV:((jd r2).set 5 (.val (ηa []))).set 7 (.val (ηb []))=rnV r2 (ηa []) (ηb []):=rfl;rw [hV];obtain ⟨dR,hdR⟩:∃dR,D.sl 8 tRn (jbe y.runs k (rnV r2 (ηa []) (ηb [])))=dR:=⟨_,rfl⟩;refine WkK.wk (s':=St.of [(0,Bx 90 b),(1,Ni k),(7,Hd 97 η7)] [(90,qZ b tYd y.now y.seq y.shelf e2 (.sl 8 tRn (jbe y.runs k (rnV r2 (ηa []) (ηb [])))) ηB),(91,H),(92,o 92),(93,o 93),(94,o 94),(95,o 95),(96,o 96),(97,.loose (jh ids) η7),(98,.loose (jB r2.plan.edges) ηa),(99,.loose (jw r2.tasks) ηb)]) (jk [some 90,some 91,some 92,some 93,some 94,some 95,some 96,some 97,some 98,some 99] (by simp only [go_sem,jQ,jB,jw]<;>and_intros<;>first|rfl|assumption|trivial)) ?_
 refine WkK.of ?_;have hl1:(jbe y.runs k (rnV r2 (ηa []) (ηb []))).length=y.runs.length*8:=jhO hk rfl;have ha1:((jbe y.runs k (rnV r2 (ηa []) (ηb []))).drop (k*8)).take 8=rnV r2 (ηa []) (ηb []):=jsF hk rfl;have hi8:k*8+8≤y.runs.length*8:=by omega
 have hdl:(D.sl 8 tRn (jbe y.runs k (rnV r2 (ηa []) (ηb [])))).len=y.runs.length:=jmd hk rfl;simp only [go_sem,hl1,hdl,ha1,hi8,hk,h0k,hA3,hB3,Nat.add_zero];refine kS (qY (β:=8000000) Tryz.func213 jci (by simp) ?_)
 unfold jct;simp only [go_sem,hA3,hB3];intro b74;refine jc (jdi r2.id) (by simp only [go_sem]) fun η=>?_
 simp only [go_sem];obtain ⟨hsn,hs4⟩:=jBu r2.id;rw [hsn];rw [hLY];generalize shN r2.id=n at*;have hn:n<y.shelf.length:=by omega
 have h0n:(n:Int)≥0:=by omega
 obtain ⟨l,hl⟩:=je hn;have hll:=vU ht (List.mem_of_getElem? hl);rw [hl,Option.getD_some];rw [hdR];refine jq (fun i:Nat×jp=>St.of [(0,Bx 90 b),(4,Bx 4 b74),(6,Ni n),(12,Hd 97 η7),(13,Ni ids.length),(14,Ni i.1)] [(90,qZ b tYd y.now (zW r2.plan.prio r2.id (ids.take i.1) (l,y.seq)).2 (y.shelf.set n (zW r2.plan.prio r2.id (ids.take i.1) (l,y.seq)).1) i.2 dR ηB),(91,H),(92,o 92),(93,o 93),(94,o 94),(95,o 95),(96,o 96),(97,.loose (jh ids) η7),(98,.loose (jB r2.plan.edges) ηa),(99,.loose (jw r2.tasks) ηb),(4,jnt b74 tRn r2 (ηa []) (ηb []))]) (fun i=>i.1≤ids.length) (fun i=>ids.length-i.1) (0,e2) (by (try dsimp only);first|omega|(simp;done)|(and_intros<;>first|omega|simp)) (jk [some 90,some 91,some 92,some 93,some 94,some 95,some 96,some 97,some 98,some 99,some 800000400] (by simp only [go_sem,List.take_zero,jhX,zT hl,jQ]<;>and_intros<;>first|rfl|assumption|trivial)) ?_
 rintro ⟨i,η⟩ hi;dsimp only at hi;have hsq:=jcN r2.plan.prio r2.id (ids.take i) (l,y.seq);have hle:=jcO r2.plan.prio r2.id (ids.take i) (l,y.seq);have hnl:(ids.take i).length=i:=by rw [List.length_take];omega
 dsimp only at hsq hle;by_cases hlt:i<ids.length
 ·have hlt':(i:Int)<ids.length:=by omega
  have h0i:(i:Int)≥0:=by omega
  obtain ⟨x,hx⟩:=je hlt;have hsnoc:=jeE r2.plan.prio r2.id (ids.take i) x (l,y.seq);have hnx:ids.take (i+1)=ids.take i++[x]:=by rw [List.take_add_one,hx];rfl
  rw [←hnx] at hsnoc;have hw:IntKind.i64.wrap ((i:Int)+1)=((i+1:Nat):Int):=jo (by omega) (by omega)
  have hw2:IntKind.i64.wrap ((zW r2.plan.prio r2.id (ids.take i) (l,y.seq)).2+1)=(zW r2.plan.prio r2.id (ids.take i) (l,y.seq)).2+1:=jo (by omega) (by omega)
  generalize hPe:zW r2.plan.prio r2.id (ids.take i) (l,y.seq)=P at*;obtain ⟨sh,hsh⟩:∃s,y.shelf.set n P.1=s:=⟨_,rfl⟩;have hSl:sh[n]?=some P.1:=by rw [←hsh];exact List.getElem?_set_self hn
  have hns:n<sh.length:=by rw [←hsh,List.length_set];exact hn
  have hss:∀L,sh.set n L=y.shelf.set n L:=fun L=>by rw [←hsh,List.set_set]
  have hi1:n+1≤(sh.flatMap fun es=>[ji es]).length:=by have:=jaD hns;rwa [Nat.mul_one] at this
  have hb1:((sh.flatMap fun es=>[ji es]).drop n).take 1=[ji P.1]:=by have:=jbs hSl;rwa [Nat.mul_one] at this
  have hxi:i+1≤(ids.flatMap fun n=>[iv n]).length:=by have:=jj hlt;rwa [Nat.mul_one] at this
  have hxa:((ids.flatMap fun n=>[iv n]).drop i).take 1=[iv x]:=by have:=jm hx;rwa [Nat.mul_one] at this
  rw [hsh];simp only [go_sem,ja,jd,hlt',h0i,hlt,hxa,hxi,Nat.add_zero,hns,Nat.mul_one,hb1,hi1,h0n];refine jc (jaj P.1 ⟨r2.plan.prio,P.2,r2.id,x⟩ (by omega)) (by simp only [go_sem,jf,ke hSl]) fun ηp=>?_
  simp only [go_sem,jf,ke hSl];simp only [go_sem,hns,Nat.mul_one,hi1,hb1,h0n,jag,hw2,hw,hss,Nat.add_zero];refine fun η' hη'=>?_
  exact ⟨(i+1,η'),by (try dsimp only);first|omega|assumption|(and_intros<;>first|omega|assumption),(jk [some 90,some 91,some 92,some 93,some 94,some 95,some 96,some 97,some 98,some 99,some 4] (by simp only [go_sem,ja,jd,hsnoc,jQ]<;>and_intros<;>first|rfl|assumption|trivial)),by (try dsimp only);omega⟩
 obtain rfl:i=ids.length:=by omega
 have hlt':¬((ids.length:Nat):Int)<ids.length:=by omega
 rw [List.take_length];generalize zW r2.plan.prio r2.id ids (l,y.seq)=P at*;subst hdR;simp only [go_sem,hlt'];refine WkK.wk (s':=St.of [] [(90,qZ b tYd y.now P.2 (y.shelf.set n P.1) η (.sl 8 tRn (jbe y.runs k (rnV r2 (ηa []) (ηb [])))) ηB),(91,H),(92,o 92),(93,o 93),(94,o 94),(95,o 95),(96,o 96),(98,.loose (jB r2.plan.edges) ηa),(99,.loose (jw r2.tasks) ηb)]) (jk [some 90,some 91,some 92,some 93,some 94,some 95,some 96,some 98,some 99] (by simp only [go_sem,jQ]<;>and_intros<;>first|rfl|assumption)) ?_
 refine qN 90 3 (k*8+5) 98 (η:=ηB) (η2:=ηa) (cs:=r2.plan.edges.flatMap jI) rfl (jaB hk 5 (by simp)) (.inl rfl) rfl (by decide) fun ηD _=>?_
 rw [zU hk 5 (by simp)]
 refine qN 90 3 (k*8+7) 99 (η:=ηD) (η2:=ηb) (cs:=r2.tasks.flatMap jn) rfl (jaB hk 7 (by simp)) (.inl rfl) rfl (by decide) fun ηE _=>?_
 rw [zU hk 7 (by simp)]
 have hrow:(List.set (List.set (rnV r2 (ηa []) (ηb [])) 5 (.sl 2 tEd (r2.plan.edges.flatMap jI))) 7 (.sl 4 tTk (r2.tasks.flatMap jn)))=jd r2:=rfl;rw [hrow,jkP hk];refine WkK.of ?_;exact ⟨⟨η,ηE,rfl⟩,rfl,rfl,rfl,rfl,rfl,rfl⟩
def CutR:List Rn→List D→(Nat→Ob)→Prop
 |[],rows,fam=>rows=[]∧∀j,fam j=.none
 |r::l,rows,fam=>∃(η5 η7:jp) (rows':List D),rows=rnV r (η5 []) (η7 [])++rows'∧(η5 []).oneCell'=true∧(η7 []).oneCell'=true∧fam 0=.loose (jB r.plan.edges) η5∧fam 1=.loose (jw r.tasks) η7∧CutR l rows' (fun j=>fam (j+2))
theorem CutR.len:∀{l:List Rn} {rows:List D} {fam:Nat→Ob},CutR l rows fam→rows.length=l.length*8
 |[],_,_,⟨h,_⟩=>by rw [h];rfl
 |r::l,_,_,⟨_,_,rows',h,_,_,_,_,h2⟩=>by
  have:=CutR.len h2;rw [h,List.length_append,List.length_cons,this];simp only [List.length_cons,List.length_nil];omega
theorem CutR.flat:∀{l:List Rn} {rows:List D} {fam:Nat→Ob},CutR l rows fam→jV rows=true
 |[],_,_,⟨h,_⟩=>by rw [h];rfl
 |r::l,_,_,⟨η5,η7,rows',h,h5,h7,_,_,h2⟩=>by
  have:=CutR.flat h2;rw [h,vB,this];simp [jV,h5,h7];exact ⟨rfl,rfl,rfl,rfl,rfl,rfl⟩
theorem CutR.erase:∀{l:List Rn} {rows:List D} {fam:Nat→Ob} {k:Nat},CutR l rows fam→k<l.length→CutR (l.eraseIdx k) (rows.take (k*8)++rows.drop ((k+1)*8)) (fun j=>fam (if j<2*k then j else j+2))
 |[],_,_,_,_,h=>by simp at h
 |r::l,_,fam,0,⟨η5,η7,rows',h,_,_,_,_,h2⟩,_=>by
  have e1:(rnV r (η5 []) (η7 [])++rows').drop ((0+1)*8)=rows':=List.drop_left' rfl;rw [h,e1,Nat.zero_mul,List.take_zero,List.nil_append];simpa using h2
 |r::l,_,fam,k+1,⟨η5,η7,rows',h,h5,h7,f0,f1,h2⟩,hk=>by
  have ih:=CutR.erase (k:=k) h2 (by simpa using hk)
  have e1:(rnV r (η5 []) (η7 [])++rows').take ((k+1)*8)=rnV r (η5 []) (η7 [])++rows'.take (k*8):=by
   rw [show (k+1)*8=(rnV r (η5 []) (η7 [])).length+k*8 by rw [show (rnV r (η5 []) (η7 [])).length=8 from rfl];omega];exact List.take_length_add_append _
  have e2:(rnV r (η5 []) (η7 [])++rows').drop ((k+1+1)*8)=rows'.drop ((k+1)*8):=by
   rw [show (k+1+1)*8=(rnV r (η5 []) (η7 [])).length+(k+1)*8 by rw [show (rnV r (η5 []) (η7 [])).length=8 from rfl];omega];exact List.drop_length_add_append _
  rw [h,e1,e2,List.eraseIdx_cons_succ];refine ⟨η5,η7,_,by rw [List.append_assoc],h5,h7,?_,?_,?_⟩
  ·dsimp only;rw [if_pos (by omega)];exact f0
  ·dsimp only;rw [if_pos (by omega)];exact f1
  ·have:(fun j=>fam (if j+2<2*(k+1) then j+2 else j+2+2))=(fun j=>fam ((if j<2*k then j else j+2)+2)):=by
    funext j
    by_cases c:j<2*k
    ·rw [if_pos c,if_pos (by omega)]
    ·rw [if_neg c,if_neg (by omega)]
   rw [this];exact ih
theorem jpe {ob:Ob} {c:Nat} {d d':D} {η η':jp} (h:ob.own c=some (d,η)):(ob.putOwn c d' η').own c=some (d',η'):=by
 cases ob with
 |none=>simp [Ob.own] at h
 |loose e ε=>cases c with
  |zero=>rfl
  |succ c=>simp [Ob.own] at h
 |box b ty cs=>
  simp only [Ob.own] at h;split at h
  ·rename_i d0 η0 hc
   have:=(List.getElem?_eq_some_iff.1 hc).1;simp [Ob.own,Ob.putOwn,List.getElem?_set_self this]
  ·simp at h
theorem jsO {ob:Ob} {c:Nat} {d:D} {η:jp} (h:ob.own c=some (d,η)):ob.putOwn c d η=ob:=by
 cases ob with
 |none=>rfl
 |loose e ε=>cases c with
  |zero=>simp [Ob.own] at h;obtain ⟨rfl,rfl⟩:=h;rfl
  |succ c=>simp [Ob.own] at h
 |box b ty cs=>
  simp only [Ob.own] at h;split at h
  ·rename_i d0 η0 hc
   simp at h;obtain ⟨rfl,rfl⟩:=h;simp only [Ob.putOwn];rw [zT hc]
  ·simp at h
theorem jo7 {ob:Ob} {c:Nat} {d d':D} {η η':jp}:(ob.putOwn c d η).putOwn c d' η'=ob.putOwn c d' η':=by
 cases ob with
 |none=>rfl
 |loose e ε=>rfl
 |box b ty cs=>simp [Ob.putOwn,List.set_set]
theorem jkM {α:Type} {A B:List α} (k:Nat) (hk:k<B.length) (x:α):(A++B).set (A.length+k) x=A++B.set k x:=by
 rw [List.set_append_right _ _ (by omega),Nat.add_sub_cancel_left]
theorem jlt {α:Type} {A B:List α} (k:Nat):(A++B)[A.length+k]?=B[k]?:=by
 rw [List.getElem?_append_right (by omega),Nat.add_sub_cancel_left]
theorem jh5 {K:St→Prop} (g c:Nat):∀(l:List Rn) (pre:List D) (b:Nat) (s:St) (η:jp),(s.o g).own c=some (.sl 8 tRn (pre++l.flatMap jd),η)→g<b→(∀j,b≤j→s.o j=.none)→
 (∀(rows:List D) (fam:Nat→Ob) (η':jp),CutR l rows fam→η' []=η []→WkK ⟨s.t,fun j=>if b≤j then fam (j-b) else if j=g then (s.o g).putOwn c (.sl 8 tRn (pre++rows)) η' else s.o j⟩ K)→WkK s K
 |[],pre,b,s,η,ho,hg,hn,hK=>by
  have:=hK [] (fun _=>.none) η ⟨rfl,fun _=>rfl⟩ rfl
  have e:(⟨s.t,fun j=>if b≤j then Ob.none else if j=g then (s.o g).putOwn c (.sl 8 tRn (pre++[])) η else s.o j⟩:St)=s:=by
   have:(fun j=>if b≤j then Ob.none else if j=g then (s.o g).putOwn c (.sl 8 tRn (pre++[])) η else s.o j)=s.o:=by
    funext j
    by_cases h1:b≤j
    ·rw [if_pos h1,hn j h1]
    ·rw [if_neg h1]
     by_cases h2:j=g
     ·subst h2;rw [if_pos rfl];exact jsO ho
     ·rw [if_neg h2]
   rw [this]
  rwa [e] at this
 |r::l,pre,b,s,η,ho,hg,hn,hK=>by
  rw [List.flatMap_cons] at ho;have h8:(jd r).length=8:=rfl;refine jdO g c (pre.length+5) b (η:=η) (sz:=8) (tyo:=tRn) (cs:=r.plan.edges.flatMap jI) ho (by rw [jlt];rfl) (hn b (Nat.le_refl b)) (by omega) fun ηa ηA hA1 hA2 hA3=>?_
  rw [jkM 5 (by rw [List.length_append,h8];omega),List.set_append_left _ _ (by rw [h8];omega)]
  have hbg:b≠g:=by omega
  have hog:∀(x y:Ob),(((s.setO g x).setO b y).o g)=x:=fun x y=>by
   show (if g=b then y else if g=g then x else s.o g)=x
   rw [if_neg (by omega),if_pos rfl]
  have ho2:((((s.setO g ((s.o g).putOwn c (.sl 8 tRn (pre++((jd r).set 5 (.val (η [pre.length+5]))++l.flatMap jd))) ηA)).setO b (.loose (.sl 2 tEd (r.plan.edges.flatMap jI)) ηa)).o g)).own c=some (.sl 8 tRn (pre++((jd r).set 5 (.val (η [pre.length+5]))++l.flatMap jd)),ηA):=by
   rw [hog];exact jpe ho
  refine jdO g c (pre.length+7) (b+1) (η:=ηA) (sz:=8) (tyo:=tRn) (cs:=r.tasks.flatMap jn) ho2 (by rw [jlt];rfl) (by
   show (if b+1=b then _ else if b+1=g then _ else s.o (b+1))=_
   rw [if_neg (by omega),if_neg (by omega)];exact hn _ (by omega)) (by omega) fun ηb ηB hB1 hB2 hB3=>?_
  rw [hog,jo7,jkM 7 (by rw [List.length_append,List.length_set,h8];omega),List.set_append_left _ _ (by rw [List.length_set,h8];omega)]
  rw [←hA2] at hA3⊢;rw [←hB2] at hB3⊢;have hV:((jd r).set 5 (.val (ηa []))).set 7 (.val (ηb []))=rnV r (ηa []) (ηb []):=rfl;rw [hV];obtain ⟨s2,hs2⟩:∃s2,(((s.setO g ((s.o g).putOwn c (.sl 8 tRn (pre++((jd r).set 5 (.val (ηa []))++l.flatMap jd))) ηA)).setO b (.loose (.sl 2 tEd (r.plan.edges.flatMap jI)) ηa)).setO g ((s.o g).putOwn c (.sl 8 tRn (pre++(rnV r (ηa []) (ηb [])++l.flatMap jd))) ηB)).setO (b+1) (.loose (.sl 4 tTk (r.tasks.flatMap jn)) ηb)=s2:=⟨_,rfl⟩;rw [hs2]
  have q0:s2.o g=(s.o g).putOwn c (.sl 8 tRn (pre++(rnV r (ηa []) (ηb [])++l.flatMap jd))) ηB:=by
   rw [←hs2];show (if g=b+1 then _ else if g=g then _ else _)=_
   rw [if_neg (by omega),if_pos rfl]
  have q1:s2.o b=.loose (jB r.plan.edges) ηa:=by
   rw [←hs2];show (if b=b+1 then _ else if b=g then _ else if b=b then _ else _)=_
   rw [if_neg (by omega),if_neg (by omega),if_pos rfl];rfl
  have q2:s2.o (b+1)=.loose (jw r.tasks) ηb:=by
   rw [←hs2];show (if b+1=b+1 then _ else _)=_
   rw [if_pos rfl];rfl
  have q3:∀j,j≠g→j≠b→j≠b+1→s2.o j=s.o j:=fun j n1 n2 n3=>by
   rw [←hs2];show (if j=b+1 then _ else if j=g then _ else if j=b then _ else if j=g then _ else s.o j)=_
   rw [if_neg n3,if_neg n1,if_neg n2,if_neg n1]
  have qt:s2.t=s.t:=by rw [←hs2];rfl
  refine jh5 g c l (pre++rnV r (ηa []) (ηb [])) (b+2) s2 ηB (by rw [q0,List.append_assoc];exact jpe ho) (by omega) (fun j hj=>by rw [q3 j (by omega) (by omega) (by omega)];exact hn j (by omega)) fun rows fam η' hcr hη=>?_
  have:=hK (rnV r (ηa []) (ηb [])++rows) (fun j=>if j=0 then .loose (jB r.plan.edges) ηa else if j=1 then .loose (jw r.tasks) ηb else fam (j-2)) η' ⟨ηa,ηb,rows,rfl,hA3,hB3,rfl,rfl,hcr⟩ (by rw [hη,hB1,hA1])
  have e:(fun j=>if b+2≤j then fam (j-(b+2)) else if j=g then (s2.o g).putOwn c (.sl 8 tRn (pre++rnV r (ηa []) (ηb [])++rows)) η' else s2.o j)=(fun j=>if b≤j then (if j-b=0 then Ob.loose (jB r.plan.edges) ηa else if j-b=1 then .loose (jw r.tasks) ηb else fam (j-b-2)) else if j=g then (s.o g).putOwn c (.sl 8 tRn (pre++(rnV r (ηa []) (ηb [])++rows))) η' else s.o j):=by
   funext j
   by_cases c1:b+2≤j
   ·rw [if_pos c1,if_pos (by omega),if_neg (by omega),if_neg (by omega),show j-(b+2)=j-b-2 by omega]
   ·rw [if_neg c1]
    by_cases c2:j=b
    ·subst c2;rw [if_neg (by omega),if_pos (Nat.le_refl _),if_pos (by omega),q1]
    ·by_cases c3:j=b+1
     ·subst c3;rw [if_neg (by omega),if_pos (by omega),if_neg (by omega),if_pos (by omega),q2]
     ·by_cases c4:j=g
      ·subst c4;rw [if_pos rfl,if_neg (by omega),if_pos rfl,q0,jo7,List.append_assoc]
      ·rw [if_neg c4,if_neg (by omega),if_neg c4,q3 j c4 c2 c3]
  rw [qt,e];exact this
theorem jdN {K:St→Prop} (g c:Nat):∀(l:List Rn) (pre:List D) (b:Nat) (s:St) (η:jp) (rows:List D) (fam:Nat→Ob),CutR l rows fam→(s.o g).own c=some (.sl 8 tRn (pre++rows),η)→g<b→(∀j,b≤j→s.o j=fam (j-b))→
 (∀η':jp,η' []=η []→WkK ⟨s.t,fun j=>if b≤j then .none else if j=g then (s.o g).putOwn c (.sl 8 tRn (pre++l.flatMap jd)) η' else s.o j⟩ K)→WkK s K
 |[],pre,b,s,η,_,fam,⟨rfl,hf⟩,ho,hg,hn,hK=>by
  have:=hK η rfl
  have e:(⟨s.t,fun j=>if b≤j then Ob.none else if j=g then (s.o g).putOwn c (.sl 8 tRn (pre++List.flatMap jd [])) η else s.o j⟩:St)=s:=by
   have:(fun j=>if b≤j then Ob.none else if j=g then (s.o g).putOwn c (.sl 8 tRn (pre++List.flatMap jd [])) η else s.o j)=s.o:=by
    funext j
    by_cases h1:b≤j
    ·rw [if_pos h1,hn j h1,hf]
    ·rw [if_neg h1]
     by_cases h2:j=g
     ·subst h2;rw [if_pos rfl];exact jsO ho
     ·rw [if_neg h2]
   rw [this]
  rwa [e] at this
 |r::l,pre,b,s,η,_,fam,⟨η5,η7,rows,rfl,h5,h7,f0,f1,hcr⟩,ho,hg,hn,hK=>by
  have h8:(rnV r (η5 []) (η7 [])).length=8:=rfl;have hb0:s.o b=.loose (.sl 2 tEd (r.plan.edges.flatMap jI)) η5:=by rw [hn b (Nat.le_refl b),Nat.sub_self,f0];rfl
  have hb1:s.o (b+1)=.loose (.sl 4 tTk (r.tasks.flatMap jn)) η7:=by rw [hn (b+1) (by omega),Nat.add_sub_cancel_left,f1];rfl
  refine qN g c (pre.length+5) b (η:=η) (η2:=η5) (sz:=8) (tyo:=tRn) (cs:=r.plan.edges.flatMap jI) ho (by rw [jlt];rfl) (.inl rfl) hb0 (by omega) fun ηA hA=>?_
  rw [jkM 5 (by rw [List.length_append,h8];omega),List.set_append_left _ _ (by rw [h8];omega)]
  have hog:∀(x:Ob),(((s.setO b .none).setO g x).o g)=x:=fun x=>by
   show (if g=g then x else _)=x
   rw [if_pos rfl]
  refine qN g c (pre.length+7) (b+1) (η:=ηA) (η2:=η7) (sz:=8) (tyo:=tRn) (cs:=r.tasks.flatMap jn) (by rw [hog];exact jpe ho) (by rw [jlt];rfl) (.inl rfl) (by
   show (if b+1=g then _ else if b+1=b then _ else s.o (b+1))=_
   rw [if_neg (by omega),if_neg (by omega)];exact hb1) (by omega) fun ηB hB=>?_
  rw [hog,jo7,jkM 7 (by rw [List.length_append,List.length_set,h8];omega),List.set_append_left _ _ (by rw [List.length_set,h8];omega)]
  have hV:(((rnV r (η5 []) (η7 [])).set 5 (.sl 2 tEd (r.plan.edges.flatMap jI))).set 7 (.sl 4 tTk (r.tasks.flatMap jn)))=jd r:=rfl;rw [hV];obtain ⟨s2,hs2⟩:∃s2,(((s.setO b .none).setO g ((s.o g).putOwn c (.sl 8 tRn (pre++((rnV r (η5 []) (η7 [])).set 5 (.sl 2 tEd (r.plan.edges.flatMap jI))++rows))) ηA)).setO (b+1) .none).setO g ((s.o g).putOwn c (.sl 8 tRn (pre++(jd r++rows))) ηB)=s2:=⟨_,rfl⟩;rw [hs2]
  have q0:s2.o g=(s.o g).putOwn c (.sl 8 tRn (pre++(jd r++rows))) ηB:=by
   rw [←hs2];show (if g=g then _ else _)=_
   rw [if_pos rfl]
  have q3:∀j,j≠g→j≠b→j≠b+1→s2.o j=s.o j:=fun j n1 n2 n3=>by
   rw [←hs2];show (if j=g then _ else if j=b+1 then _ else if j=g then _ else if j=b then _ else s.o j)=_
   rw [if_neg n1,if_neg n3,if_neg n1,if_neg n2]
  have q1:s2.o b=.none:=by
   rw [←hs2];show (if b=g then _ else if b=b+1 then _ else if b=g then _ else if b=b then _ else s.o b)=_
   rw [if_neg (by omega),if_neg (by omega),if_neg (by omega),if_pos rfl]
  have q2:s2.o (b+1)=.none:=by
   rw [←hs2];show (if b+1=g then _ else if b+1=b+1 then _ else _)=_
   rw [if_neg (by omega),if_pos rfl]
  have qt:s2.t=s.t:=by rw [←hs2];rfl
  refine jdN g c l (pre++jd r) (b+2) s2 ηB rows _ hcr (by rw [q0,List.append_assoc];exact jpe ho) (by omega) (fun j hj=>by rw [q3 j (by omega) (by omega) (by omega),hn j (by omega),show j-b=j-(b+2)+2 by omega]) fun η' hη=>?_
  have:=hK η' (by rw [hη,hB,hA])
  have e:(fun j=>if b+2≤j then Ob.none else if j=g then (s2.o g).putOwn c (.sl 8 tRn (pre++jd r++l.flatMap jd)) η' else s2.o j)=(fun j=>if b≤j then Ob.none else if j=g then (s.o g).putOwn c (.sl 8 tRn (pre++(r::l).flatMap jd)) η' else s.o j):=by
   funext j
   by_cases c1:b+2≤j
   ·rw [if_pos c1,if_pos (by omega)]
   ·rw [if_neg c1]
    by_cases c2:j=b
    ·subst c2;rw [if_neg (by omega),if_pos (Nat.le_refl _),q1]
    ·by_cases c3:j=b+1
     ·subst c3;rw [if_neg (by omega),if_pos (by omega),q2]
     ·by_cases c4:j=g
      ·subst c4;rw [if_pos rfl,if_neg (by omega),if_pos rfl,q0,jo7,List.append_assoc,List.flatMap_cons]
      ·rw [if_neg c4,if_neg (by omega),if_neg c4,q3 j c4 c2 c3]
  rw [qt,e];exact this
def St.ofF (T:List (Nat×AV)) (O:List (Nat×Ob)) (b:Nat) (fam:Nat→Ob):St:=⟨lkT T,fun j=>if b≤j then fam (j-b) else lkO O j⟩
theorem ofF_t (T:List (Nat×AV)) (O:List (Nat×Ob)) (b:Nat) (fam:Nat→Ob) (n:Nat):(St.ofF T O b fam).t n=lkT T n:=(rfl)
theorem ofF_o (T:List (Nat×AV)) (O:List (Nat×Ob)) (b:Nat) (fam:Nat→Ob) (n:Nat):(St.ofF T O b fam).o n=if b≤n then fam (n-b) else lkO O n:=(rfl)
attribute [go_sem] ofF_t ofF_o
theorem jlQ {s:St} {T:List (Nat×AV)} {O:List (Nat×Ob)} {b:Nat} {fam:Nat→Ob} (ks:List (Option Nat)) (h:jyI s T∧jra s ks O) (hf:∀j,b≤j→s.o j=fam (j-b)) (hk:∀k∈jsa ks,k<b) (hn:jkt (jsa ks)=true:=by decide):Wk s (St.ofF T O b fam):=fun B N w0 w a F hr=>by
 have hob:=jv1 hr.ob h.2;have hdj:=jyF (ks:=ks) (O:=O) hr.dj (jeh hn);refine ⟨fun j=>if b≤j then F j else fp F ks O j,⟨hr.below,hr.hB,hr.df,hr.sz,jyH hr.sl h.1,fun g=>?_,fun g=>?_,fun g g' hne x hx hx'=>?_⟩,fun g x hx=>?_⟩
 ·by_cases c:b≤g
  ·simp only [St.ofF,if_pos c];rw [←hf g c];exact hr.ob g
  ·simp only [St.ofF,if_neg c];exact hob g
 ·by_cases c:b≤g
  ·simp only [if_pos c];exact hr.fr g
  ·simp only [if_neg c];exact jyE hr.fr ks O g
 ·by_cases c:b≤g
  ·simp only [if_pos c] at hx
   by_cases c':b≤g'
   ·simp only [if_pos c'] at hx';exact hr.dj g g' hne x hx hx'
   ·simp only [if_neg c'] at hx'
    obtain ⟨k,h1,h2⟩:=jkk hx';exact hr.dj g k (by have:=hk k h1;omega) x hx h2
  ·simp only [if_neg c] at hx
   by_cases c':b≤g'
   ·simp only [if_pos c'] at hx'
    obtain ⟨k,h1,h2⟩:=jkk hx;exact hr.dj k g' (by have:=hk k h1;omega) x h2 hx'
   ·simp only [if_neg c'] at hx';exact hdj g g' hne x hx hx'
 ·by_cases c:b≤g
  ·simp only [if_pos c] at hx;exact ⟨g,hx⟩
  ·simp only [if_neg c] at hx
   obtain ⟨k,_,h2⟩:=jkk hx;exact ⟨k,h2⟩
theorem jlR {s:St} {b:Nat} {fam:Nat→Ob} (ρ:Nat→Nat) (hρ:∀i j,ρ i=ρ j→i=j) (hf:∀j,b≤j→s.o j=fam (j-b)):Wk s ⟨s.t,fun j=>if b≤j then fam (ρ (j-b)) else s.o j⟩:=fun B N w0 w a F hr=>by
 refine ⟨fun j=>if b≤j then F (b+ρ (j-b)) else F j,⟨hr.below,hr.hB,hr.df,hr.sz,hr.sl,fun g=>?_,fun g=>?_,fun g g' hne x hx hx'=>?_⟩,fun g x hx=>?_⟩
 ·by_cases c:b≤g
  ·simp only [if_pos c]
   have:=hr.ob (b+ρ (g-b))
   rwa [hf _ (Nat.le_add_right _ _),Nat.add_sub_cancel_left] at this
  ·simp only [if_neg c];exact hr.ob g
 ·by_cases c:b≤g
  ·simp only [if_pos c];exact hr.fr _
  ·simp only [if_neg c];exact hr.fr g
 ·by_cases c:b≤g
  ·simp only [if_pos c] at hx
   by_cases c':b≤g'
   ·simp only [if_pos c'] at hx'
    exact hr.dj _ _ (fun e=>hne (by have:=hρ _ _ (Nat.add_left_cancel e);omega)) x hx hx'
   ·simp only [if_neg c'] at hx';exact hr.dj _ _ (by omega) x hx hx'
  ·simp only [if_neg c] at hx
   by_cases c':b≤g'
   ·simp only [if_pos c'] at hx';exact hr.dj _ _ (by omega) x hx hx'
   ·simp only [if_neg c'] at hx';exact hr.dj _ _ hne x hx hx'
 ·by_cases c:b≤g
  ·simp only [if_pos c] at hx;exact ⟨_,hx⟩
  ·simp only [if_neg c] at hx;exact ⟨g,hx⟩
open Go.RowKit Go.Sort Go.Lib
abbrev fDel:FuncId:=146
theorem jkN {P:Program} (w:World) (t e ty:TypeId) (z:Value) (ht:P.underlying t=some (.slice e)) (hv:∀w,(zeroValue e).run P w=.ok z w) (h1:∀v∈z.cells.toList,v.oneCell'=true) (hs:z.cells.size=8) (b o c:Nat)
 (hc:∀j,j<8→(w.cell? ⟨b,o+j,none⟩).isSome=true) (hf:∀j,j<8→w.frozen? ⟨b,o+j,none⟩=false):
 (Builtin.clear_ #[t] ty #[.slice (some ⟨b,o,none⟩) 1 c]).run P w=.ok (.tuple #[]) (w.setCells b o z.cells.toList):=by
 have hzc:(Builtin.zeroCells z.cells 1).toList=z.cells.toList:=by
  simp only [Builtin.zeroCells,Nat.one_mul]
  apply List.ext_getElem
  ·simp
  ·intro i h1 h2
   have:i<z.cells.size:=by simpa using h2
   simp [Nat.mod_eq_of_lt this];exact getElem!_pos z.cells i this
 have hst:=run_storeCells_cells (P:=P) b o z.cells.toList 0 w (by simpa [hs] using hc) (by simpa [hs] using hf) h1
 simp only [Nat.add_zero] at hst;simp [Builtin.clear_,run_underlying ht,hv,hzc,hst]
abbrev zRnL:List Value:=[.int .i64 0,.int .i64 0,.int .i64 0,.int .i64 0,.int .i64 0,.slice none 0 0,.int .i64 0,.slice none 0 0]
theorem jyR (b n c k:Nat) (cs:List Value) (w:World) (hk:k<n) (hnc:n≤c) (hc63:c≤9223372036854775807) (hcl:cs.length=n*8)
 (hcs:∀j v,cs[j]?=some v→w.cell? ⟨b,j,none⟩=some v) (hfz:∀j,w.frozen? ⟨b,j,none⟩=false) (h1c:∀v∈cs,v.oneCell'=true):
 Calls Tryz.prog fDel #[.slice (some ⟨b,0,none⟩) n c,.int .i64 k,.int .i64 ((k:Int)+1)] w fun e w'=>
  e=.returned (.slice (some ⟨b,0,none⟩) (n-1) c)∧w'=(w.drew.setCells b (k*8) (cs.drop ((k+1)*8))).setCells b ((n-1)*8) zRnL:=by
 have mixed:Tryz.prog.follows .mixedOrders=true:=by kernel_rfl
 have t22:=Tryz.underlying35;have a22:=Tryz.isAgg35;have z22:=Tryz.sizeOf35;have u3:=Tryz.underlying3;have a3:=Tryz.isAgg3;have z3:=Tryz.sizeOf3;have u4:=Tryz.underlying4;have z23:=Tryz.sizeOf108;have hu:Tryz.prog.underlying jzl=some (.slice tRn):=slRn.1;obtain ⟨i0,zv,hi0,hz0,hzc,hzs,hzb⟩:=slRn.info;obtain ⟨news,hnews⟩:∃news,news=cs.drop ((k+1)*8):=⟨_,rfl⟩;have hlen:news.length=(n-(k+1))*8:=by rw [hnews,List.length_drop,hcl];omega
 have hget:∀t u,news[t]?=some u→w.cell? ⟨b,(k+1)*8+t,none⟩=some u:=fun t u hu=>by
  rw [hnews,List.getElem?_drop] at hu;exact hcs _ u hu
 obtain ⟨A,hA,hsrc⟩:∃A:Addr,(if c=k+1 then some (⟨b,0,none⟩:Addr) else some ⟨b,(k+1)*8,none⟩)=some A∧Hid (∀t u,news[t]?=some u→w.drew.cell? (A.add t)=some u):=by
  by_cases h:c=k+1
  ·refine ⟨⟨b,0,none⟩,by simp [h],fun t u hu=>?_⟩
   have h0:news.length=0:=by rw [hlen];omega
   rw [List.length_eq_zero_iff.1 h0] at hu;simp at hu
  ·refine ⟨⟨b,(k+1)*8,none⟩,by simp [h],fun t u hu=>?_⟩
   rw [Addr.add_lit];exact hget t u hu
 have s1:Hid (news.length=(n-(k+1))*8):=hlen;have s2:Hid (∀u∈news,u.oneCell'=true):=fun u hu=>by rw [hnews] at hu;exact h1c u (List.mem_of_mem_drop hu)
 have hsome:∀j,j<n*8→(w.cell? ⟨b,j,none⟩).isSome=true:=fun j hj=>by rw [hcs j _ (List.getElem?_eq_getElem (by omega))];rfl
 have s3:Hid (∀t,t<news.length→(w.drew.cell? ⟨b,0+k*8+t,none⟩).isSome=true∧w.drew.frozen? ⟨b,0+k*8+t,none⟩=false):=fun t ht=>by
  rw [hlen] at ht;exact ⟨hsome _ (by omega),hfz _⟩
 obtain ⟨W1,hW1⟩:∃W1,W1=w.drew.setCells b (0+k*8) news:=⟨_,rfl⟩
 have hsome1:∀j,j<n*8→(W1.cell? ⟨b,j,none⟩).isSome=true:=fun j hj=>by
  rw [hW1];exact isSome_setCells b news (0+k*8) w.drew (fun t ht=>hsome _ (by omega)) j (hsome j hj)
 have hz:∀w,(zeroValue tRn).run Tryz.prog w=.ok zv w:=fun w=>by simp [zeroValue,typeInfo,hi0,hz0]
 have hzl:zv.cells.toList=zRnL:=by rw [hzc]
 have hcl2:∀ty q,(Builtin.clear_ #[jzl] ty #[.slice (some ⟨b,(k+(n-(k+1)))*8,none⟩) 1 q]).run Tryz.prog W1=.ok (.tuple #[]) (W1.setCells b ((k+(n-(k+1)))*8) zRnL):=fun ty q=>by
  rw [←hzl];exact jkN W1 jzl tRn ty zv hu hz (by rw [hzl];decide) (by rw [hzc];rfl) b _ q (fun j hj=>hsome1 _ (by omega)) (fun j hj=>by rw [hW1,World.frozen?_setCells];exact hfz _)
 have hW:Hid (W1=w.drew.setCells b (0+k*8) news):=hW1;have hkc:k≤c:=by omega
 have hjc:k+1≤c:=by omega
 have hne:¬((k:Int)=(k:Int)+1):=by omega
 have hb1:(0:Int)≤(k:Int)+1:=by omega
 have hb2:(k:Int)≤(n:Int):=by omega
 have hb3:(k:Int)+1≤(n:Int):=by omega
 have hb4:(k:Int)≤(k:Int)+1:=by omega
 have htn:((k:Int)+1).toNat=k+1:=by omega
 have hkn:k≤n:=by omega
 have hjn:k+1≤n:=hk;have h1n:n-(k+(n-(k+1)))=1:=by omega
 clear hW1 hsome1 hget hlen hsome hcs
 go_enter Tryz.func146,Tryz.ntmps146
 go_wp2_with fail
 go_region_law_o (refine step_append_room rfl (.tmp 22) (.tmp 25) jzl rfl tRn i0 8 hu hi0 hzs b 0 k c (by simp [Act.eval,Act.put]) A (n-(k+1)) (c-(k+1)) news (by simp [Act.eval,Act.put,hA]) s1.out hsrc.out s2.out (by omega) s3.out ?_;rw [←hW.out])
 go_wp2
 go_ret
 have e1:k+(n-(k+1))=n-1:=by omega
 refine ⟨by rw [e1];rfl,?_⟩
 rw [hW.out,hnews,e1,Nat.zero_add]
def jlW:D→Value
 |.val u=>u
 |.sl _ _ _=>undef
theorem jw0:∀{ds:List D} {w:World} {own:Bool} {vs:List Value} {S:List Nat},jV ds=true→RepL w own ds vs S→vs=ds.map jlW∧S=[]
 |[],_,_,_,_,_,⟨h1,h2⟩=>⟨h1,h2⟩
 |.sl _ _ _::_,_,_,_,_,h,_=>by cases h
 |.val u::ds,w,own,_,_,h,⟨v,vs',S1,S2,rfl,rfl,⟨h1,h2⟩,h3⟩=>by
  simp only [jV,Bool.and_eq_true] at h;obtain ⟨k1,k2⟩:=jw0 h.2 h3;subst h1 h2 k1 k2;exact ⟨rfl,rfl⟩
theorem d_mk (w:World) (own:Bool):∀{ds:List D},jV ds=true→RepL w own ds (ds.map jlW) []
 |[],_=>⟨rfl,rfl⟩
 |.sl _ _ _::_,h=>by cases h
 |.val u::ds,h=>by
  simp only [jV,Bool.and_eq_true] at h;exact ⟨u,ds.map jlW,[],[],rfl,rfl,⟨rfl,rfl⟩,d_mk w own h.2⟩
theorem jA9:∀{ds:List D},jV ds=true→∀v∈ds.map jlW,v.oneCell'=true
 |[],_,_,hv=>by simp at hv
 |.sl _ _ _::_,h,_,_=>by cases h
 |.val u::ds,h,v,hv=>by
  simp only [jV,Bool.and_eq_true] at h;rcases List.mem_cons.1 hv with rfl|hv
  ·exact h.1
  ·exact jA9 h.2 v hv
theorem juV (rows:List D) (n k:Nat) (hf:jV rows=true) (hf2:jV (rows.take (k*8)++rows.drop ((k+1)*8))=true) (hl:rows.length=n*8) (hk:k<n) {o:Nat→Ob} {g:Nat} {η:jp} (ho:o g=.loose (.sl 8 tRn rows) η):
 Turns Tryz.prog fDel [.c (.v (η [])),.c (.v (.int .i64 k)),.c (.v (.int .i64 ((k:Int)+1)))] o (fun rt o'=>rt=.c (.sl 8 tRn (rows.take (k*8)++rows.drop ((k+1)*8)))∧o'=fun j=>if j=g then .none else o j):=
 ⟨⟨_,Tryz.func146,by kernel_rfl,by kernel_rfl⟩,fun B w F xs hR hxs=>by
   obtain ⟨x,xs1,rfl,rfl,_,xs2,rfl,rfl,x2,xs3,rfl,rfl,rfl⟩:=hxs;have h1:=hR.ob g;simp only at h1;rw [ho] at h1;obtain ⟨_,u,r1,e1⟩:=h1;have q1:η []=u:=e1 [];rw [q1];have hB:B≤w.heap.size:=Nat.le_trans hR.hB hR.below.size;have hF1:=hR.fr g;have hlt:∀k,∀b∈F k,b<w.heap.size:=fun k b hb=>(hR.ob k).lt b hb
   obtain ⟨vs,T,S',hrow,hrl,hS⟩:=r1;obtain ⟨rfl,rfl⟩:=jw0 hf hrl;have hv1:=jA9 hf;have hvl:(rows.map jlW).length=n*8:=by rw [List.length_map,hl]
   generalize hvs:rows.map jlW=vs at*;obtain ⟨m,hrow,rfl⟩:=hrow;rcases hrow.2 with ⟨_,h0⟩|⟨b,c,cu,rfl,_,hbc,hc1,hc2,hc3,hc4⟩
   ·have:=hrow.1;omega
   have hmn:m=n:=by have:=hrow.1;omega
   subst hmn;have hFg:F g=[b]:=by rw [hS];simp [blk]
   have hbB:B≤b:=hF1.2 b (by rw [hFg];simp)
   have hcs:∀j v,vs[j]?=some v→w.cell? ⟨b,j,none⟩=some v:=fun j v hj=>by
    rw [jlK hbc,←Array.getElem?_toList];exact jkE hc4 hj
   obtain ⟨_,sb2⟩:=jkL hbc;have hcul:cu.toList.length=c*8:=by simpa using hc3
   refine (jyR b m c k vs w hk hc1 (by unfold maxLen at hc2;omega) hvl hcs sb2 hv1).mono ?_
   rintro en w' ⟨rfl,rfl⟩;have hcu:w.drew.heap[b]?=some (.cells cu.toList.toArray tRn (0,0)):=by rw [Array.toArray_toList];exact hbc
   have hdl:(vs.drop ((k+1)*8)).length=(m-(k+1))*8:=by rw [List.length_drop,hvl];omega
   obtain ⟨w1,w2⟩:=qo (vs.drop ((k+1)*8)) w.drew b (k*8) cu.toList tRn hcu;obtain ⟨w3,w4⟩:=qo zRnL _ b ((m-1)*8) _ tRn w1;have s1:=kJ (vs.drop ((k+1)*8)) w.drew b (k*8);have s2:=kJ zRnL (w.drew.setCells b (k*8) (vs.drop ((k+1)*8))) b ((m-1)*8);have hmc:m*8≤c*8:=by omega
   have hA:kz cu.toList (k*8) (vs.drop ((k+1)*8))=cu.toList.take (k*8)++vs.drop ((k+1)*8)++cu.toList.drop (k*8+(vs.drop ((k+1)*8)).length):=kQ _ _ _ (by rw [hdl,hcul];omega)
   have hAl:(kz cu.toList (k*8) (vs.drop ((k+1)*8))).length=c*8:=by
    rw [hA];simp only [List.length_append,List.length_take,List.length_drop,hcul,hvl];omega
   have hz8:zRnL.length=8:=rfl;have hBz:kz (kz cu.toList (k*8) (vs.drop ((k+1)*8))) ((m-1)*8) zRnL=(kz cu.toList (k*8) (vs.drop ((k+1)*8))).take ((m-1)*8)++zRnL++(kz cu.toList (k*8) (vs.drop ((k+1)*8))).drop ((m-1)*8+zRnL.length):=kQ _ _ _ (by rw [hz8,hAl];omega)
   have hct:cu.toList.take (k*8)=vs.take (k*8):=by rw [←hc4,List.take_take,Nat.min_eq_left (by omega)]
   have hvn:(rows.take (k*8)++rows.drop ((k+1)*8)).map jlW=vs.take (k*8)++vs.drop ((k+1)*8):=by rw [List.map_append,List.map_take,List.map_drop,hvs]
   have hnl:(vs.take (k*8)++vs.drop ((k+1)*8)).length=(m-1)*8:=by rw [List.length_append,List.length_take,hdl,hvl];omega
   have htk:(kz (kz cu.toList (k*8) (vs.drop ((k+1)*8))) ((m-1)*8) zRnL).take ((m-1)*8)=vs.take (k*8)++vs.drop ((k+1)*8):=by
    rw [hBz,List.append_assoc,List.take_append_of_le_length (by rw [List.length_take,hAl];omega),List.take_take,Nat.min_self,hA,hct]
    exact List.take_left' hnl
   have hfl:(kz (kz cu.toList (k*8) (vs.drop ((k+1)*8))) ((m-1)*8) zRnL).length=c*8:=by
    rw [hBz];simp only [List.length_append,List.length_take,List.length_drop,hAl,hz8];omega
   generalize kz (kz cu.toList (k*8) (vs.drop ((k+1)*8))) ((m-1)*8) zRnL=us at*
   have hon:Only [b] w ((w.drew.setCells b (k*8) (vs.drop ((k+1)*8))).setCells b ((m-1)*8) zRnL):=⟨by rw [s2.1,s1.1];rfl,by rw [s2.2.1,s1.2.1];rfl,by rw [s2.2.2.1,s1.2.2.1];rfl,by rw [s2.2.2.2,s1.2.2.2];exact Nat.le_refl _,fun q hq hqn=>by
    have hqb:q≠b:=by simpa using hqn
    rw [w4 q hqb,w2 q hqb];rfl⟩
   have t1:=hR.setO (g:=g) (ob:=.none) (S:=[]) rfl (Fresh.nil _) (by simp)
   have t2:=t1.world' (hon.below (fun s hs=>by simp at hs;omega) hB) fun q x hx=>by
    split at hx
    ·simp at hx
    ·rename_i hq
     exact hon.block x (hlt q x hx) fun h=>hR.dj q g hq x hx (by rw [hFg];exact h)
   refine ⟨_,.c (.sl 8 tRn (rows.take (k*8)++rows.drop ((k+1)*8))),_,[b],_,rfl,t2,?_,Fresh.one _ _ hbB,fun q x hx=>?_,rfl,rfl⟩
   ·refine ⟨(rows.take (k*8)++rows.drop ((k+1)*8)).map jlW,[b],[],⟨m-1,⟨?_,.inr ⟨b,c,us.toArray,rfl,Nat.zero_le _,w3,by omega,hc2,by simpa using hfl,?_⟩⟩,rfl⟩,d_mk _ _ hf2,by simp⟩
    ·rw [hvn,hnl]
    ·rw [hvn];simpa [hnl] using htk
   ·split
    ·simp
    ·rename_i hq
     intro hx';simp at hx;subst hx;exact hR.dj q g hq x hx' (by rw [hFg];simp)⟩
theorem jdP {α:Type} (f:α→Nat) (m:Nat):∀l:List α,(∀x∈l,f x≤m)→kj f l≤m*l.length
 |[],_=>by simp [kj]
 |x::l,h=>by
  have h1:=h x (by simp)
  have h2:=jdP f m l fun x hx=>h x (by simp [hx])
  simp only [kj,List.map_cons,List.sum_cons,List.length_cons,Nat.mul_succ] at h2⊢;omega
theorem YardOkP.small {y:Yd} (h:YardOkP y):jt y≤700:=by
 have h1:=jdP kO 80 y.shelf fun l hl=>(h.shelves l hl).most
 have h2:=jdP kn 42 y.runs fun r hr=>by
  have hR:=h.right r hr;obtain ⟨n,hn,_,h12,h30,_⟩:=jjh hR.plan;have:=hR.len;have h30':r.plan.edges.length≤30:=h30;simp only [kn,zR];omega
 have h3:=h.four;have h4:=h.eight;simp only [jt,vP,qA];omega
end Go.Proofs.YtmnpailnelmpiaaGreat
