/- Parts. -/
import Derived.Test.YtmnpailnelmpiaaGreatQFailsEp
set_option linter.unusedSimpArgs false
set_option linter.unusedVariables false
set_option maxHeartbeats 8000000
set_option maxRecDepth 100000
namespace Go.Proofs.YtmnpailnelmpiaaGreat
open Go.RowKit Go.Sort
theorem jmJ (now:Int) (r:Rn):∀(ts:List Tk) (k:Nat) (l:List Int),l∈zX now r k ts→∃(t:Nat) (x:Tk),ts[t]?=some x∧x.state=3∧l=[r.id,((k+t:Nat):Int),x.tri]
 |[],_,_,h=>by simp [zX] at h
 |z::ts,k,l,h=>by
  rw [zX] at h;rcases List.mem_append.1 h with h|h
  ·unfold jau at h
   split at h
   ·rename_i hc
    simp at h;simp only [Bool.and_eq_true,beq_iff_eq] at hc;exact ⟨0,z,rfl,hc.1,by rw [h];rfl⟩
   ·simp at h
  ·obtain ⟨t,x,h1,h2,h3⟩:=jmJ now r ts (k+1) l h
   exact ⟨t+1,x,by simpa using h1,h2,by rw [h3,Nat.add_right_comm,Nat.add_assoc]⟩
theorem jpl {y:Yd} (hP:YardOkP y) {l:List Int} (h:l∈kN y):∃(k t:Nat) (r:Rn) (x:Tk),y.runs[k]?=some r∧r.tasks[t]?=some x∧runAt y r.id=k∧x.state=3∧l=[r.id,(t:Int),x.tri]:=by
 obtain ⟨r,hr,hl⟩:=List.mem_flatMap.1 h;obtain ⟨k,hk,rfl⟩:=List.getElem_of_mem hr;have hk2:y.runs[k]?=some y.runs[k]:=List.getElem?_eq_getElem hk;obtain ⟨t,x,h1,h2,h3⟩:=jmJ _ _ _ _ _ hl;exact ⟨k,t,_,x,hk2,h1,hP.place k _ hk2,h2,by rw [h3,Nat.zero_add]⟩
theorem jod {y:Yd} (hP:YardOkP y):(kN y).length≤96:=by
 have h:∀l:List Rn,(∀r∈l,r.tasks.length≤12)→(l.flatMap fun r=>zX y.now r 0 r.tasks).length≤12*l.length:=by
  intro l
  induction l with
  |nil=>intro;simp
  |cons r l ih=>
   intro h;have h1:=h r (by simp)
   have h2:=ih fun r hr=>h r (by simp [hr])
   have h3:=jeF y.now r r.tasks 0;simp only [List.flatMap_cons,List.length_append,List.length_cons] at h2⊢;omega
 have h1:=h y.runs fun r hr=>(hP.right r hr).le12
 have h2:=hP.eight;have e:(kN y).length=(y.runs.flatMap fun r=>zX y.now r 0 r.tasks).length:=rfl
 omega
noncomputable def ju2 (z:Yd) (l:List Int):Yd:=jaM z (runAt z (l.headD 0)).toNat (l.tail.headD 0).toNat
noncomputable def vr (y:Yd) (i:Nat):Yd:=((kN y).take i).foldl ju2 y
noncomputable def jaS (y:Yd):Int:=if jD y=false then 8 else if y.now+1>999999980 then 7 else 0
noncomputable def jbN (y:Yd):Yd:=if jaS y=0 then ⟨y.now+1,(vr y (kN y).length).seq,(vr y (kN y).length).shelf,(vr y (kN y).length).runs⟩ else y
theorem jnA {y:Yd} {i:Nat} {l:List Int} (h:(kN y)[i]?=some l):vr y (i+1)=ju2 (vr y i) l:=by
 rw [vr,List.take_add_one,h,List.foldl_append];rfl
theorem jcD {y:Yd} (hP:YardOkP y):∀i,StepI y (vr y i) i
 |0=>.refl hP
 |i+1=>by
  have ih:=jcD hP i;cases h:(kN y)[i]? with
  |none=>
   have:vr y (i+1)=vr y i:=by rw [vr,vr,List.take_add_one,h];simp
   rw [this];exact ih.mono (Nat.le_succ i)
  |some l=>rw [jnA h];exact ih.fail _ _
section
variable {L:List (List Int)} {i:Nat} {l:List Int}
theorem joo (h:L[i]?=some l):D.get [i] (qC L)=some (jh l):=by
 have e:L.flatMap (fun es=>[jh es])=L.map jh:=by clear h;induction L<;>simp_all
 simp [qC,D.get,e,h,jcb]
theorem jun (h:L[i]?=some l):((L.flatMap fun es=>[jh es]).drop i).take 1=[jh l]:=by have:=juo h;rwa [Nat.mul_one] at this
theorem jtw (h:L[i]?=some l):i+1≤(L.flatMap fun es=>[jh es]).length:=by have:=jtx (List.getElem?_eq_some_iff.1 h).1;rwa [Nat.mul_one] at this
end
theorem jlS {y:Yd} (h:YardOkP y):wfL y:=by
 refine ⟨by have:=h.now;simp only [inR];omega,fun r hr x hx=>?_⟩
 obtain ⟨k,hk,rfl⟩:=List.getElem_of_mem hx;have h1:=taskB_iff.1 ((h.right r hr).tasks k _ (List.getElem?_eq_getElem hk));have h2:=h1.2.2.2.1;unfold jbR at h2;split at h2
 ·simp only [inB,Bool.and_eq_true,decide_eq_true_eq] at h2;simp only [inR];omega
 ·have:r.tasks[k].til=0:=by simpa using h2
  simp only [inR];omega
def ji3:C:=iS [iA 1 (.box 37 4 (.t 0)),iA 2 (.alloc 37 [.int .i64 0,.int .i64 0,.slice none 0 0,.slice none 0 0]),iA 3 (iN 0)] (iS [iA 8 (iT 4 1),iA 9 (.call 105 [.t 8]),iA 4 (.alloc 37 [.int .i64 0,.int .i64 0,.slice none 0 0,.slice none 0 0]),iC (.st 4 [none,none,some (1,102),some (8,108)] (.t 4) (.t 9))] (.seq (iS [iA 10 (iT 4 1),iA 11 (.call 72 [.t 10]),iA 12 (iU 11)] (iD 12 (iS [iA 13 (iT 4 4),iC (.st 4 [none,none,some (1,102),some (8,108)] (.t 2) (.t 13)),iA 3 (iN 8)] .ret) .skip)) (.seq (iS [iA 14 (iF 0 1),iA 15 (iL 14),iA 16 (iQ .add 3 15 1),iA 17 (iQ .gtr 3 16 999999980)] (iD 17 (iS [iA 18 (iT 4 4),iC (.st 4 [none,none,some (1,102),some (8,108)] (.t 2) (.t 18)),iA 3 (iN 7)] .ret) .skip)) (iS [iA 19 (iT 4 1),iA 20 (.call 200 [.t 19]),iA 5 (iM 20)] (.seq (iS [iA 6 (iN 0)] (.blk 0 (.loop (.seq (iS [iA 21 (iM 6),iA 22 (iM 5),iA 23 (iG 22),iA 24 (iP .lss 3 21 23)] (iD 24 .skip (.exit 0))) (.seq (.blk 1 (.seq (.dreg (T.pure 0 (iA 27 (iT 4 4)) (T.pure 1 (iA 28 (iM 5)) (T.pure 2 (iA 29 (iM 6)) (T.pure 3 (iA 30 (iI 1 28 29)) (T.pure 4 (iA 31 (iL 30)) (T.pure 5 (iA 32 (.ia 1 (.t 31) (.c (.int .i64 0)))) (T.pure 6 (iA 33 (iL 32)) (T.alt (iA 34 (.call 152 [.t 27,.t 33])) [] (T.pure 8 (iA 7 (iM 34)) T.done) T.stop))))))))) (.seq (.dreg (T.pure 0 (iA 35 (iF 3 4)) (T.pure 1 (iA 36 (iL 35)) (T.pure 2 (iA 37 (iM 7)) (T.pure 3 (iA 38 (iI 8 36 37)) (T.pure 4 (iA 39 (iF 7 38)) (T.pure 5 (iA 40 (iL 39)) (T.pure 6 (iA 41 (iM 5)) (T.pure 7 (iA 42 (iM 6)) (T.pure 8 (iA 43 (iI 1 41 42)) (T.pure 9 (iA 44 (iL 43)) (T.pure 10 (iA 45 (.ia 1 (.t 44) (.c (.int .i64 1)))) (T.pure 11 (iA 46 (iL 45)) (T.pure 12 (iA 47 (iI 4 40 46)) (T.pure 13 (iA 48 (iF 0 47)) (T.pure 14 (iA 49 (iL 48)) (T.pure 15 (iA 50 (iQ .eql 3 49 3)) T.done))))))))))))))))) (iD 50 (.dreg (T.pure 0 (iA 51 (iT 4 4)) (T.pure 1 (iA 52 (iM 7)) (T.pure 2 (iA 53 (iF 3 4)) (T.pure 3 (iA 54 (iL 53)) (T.pure 4 (iA 55 (iM 7)) (T.pure 5 (iA 56 (iI 8 54 55)) (T.pure 6 (iA 57 (iT 8 56)) (T.pure 7 (iA 58 (iM 5)) (T.pure 8 (iA 59 (iM 6)) (T.pure 9 (iA 60 (iI 1 58 59)) (T.pure 10 (iA 61 (iL 60)) (T.pure 11 (iA 62 (.ia 1 (.t 61) (.c (.int .i64 1)))) (T.pure 12 (iA 63 (iL 62)) (T.alt (iA 64 (.call 199 [.t 57,.t 63])) [1,0] (T.alt (iA 65 (.call 197 [.t 51,.t 52,.t 64])) [] (T.alt (iC (.st 4 [none,none,some (1,102),some (8,108)] (.t 4) (.t 65))) [] T.done T.stop) T.stop) T.stop))))))))))))))) .skip)))) (.reg [iA 25 (iM 6),iA 26 (iQ .add 3 25 1),iA 6 (iM 26)])))))) (iS [iA 66 (iF 0 4),iA 67 (iL 66),iA 68 (iQ .add 3 67 1),iA 69 (iF 0 4),iC (.st 1 [none] (.t 69) (.t 68))] (iS [iA 70 (iT 4 4),iC (.st 4 [none,none,some (1,102),some (8,108)] (.t 2) (.t 70)),iA 3 (iN 0)] .ret)))))))
theorem jjH:fnC Tryz.prog Tryz.f110=some (ji3,[.cell 2 true 4,.t 3],71):=by kernel_rfl
def ji7:C:=iS [iA 1 (.box 37 4 (.t 0)),iA 2 (.alloc 37 [.int .i64 0,.int .i64 0,.slice none 0 0,.slice none 0 0]),iA 3 (iN 0)] (iS [iA 7 (iT 4 1),iA 8 (.call 118 [.t 7]),iA 4 (.alloc 37 [.int .i64 0,.int .i64 0,.slice none 0 0,.slice none 0 0]),iC (.st 4 [none,none,some (1,102),some (8,108)] (.t 4) (.t 8))] (.seq (.blk 0 (iS [iA 10 (iT 4 1),iA 11 (.call 59 [.t 10]),iA 12 (iU 11),iA 9 (iM 12)] (iD 9 (iS [iA 13 (iT 4 4),iC (.st 4 [none,none,some (1,102),some (8,108)] (.t 2) (.t 13)),iA 3 (iN 8)] .ret) (iS [iA 15 (iF 0 1),iA 16 (iL 15),iA 17 (iQ .add 3 16 1),iA 18 (iQ .gtr 3 17 999999980),iA 14 (iM 18)] (iD 14 (iS [iA 19 (iT 4 4),iC (.st 4 [none,none,some (1,102),some (8,108)] (.t 2) (.t 19)),iA 3 (iN 7)] .ret) .skip))))) (iS [iA 20 (iF 0 4),iA 21 (iL 20),iA 22 (iQ .add 3 21 1),iA 23 (iF 0 4),iC (.st 1 [none] (.t 23) (.t 22))] (.seq (iS [iA 24 (iT 4 1),iA 25 (.call 226 [.t 24]),iA 26 (iG 25),iA 27 (iN 0)] (.blk 1 (.loop (iS [iA 28 (iP .lss 3 27 26)] (.seq (iD 28 .skip (.exit 1)) (.seq (.blk 2 (iS [iA 29 (iI 1 25 27),iA 30 (iL 29),iA 6 (.alloc 104 [.slice none 0 0]),iC (.st 1 [some (1,3)] (.t 6) (.t 30))] (.seq (.dreg (T.pure 0 (iA 31 (iT 4 4)) (T.pure 1 (iA 32 (iL 6)) (T.pure 2 (iA 33 (.ia 1 (.t 32) (.c (.int .i64 0)))) (T.pure 3 (iA 34 (iL 33)) (T.pure 4 (iA 35 (iL 6)) (T.pure 5 (iA 36 (.ia 1 (.t 35) (.c (.int .i64 1)))) (T.pure 6 (iA 37 (iL 36)) (T.pure 7 (iA 38 (iL 6)) (T.pure 8 (iA 39 (.ia 1 (.t 38) (.c (.int .i64 2)))) (T.pure 9 (iA 40 (iL 39)) (T.alt (iA 41 (.call 227 [.t 31,.t 34,.t 37,.t 40])) [] T.done T.stop)))))))))))) (iD 41 (.dreg (T.pure 0 (iA 42 (iT 4 4)) (T.pure 1 (iA 43 (iL 6)) (T.pure 2 (iA 44 (.ia 1 (.t 43) (.c (.int .i64 0)))) (T.pure 3 (iA 45 (iL 44)) (T.pure 5 (iA 47 (.mkf 228 [.t 6])) (T.alt (iA 46 (.call 56 [.t 42,.t 45])) [5] (T.alt (iA 48 (.call 221 [.t 4,.t 46,.t 47])) [] T.done T.stop) T.stop))))))) .skip)))) (.reg [iA 49 (iQ .add 3 27 1),iA 27 (iM 49)]))))))) (iS [iA 50 (iT 4 4),iC (.st 4 [none,none,some (1,102),some (8,108)] (.t 2) (.t 50)),iA 3 (iN 0)] .ret)))))
theorem jjM:fnC Tryz.prog Tryz.f123=some (ji7,[.cell 2 true 4,.t 3],51):=by kernel_rfl
def jfq:C:=.reg [iA 3 (iM 0),iA 4 (iL 1),iA 5 (.ia 1 (.t 4) (.c (.int .i64 1))),iA 6 (iL 5),iA 7 (.call 225 [.t 3,.t 6])]
theorem jht:fnC Tryz.prog Tryz.f228=some (jfq,[],8):=by kernel_rfl
theorem jnU (y:Yd) (ht:jt y≤1990000):ka Tryz.prog 110 [.agg (jb y)] (.tup [(true,jb (jbN y)),(false,[.val (.int .i64 (jaS y))])]):=by
 refine jr Tryz.func110 jjH (by simp) ?_
 unfold ji3;have ht2:jt y≤2000000:=by omega
 simp only [go_sem,jb];intro b1 b2;refine jc (kg y ht2) (by simp only [go_sem,jb]) fun ηc=>?_
 simp only [go_sem,jb];intro b4;refine jc (qi y ht2) (by simp only [go_sem,jb]) fun η=>?_
 simp only [go_sem,jb];cases hok:jD y
 ·have hc:jaS y=8:=by simp [jaS,hok]
  have hy:jbN y=y:=by rw [jbN,if_neg (by rw [hc];decide)]
  simp only [go_sem,jb,hok,hc,hy];refine kZ _ _ _ _ _ ?_;simp only [go_sem,jb]
 have hP:=yard_iff.1 hok;have hnow:=hP.now;have hw1:IntKind.i64.wrap (y.now+1)=y.now+1:=jo (by omega) (by omega)
 by_cases hgt:y.now+1>999999980
 ·have hc:jaS y=7:=by rw [jaS,if_neg (by rw [hok];decide),if_pos hgt]
  have hy:jbN y=y:=by rw [jbN,if_neg (by rw [hc];decide)]
  simp only [go_sem,jb,hok,hw1,hgt,hc,hy];refine kZ _ _ _ _ _ ?_;simp only [go_sem,jb]
 have hc:jaS y=0:=by rw [jaS,if_neg (by rw [hok];decide),if_neg hgt]
 rw [hc,jbN,if_pos hc];simp only [go_sem,jb,hok,hw1,hgt];refine jc (jk0 y ht2 (jlS hP)) (by simp only [go_sem,jb]) fun ηl=>?_
 simp only [go_sem,jb];have h96:=jod hP;refine jq (fun i:Nat×jp×jp=>St.of [(2,Bx 92 b2),(4,Bx 90 b4),(5,Hd 93 (ηl 0)),(6,Ni i.1)] [(92,ZYd b2 tYd),(90,ky b4 tYd (vr y i.1).now (vr y i.1).seq (vr y i.1).shelf i.2.1 (vr y i.1).runs i.2.2),(93,.loose (qC (kN y)) (ηl 0))]) (fun i=>i.1≤(kN y).length) (fun i=>(kN y).length-i.1) (0,ηc 2,ηc 3) (by (try dsimp only);first|omega|(simp;done)|(and_intros<;>first|omega|simp)) (jk [some 200,some 400,some 2000] (by simp only [go_sem,jb,show vr y 0=y from rfl]<;>and_intros<;>first|rfl|assumption|trivial)) ?_
 rintro ⟨i,f2,f3⟩ hi;dsimp only at hi;have hJ:=jcD hP i;by_cases hlt:i<(kN y).length
 ·have hlt':(i:Int)<(kN y).length:=by omega
  have h0i:(i:Int)≥0:=by omega
  obtain ⟨l,hl⟩:=je hlt;obtain ⟨k,t,r0,x0,hr0,hx0,hra,hs0,hll⟩:=jpl hP (List.mem_of_getElem? hl);have hw:IntKind.i64.wrap ((i:Int)+1)=((i+1:Nat):Int):=jo (by omega) (by omega)
  have hnt:vr y (i+1)=jaM (vr y i) k t:=by rw [jnA hl,hll,ju2];simp only [List.headD_cons,List.tail_cons,hJ.later.runAt,hra,Int.toNat_natCast]
  generalize vr y i=z at*;obtain ⟨r,hr,hid,hpl,hR,hrl,hr3⟩:=hJ.later.runs k r0 hr0;have hkl:=(List.getElem?_eq_some_iff.1 hr).1;have h0k:(k:Int)≥0:=by omega
  have h12:=hR.le12;have htl:=(List.getElem?_eq_some_iff.1 hx0).1;have hlt3:t<r.tasks.length:=by omega
  have h0t:(t:Int)≥0:=by omega
  obtain ⟨x,hx⟩:=je hlt3;have hfy:jaM z k t=if x.state==3 then qd z k (jE r t) else z:=by rw [jaM,hr,Option.getD_some,vn hx]
  have hrz:runAt z r0.id=(k:Int):=by rw [hJ.later.runAt,hra]
  subst hll;simp only [go_sem,hlt',hlt,h0i,Nat.mul_one,jun hl,jtw hl,joo hl];refine jc (qj z r0.id) (by simp only [go_sem,jb]) fun η=>?_
  simp only [go_sem,jb];rw [hrz];simp only [go_sem,hlt',hlt,h0i,Nat.mul_one,jun hl,jtw hl,joo hl,Nat.add_zero,hkl,h0k,vi hr,vz hr,ki hr,hlt3,h0t,zN hx,vg hx];cases hs:x.state==3
  ·rw [hs,if_neg (by decide)] at hfy
   rw [hfy] at hnt;simp only [go_sem,hs,hw];exact ⟨(i+1,f2,f3),by (try dsimp only);first|omega|assumption|(and_intros<;>first|omega|assumption),(jk [some 92,some 90,some 93] (by simp only [go_sem,hnt]<;>and_intros<;>first|rfl|assumption|trivial)),by (try dsimp only);omega⟩
  ·rw [hs,if_pos rfl] at hfy
   rw [hfy] at hnt;simp only [go_sem,hs,hlt',hlt,h0i,Nat.mul_one,jun hl,jtw hl,joo hl,Nat.add_zero,hkl,h0k,jjQ hr,jeJ hr,jd,ja];refine jc (jah r t (by have:=jjh hR.plan;obtain ⟨n,_,_,_,h30,_⟩:=this;omega) (by omega)) (by simp only [go_sem,jd,ja,jZ hr,ko hr]) fun ηr=>?_
   simp only [go_sem,jd,ja,jZ hr,ko hr];have hl2:=qh r t;generalize jE r t=r2 at*;refine jbd [some 90,some 92,some 93,some 6405,some 6407] [(90,ky b4 tYd z.now z.seq z.shelf f2 z.runs f3),(92,ZYd b2 tYd),(93,.loose (qC (kN y)) (ηl 0)),(97,.loose (jB r2.plan.edges) (ηr 5)),(98,.loose (jw r2.tasks) (ηr 7))] [.agg [.v (.int .i64 z.now),.v (.int .i64 z.seq),.h 90 2 [] (f2 []),.h 90 3 [] (f3 [])],Ni k,.agg [.v (.int .i64 r2.id),.v (.int .i64 r2.plan.prio),.v (.int .i64 r2.plan.most),.v (.int .i64 r2.plan.wait),.v (.int .i64 r2.plan.tasks),.h 97 0 [] (ηr 5 []),.v (.int .i64 r2.state),.h 98 0 [] (ηr 7 [])]] (by simp only [go_sem]<;>and_intros<;>rfl) (by simp only [go_sem]<;>and_intros<;>rfl) (jeI hr hl2 h12 hJ.four (by have:=hJ.seq;omega) (by have:=hJ.tot;omega) rfl rfl rfl) ?_
   rintro _ o1 ⟨c,g2,g3,x2,x3,rfl,j99,j90,j91,j92,j93,j94,j95,j96⟩;have j92':o1 92=ZYd b2 tYd:=j92;have j93':o1 93=.loose (qC (kN y)) (ηl 0):=j93;generalize qd z k r2=z2 at*;simp only [go_sem,j99,j90,j92',hw];exact ⟨(i+1,g2,g3),by (try dsimp only);first|omega|assumption|(and_intros<;>first|omega|assumption),(jk [some 92,some 90,some 93] (by simp only [go_sem,hnt,j90,j92',j93']<;>and_intros<;>first|rfl|assumption|trivial)),by (try dsimp only);omega⟩
 have hlt':¬(i:Int)<(kN y).length:=by omega
 obtain rfl:i=(kN y).length:=by omega
 have hzn:=hJ.now;generalize vr y (kN y).length=z at*;have hw1z:IntKind.i64.wrap (z.now+1)=y.now+1:=by rw [hzn,hw1]
 simp only [go_sem,hlt',hw1z];refine kZ _ _ _ _ _ ?_;simp only [go_sem,jb]
section
variable {L:List (List Int)} {i:Nat} {d:D}
theorem jof (L:List (List Int)):(L.flatMap fun es=>[jh es]).length=L.length:=by rw [jG (enc:=fun es=>[jh es]) (size:=1) (fun _=>rfl),Nat.mul_one]
theorem jd1:((L.flatMap fun es=>[jh es]).set i d).length=L.length:=by rw [List.length_set,jof]
theorem jmN:(D.sl 1 tIs ((L.flatMap fun es=>[jh es]).set i d)).len=L.length:=by
 simp only [D.len,D.cells,D.size,jd1,Nat.div_one]
theorem jqY (h:i<L.length):(((L.flatMap fun es=>[jh es]).set i d).drop i).take 1=[d]:=by
 have hl:i<((L.flatMap fun es=>[jh es]).set i d).length:=by rw [jd1];exact h
 rw [List.drop_eq_getElem_cons hl,List.take_succ_cons,List.take_zero,List.getElem_set_self]
theorem jog {l:List Int} (h:L[i]?=some l):(L.flatMap fun es=>[jh es])[i]?=some (jh l):=by
 have e:L.flatMap (fun es=>[jh es])=L.map jh:=by clear h;induction L<;>simp_all
 simp [e,h]
end
theorem jt7 {k t b6:Nat} {y:Yd} {r:Rn} {id tri:Int} {η6:jp} (hr:y.runs[k]?=some r) (hrun:vW r t=true):juA Tryz.prog 228 [.bp 91 0 b6] (.box b6 tIs [.own (jh [id,(t:Int),tri]) η6]) k y (jE r t):=by
 intro o b e2 e3 h90 h91;refine jhG (β:=6000000) Tryz.func228 jht (by simp) ?_
 unfold jfq;simp only [go_sem,h91,Nat.mul_one];refine vJ (vs:=[.c (.ep 90 3 [] (k*8) (e3 [])),Ni t]) (by simp only [go_sem]) (jlA hr hrun _ b e2 e3 (by simp only [go_sem];exact h90)) ?_
 rintro _ o1 ⟨rfl,j90,j91,j92,j93,j94,j95,j96,j97⟩;simp only [go_sem] at j91 j92 j93 j94 j95 j96 j97;rw [h91] at j91;exact ⟨.tup [],⟨by decide,rfl⟩,rfl,rfl,j90,j91,j92,j93,j94,j95,j96,j97⟩
theorem jnX (y:Yd) (ht:jt y≤1990000):ka Tryz.prog 123 [.agg (jb y)] (.tup [(true,jb (jbN y)),(false,[.val (.int .i64 (jaS y))])]):=by
 refine zl [[1,1,1,1,0,1,0,0,1,1,0,0,0],[1,1,1,1,0,1,0,0,1,1,0,0,1,0],[1,1,1,1,0,1,0,0,1,1,1]] Tryz.func123 jjM (by simp) ?_
 unfold ji7;simp only [C.ghs,C.ghAt,List.foldr];have ht2:jt y≤2000000:=by omega
 simp only [go_sem,jb];intro b1 b2;refine jc (jW y ht2) (by simp only [go_sem,jb]) fun ηc=>?_
 simp only [go_sem,jb];intro b4;refine jc (ql y ht2) (by simp only [go_sem,jb]) fun η=>?_
 simp only [go_sem,jb];cases hok:jD y
 ·have hc:jaS y=8:=by simp [jaS,hok]
  have hy:jbN y=y:=by rw [jbN,if_neg (by rw [hc];decide)]
  simp only [go_sem,jb,hok,hc,hy];refine kZ _ _ _ _ _ ?_;simp only [go_sem,jb]
 have hP:=yard_iff.1 hok;have hnow:=hP.now;have hw1:IntKind.i64.wrap (y.now+1)=y.now+1:=jo (by omega) (by omega)
 by_cases hgt:y.now+1>999999980
 ·have hc:jaS y=7:=by rw [jaS,if_neg (by rw [hok];decide),if_pos hgt]
  have hy:jbN y=y:=by rw [jbN,if_neg (by rw [hc];decide)]
  simp only [go_sem,jb,hok,hw1,hgt,hc,hy];refine kZ _ _ _ _ _ ?_;simp only [go_sem,jb]
 have hc:jaS y=0:=by rw [jaS,if_neg (by rw [hok];decide),if_neg hgt]
 rw [hc,jbN,if_pos hc];simp only [go_sem,jb,hok,hw1,hgt];refine jc (jlb y ht2 (jlS hP)) (by simp only [go_sem,jb]) fun ηl=>?_
 simp only [go_sem,jb];have h96:=jod hP;refine jq (fun i:Nat×jp×jp×jp=>St.of [(2,Bx 92 b2),(4,Bx 90 b4),(25,Hd 93 i.2.2.2),(26,Ni (kN y).length),(27,Ni i.1)] [(92,ZYd b2 tYd),(90,ky b4 tYd (y.now+1) (vr y i.1).seq (vr y i.1).shelf i.2.1 (vr y i.1).runs i.2.2.1),(93,.loose (qC (kN y)) i.2.2.2)]) (fun i=>i.1≤(kN y).length) (fun i=>(kN y).length-i.1) (0,ηc 2,ηc 3,ηl 0) (by (try dsimp only);first|omega|(simp;done)|(and_intros<;>first|omega|simp)) (jk [some 200,some 400,some 2500] (by simp only [go_sem,jb,show vr y 0=y from rfl]<;>and_intros<;>first|rfl|assumption|trivial)) ?_
 rintro ⟨i,f2,f3,f9⟩ hi;dsimp only at hi;have hJ:=jcD hP i;by_cases hlt:i<(kN y).length
 ·have hlt':(i:Int)<(kN y).length:=by omega
  have h0i:(i:Int)≥0:=by omega
  obtain ⟨l,hl⟩:=je hlt;obtain ⟨k,t,r0,x0,hr0,hx0,hra,hs0,hll⟩:=jpl hP (List.mem_of_getElem? hl);have hw:IntKind.i64.wrap ((i:Int)+1)=((i+1:Nat):Int):=jo (by omega) (by omega)
  have hnt:vr y (i+1)=jaM (vr y i) k t:=by rw [jnA hl,hll,ju2];simp only [List.headD_cons,List.tail_cons,hJ.later.runAt,hra,Int.toNat_natCast]
  generalize vr y i=z at*;obtain ⟨r,hr,hid,hpl,hR,hrl,hr3⟩:=hJ.later.runs k r0 hr0;have h12:=hR.le12;have htl:=(List.getElem?_eq_some_iff.1 hx0).1;have hlt3:t<r.tasks.length:=by omega
  obtain ⟨x,hx⟩:=je hlt3;have hfy:jaM z k t=if x.state==3 then qd z k (jE r t) else z:=by rw [jaM,hr,Option.getD_some,vn hx]
  have hho:vS z r0.id t x0.tri=(x.state==3):=by rw [jkj hJ.later hr0 hra hx0,hr,Option.getD_some,vn hx]
  have hrz:runAt z r0.id=(k:Int):=by rw [hJ.later.runAt,hra]
  subst hll;simp only [go_sem,hlt'];refine vl ?_;refine jdO 93 0 i 94 (η:=f9) (sz:=1) (tyo:=tIs) (ds0:=(kN y).flatMap fun es=>[jh es]) (cs:=[r0.id,(t:Int),x0.tri].flatMap fun n=>[iv n]) rfl (jog hl) rfl (by decide) fun ηa ηA hA1 hA2 hA3=>?_
  rw [←hA2];rw [←hA2] at hA3;refine WkK.wk (s':=St.of [(2,Bx 92 b2),(4,Bx 90 b4),(25,Hd 93 ηA),(26,Ni (kN y).length),(27,Ni i)] [(92,ZYd b2 tYd),(90,ky b4 tYd (y.now+1) z.seq z.shelf f2 z.runs f3),(93,.loose (.sl 1 tIs (((kN y).flatMap fun es=>[jh es]).set i (.val (ηa [])))) ηA),(94,.loose (jh [r0.id,(t:Int),x0.tri]) ηa)]) (jk [some 92,some 90,some 93,some 94] (by simp only [go_sem,hA1]<;>and_intros<;>first|rfl|assumption|trivial)) ?_
  refine WkK.of ?_;have hi1:i+1≤(kN y).length:=hlt;simp only [go_sem,hlt',hlt,h0i,Nat.mul_one,jmN,jd1,jqY hlt,hA3,hi1];intro b6;refine vl ?_;refine WkK.wk (s':=St.of [(2,Bx 92 b2),(4,Bx 90 b4),(6,Bx 91 b6),(25,Hd 93 ηA),(26,Ni (kN y).length),(27,Ni i)] [(92,ZYd b2 tYd),(90,ky b4 tYd (y.now+1) z.seq z.shelf f2 z.runs f3),(93,.loose (.sl 1 tIs (((kN y).flatMap fun es=>[jh es]).set i (.val (ηa [])))) ηA),(94,.loose (jh [r0.id,(t:Int),x0.tri]) ηa),(91,.box b6 tIs [.a (.v (ηa []))])]) (jk [some 92,some 90,some 93,some 94,some 600] (by simp only [go_sem]<;>and_intros<;>first|rfl|assumption|trivial)) ?_
  refine vq 91 0 94 (d:=jh [r0.id,(t:Int),x0.tri]) (η:=ηa) rfl rfl rfl ?_;refine WkK.wk (s':=St.of [(2,Bx 92 b2),(4,Bx 90 b4),(6,Bx 91 b6),(25,Hd 93 ηA),(26,Ni (kN y).length),(27,Ni i)] [(92,ZYd b2 tYd),(90,ky b4 tYd (y.now+1) z.seq z.shelf f2 z.runs f3),(93,.loose (.sl 1 tIs (((kN y).flatMap fun es=>[jh es]).set i (.val (ηa [])))) ηA),(91,.box b6 tIs [.own (jh [r0.id,(t:Int),x0.tri]) ηa])]) (jk [some 92,some 90,some 93,some 91] (by simp only [go_sem]<;>and_intros<;>first|rfl|assumption|trivial)) ?_
  refine WkK.of ?_;simp only [go_sem,Nat.mul_one];refine jc (jb2 ⟨y.now+1,z.seq,z.shelf,z.runs⟩ r0.id t x0.tri) (by simp only [go_sem,jb]) fun η=>?_
  simp only [go_sem,jb];rw [show vS ⟨y.now+1,z.seq,z.shelf,z.runs⟩ r0.id t x0.tri=(x.state==3) from hho]
  cases hs:x.state==3
  ·rw [hs,if_neg (by decide)] at hfy
   rw [hfy] at hnt;simp only [go_sem,hs];refine vl ?_;refine WkK.wk (s':=St.of [(2,Bx 92 b2),(4,Bx 90 b4),(25,Hd 93 ηA),(26,Ni (kN y).length),(27,Ni i)] [(92,ZYd b2 tYd),(90,ky b4 tYd (y.now+1) z.seq z.shelf f2 z.runs f3),(93,.loose (.sl 1 tIs (((kN y).flatMap fun es=>[jh es]).set i (.val (ηa [])))) ηA),(91,.box b6 tIs [.own (jh [r0.id,(t:Int),x0.tri]) ηa])]) (jk [some 92,some 90,some 93,some 91] (by simp only [go_sem]<;>and_intros<;>first|rfl|assumption|trivial)) ?_
   refine vm 91 0 94 (d:=jh [r0.id,(t:Int),x0.tri]) (η:=ηa) rfl rfl (by decide) fun _=>?_
   refine qN 93 0 i 94 (η:=ηA) (η2:=ηa) (sz:=1) (tyo:=tIs) (ds0:=((kN y).flatMap fun es=>[jh es]).set i (.val (ηa []))) (cs:=[r0.id,(t:Int),x0.tri].flatMap fun n=>[iv n]) rfl (List.getElem?_set_self (by rw [jof];exact hlt)) (.inl rfl) rfl (by decide) fun ηE hE=>?_
   rw [List.set_set,show D.sl 1 jfI ([r0.id,(t:Int),x0.tri].flatMap fun n=>[iv n])=jh [r0.id,(t:Int),x0.tri] from rfl,zT (jog hl)]
   refine WkK.of ?_;simp only [go_sem,hw];exact ⟨(i+1,f2,f3,ηE),by (try dsimp only);first|omega|assumption|(and_intros<;>first|omega|assumption),(jk [some 92,some 90,some 93] (by simp only [go_sem,hnt,hE,qC]<;>and_intros<;>first|rfl|assumption|trivial)),by (try dsimp only);omega⟩
  ·rw [hs,if_pos rfl] at hfy
   rw [hfy] at hnt;have hs':x.state=3:=by simpa using hs
   simp only [go_sem,hs,Nat.mul_one];refine jc (qm ⟨y.now+1,z.seq,z.shelf,z.runs⟩ r0.id) (by simp only [go_sem,jb]) fun η=>?_
   simp only [go_sem,jb];rw [show runAt ⟨y.now+1,z.seq,z.shelf,z.runs⟩ r0.id=(k:Int) from hrz]
   have hq:=hJ.seq;have htz:=hJ.tot
   have hte:jt ⟨y.now+1,z.seq,z.shelf,z.runs⟩≤2000000:=by
    have e:jt ⟨y.now+1,z.seq,z.shelf,z.runs⟩=jt z:=rfl;rw [e];omega
   refine vJ (vs:=[Bx 90 b4,Ni k,.fn 228 [.bp 91 0 b6]]) (by simp only [go_sem]) (jcQ (y:=⟨y.now+1,z.seq,z.shelf,z.runs⟩) (H:=.box b6 tIs [.own (jh [r0.id,(t:Int),x0.tri]) ηa]) hr (qh r t) h12 hJ.four (by dsimp only;omega) hte (jt7 hr (jst hR hx hs')) (e2:=f2) (e3:=f3) (by simp only [go_sem]) (by simp only [go_sem])) ?_
   rintro _ o1 ⟨rfl,⟨g2,g3,j90⟩,j91,j92,j93,j94,j95,j96⟩;have j92':o1 92=ZYd b2 tYd:=j92;have j93':o1 93=.loose (.sl 1 tIs (((kN y).flatMap fun es=>[jh es]).set i (.val (ηa [])))) ηA:=j93
   have j90':o1 90=ky b4 tYd (y.now+1) (qd z k (jE r t)).seq (qd z k (jE r t)).shelf g2 (qd z k (jE r t)).runs g3:=j90;generalize qd z k (jE r t)=z2 at*;refine vl ?_;refine WkK.wk (s':=St.of [(2,Bx 92 b2),(4,Bx 90 b4),(25,Hd 93 ηA),(26,Ni (kN y).length),(27,Ni i)] [(92,ZYd b2 tYd),(90,ky b4 tYd (y.now+1) z2.seq z2.shelf g2 z2.runs g3),(93,.loose (.sl 1 tIs (((kN y).flatMap fun es=>[jh es]).set i (.val (ηa [])))) ηA),(91,.box b6 tIs [.own (jh [r0.id,(t:Int),x0.tri]) ηa])]) (jk [some 92,some 90,some 93,some 91] (by simp only [go_sem,j90',j91,j92',j93']<;>and_intros<;>first|rfl|assumption|trivial)) ?_
   refine vm 91 0 94 (d:=jh [r0.id,(t:Int),x0.tri]) (η:=ηa) rfl rfl (by decide) fun _=>?_
   refine qN 93 0 i 94 (η:=ηA) (η2:=ηa) (sz:=1) (tyo:=tIs) (ds0:=((kN y).flatMap fun es=>[jh es]).set i (.val (ηa []))) (cs:=[r0.id,(t:Int),x0.tri].flatMap fun n=>[iv n]) rfl (List.getElem?_set_self (by rw [jof];exact hlt)) (.inl rfl) rfl (by decide) fun ηE hE=>?_
   rw [List.set_set,show D.sl 1 jfI ([r0.id,(t:Int),x0.tri].flatMap fun n=>[iv n])=jh [r0.id,(t:Int),x0.tri] from rfl,zT (jog hl)]
   refine WkK.of ?_;simp only [go_sem,hw];exact ⟨(i+1,g2,g3,ηE),by (try dsimp only);first|omega|assumption|(and_intros<;>first|omega|assumption),(jk [some 92,some 90,some 93] (by simp only [go_sem,hnt,hE,qC]<;>and_intros<;>first|rfl|assumption|trivial)),by (try dsimp only);omega⟩
 have hlt':¬(i:Int)<(kN y).length:=by omega
 obtain rfl:i=(kN y).length:=by omega
 generalize vr y (kN y).length=z at*;simp only [go_sem,hlt'];refine kZ _ _ _ _ _ ?_;simp only [go_sem,jb]
end Go.Proofs.YtmnpailnelmpiaaGreat
