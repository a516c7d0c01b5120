/- Parts. -/
import Derived.Test.YtmnpailnelmpiaaGreatQTurnP
import Derived.Test.YtmnpailnelmpiaaGreatQTurnS
set_option linter.unusedSimpArgs false
set_option linter.unusedVariables false
set_option maxHeartbeats 8000000
set_option maxRecDepth 100000
namespace Go.Proofs.YtmnpailnelmpiaaGreat
open Go.RowKit Go.Sort
noncomputable def jcZ (y:Yd) (id task tri:Int):Yd:=if jaI y id task tri=0 then qc y (runAt y id).toNat (qv ((y.runs[(runAt y id).toNat]?).getD default) task) else y
def jcq:C:=iS [iA 4 (.box 37 4 (.t 0)),iA 8 (.alloc 37 [.int .i64 0,.int .i64 0,.slice none 0 0,.slice none 0 0]),iA 9 (iN 0)] (iS [iA 13 (iT 4 4),iA 14 (.call 105 [.t 13]),iA 10 (.alloc 37 [.int .i64 0,.int .i64 0,.slice none 0 0,.slice none 0 0]),iC (.st 4 [none,none,some (1,102),some (8,108)] (.t 10) (.t 14))] (iS [iA 15 (iT 4 4),iA 16 (iM 1),iA 17 (iM 2),iA 18 (iM 3),iA 19 (.call 196 [.t 15,.t 16,.t 17,.t 18]),iA 11 (iM 19)] (.seq (iS [iA 20 (iM 11),iA 21 (iQ .neq 3 20 0)] (iD 21 (iS [iA 22 (iT 4 10),iA 23 (iM 11),iC (.st 4 [none,none,some (1,102),some (8,108)] (.t 8) (.t 22)),iA 9 (iM 23)] .ret) .skip)) (iS [iA 24 (iT 4 4),iA 25 (iM 1),iA 26 (.call 152 [.t 24,.t 25]),iA 12 (iM 26)] (.seq (.dreg (T.pure 0 (iA 27 (iT 4 10)) (T.pure 1 (iA 28 (iM 12)) (T.pure 2 (iA 29 (iF 3 10)) (T.pure 3 (iA 30 (iL 29)) (T.pure 4 (iA 31 (iM 12)) (T.pure 5 (iA 32 (iI 8 30 31)) (T.pure 6 (iA 33 (iT 8 32)) (T.pure 7 (iA 34 (iM 2)) (T.alt (iA 35 (.call 198 [.t 33,.t 34])) [1,0] (T.alt (iA 36 (.call 197 [.t 27,.t 28,.t 35])) [] (T.alt (iC (.st 4 [none,none,some (1,102),some (8,108)] (.t 8) (.t 36))) [] (T.pure 11 (iA 9 (iN 0)) T.done) T.stop) T.stop) T.stop)))))))))) .ret)))))
theorem jeR:fnC Tryz.prog Tryz.f108=some (jcq,[.cell 8 true 4,.t 9],37):=by kernel_rfl
theorem jii (y:Yd) (id task tri:Int) (ht:jt y≤2000000):kf Tryz.prog 108 [.agg (jb y),.c (.val (.int .i64 id)),.c (.val (.int .i64 task)),.c (.val (.int .i64 tri))] (.tup [(true,jb (jcZ y id task tri)),(false,[.val (.int .i64 (jaI y id task tri))])]):=by
 refine zi [[1,1,1,1,1,0]] Tryz.func108 jeR (by simp) ?_
 unfold jcq;simp only [C.ghs,C.ghAt,List.foldr];simp only [go_sem,jb];intro b4 b8;refine jc (kg y ht) (by simp only [go_sem,jb]) fun ηc=>?_
 simp only [go_sem,jb];intro b10;refine jc (jet y id task tri ht) (by simp only [go_sem,jb]) fun η=>?_
 simp only [go_sem,jb];cases h0:jaI y id task tri !=0;rotate_left
 ·have hy:jcZ y id task tri=y:=by rw [jcZ,if_neg (by simpa using h0)]
  simp only [go_sem,jb,h0,hy];refine qh _ _ _ _ _ ?_;simp only [go_sem,jb]
 have h0':jaI y id task tri=0:=by simpa using h0
 obtain ⟨hok,hneg⟩:=jos h0';obtain ⟨k,r,hrk,hr,hid,h8⟩:=qU hneg;have hk:=(List.getElem?_eq_some_iff.1 hr).1;have h0k:(k:Int)≥0:=by omega
 have hk0:¬(k:Int)<0:=by omega
 have hY:jcZ y id task tri=qc y k (qv r task):=by rw [jcZ,if_pos h0',hrk,Int.toNat_natCast,hr,Option.getD_some]
 rw [hY,h0'];simp only [go_sem,jb,h0];refine jc (qj y id) (by simp only [go_sem,jb]) fun η=>?_
 simp only [go_sem,jb];refine vh ?_;refine WkK.wk (s':=St.of [(2,Ni task),(8,Bx 92 b8),(10,Bx 90 b10),(12,Ni k)] [(92,ZYd b8 tYd),(90,ky b10 tYd y.now y.seq y.shelf (ηc 2) y.runs (ηc 3))]) (jk [some 800,some 1000] (by simp only [go_sem,jb,hrk]<;>and_intros<;>first|rfl|assumption)) ?_
 refine WkK.of ?_;have hrb:=jbY ht (List.mem_of_getElem? hr);simp only [go_sem,jb,hk0,h0k,hk,jjF hr,jeE hr,jd,ja];refine jc (jjg r task hrb.1 hrb.2) (by simp only [go_sem,jb,jd,ja,ka hr,ko hr]) fun ηr=>?_
 simp only [go_sem,jb,jd,ja,ka hr,ko hr];have hrl:(qv r task).tasks.length=r.tasks.length:=jdS r task;have hr12:r.tasks.length≤12:=(hok.right r (List.mem_of_getElem? hr)).le12;generalize qv r task=r2 at*;refine jbd [some 90,some 92,some 3505,some 3507] [(90,ky b10 tYd y.now y.seq y.shelf (ηc 2) y.runs (ηc 3)),(92,ZYd b8 tYd),(97,.loose (jA r2.plan.edges) (ηr 5)),(98,.loose (jx r2.tasks) (ηr 7))] [.agg [.v (.int .i64 y.now),.v (.int .i64 y.seq),.h 90 2 [] (ηc 2 []),.h 90 3 [] (ηc 3 [])],Ni k,.agg [.v (.int .i64 r2.id),.v (.int .i64 r2.plan.prio),.v (.int .i64 r2.plan.most),.v (.int .i64 r2.plan.wait),.v (.int .i64 r2.plan.tasks),.h 97 0 [] (ηr 5 []),.v (.int .i64 r2.state),.h 98 0 [] (ηr 7 [])]] (by simp only [go_sem]<;>and_intros<;>rfl) (by simp only [go_sem]<;>and_intros<;>rfl) (jeD hr hrl hr12 hok.four (by have:=hok.seq;omega) ht rfl rfl rfl) ?_
 rintro _ o1 ⟨c,g2,g3,x2,x3,rfl,j99,j90,j91,j92,j93,j94,j95,j96⟩;have j92':o1 92=ZYd b8 tYd:=j92;generalize qc y k r2=z2 at*;simp only [go_sem,j99,j90,j92'];refine qh _ _ _ _ _ ?_;simp only [go_sem,jb,j99,j90,j92']
theorem jin {p:Pl} {ts ts':List Tk} (h:∀b:Int,(stT ts' b !=4)=(stT ts b !=4)) (t:Int):jlb p ts' t=jlb p ts t:=by
 simp only [jlb,h]
theorem jrQ {ts:List Tk} {t:Nat} {x y:Tk} (hx:ts[t]?=some x) (h:(y.state !=4)=(x.state !=4)) (b:Int):(stT (ts.set t y) b !=4)=(stT ts b !=4):=by
 have ht:=(List.getElem?_eq_some_iff.1 hx).1;simp only [stT,List.getElem?_set];by_cases e:t=b.toNat
 ·rw [if_pos e,←e,if_pos ht,hx];exact h
 ·rw [if_neg e]
theorem jAQ {s:Int} {ts:List Tk} {t:Nat} (ht:t<ts.length) (h1:∀(j:Nat) (x:Tk),ts[j]?=some x→(x.state=s↔j=t)):cS s ts=1:=by
 have e:(List.range ts.length).filter (fun (j:Nat)=>stT ts (j:Int)==s)=(List.range ts.length).filter (fun j=>j==t):=by
  refine List.filter_congr fun j hj=>?_
  rw [List.mem_range] at hj;have hx:ts[j]?=some ts[j]:=List.getElem?_eq_getElem hj;rw [vl hx,Bool.eq_iff_iff,beq_iff_eq,beq_iff_eq];exact h1 j _ hx
 have:(List.range ts.length).count t=1:=by rw [List.count_range,if_pos ht]
 simp only [cS,zn,zA,e,List.length_map];rw [←this,List.count_eq_length_filter]
theorem jvw (j:Nat) (x:Tk):((jT j x).state !=4)=(x.state !=4):=by
 unfold jT;split
 ·rename_i h
  have:(x.state !=4)=true:=by simpa using h.1
  rw [this];rfl
 ·rfl
theorem jo5 {f:Nat→Tk→Tk} {ts:List Tk} {j:Nat} {z:Tk} (h:(zG f ts ts.length)[j]?=some z):∃x,ts[j]?=some x∧z=f j x:=by
 simp only [zG,List.getElem?_mapIdx,Option.map_eq_some_iff] at h;obtain ⟨x,hx,rfl⟩:=h;exact ⟨x,hx,by rw [if_pos (List.getElem?_eq_some_iff.1 hx).1]⟩
theorem taskB_iff {p:Pl} {ts:List Tk} {t:Nat} {x:Tk}:jP p ts t x=true↔(1≤x.state∧x.state≤6)∧x.need=jlb p ts t∧(0≤x.tri∧x.tri≤p.most)∧jbS x=true∧zz p x=true:=by
 simp only [jP,inB,Bool.and_eq_true,decide_eq_true_eq,beq_iff_eq,and_assoc]
theorem jtl {r:Rn} {t:Nat} {x:Tk} (h:RunOkP r) (hx:r.tasks[t]?=some x) (hs:x.state=3):RunOkP (jby r t x):=by
 obtain ⟨e1,e2,e3,e4⟩:=h.runs hx hs;have ht:=(List.getElem?_eq_some_iff.1 hx).1;have hx1:=taskB_iff.1 (h.tasks t x hx);have hl:=hx1.2.2.2.2
 have hl3:x.need=0∧1≤x.tri:=by
  simpa [zz,hs] using hl
 unfold jby;split
 ·rename_i hm
  have hN:∀j:Int,jlb r.plan (r.tasks.set t ⟨2,x.need,x.tri,0⟩) j=jlb r.plan r.tasks j:=jin (jrQ hx (by simp [hs]))
  have c5:cS 5 (r.tasks.set t ⟨2,x.need,x.tri,0⟩)=0:=jon (jlZ (q:=fun s=>s≠5) (by simp) fun y hy=>by obtain ⟨k,hk,rfl⟩:=List.getElem_of_mem hy;exact jwJ e2 (List.getElem?_eq_getElem hk))
  have c6:cS 6 (r.tasks.set t ⟨2,x.need,x.tri,0⟩)=0:=jon (jlZ (q:=fun s=>s≠6) (by simp) fun y hy=>by obtain ⟨k,hk,rfl⟩:=List.getElem_of_mem hy;exact jwJ e3 (List.getElem?_eq_getElem hk))
  have hst:∀z∈r.tasks.set t ⟨2,x.need,x.tri,0⟩,1≤z.state∧z.state≤6:=jlZ (q:=fun s=>1≤s∧s≤6) (by simp) h.st
  have c2:=jwI (s:=2) (List.getElem?_set_self ht:(r.tasks.set t ⟨2,x.need,x.tri,0⟩)[t]?=some _) rfl;have hsum:=jh1 hst _ (Nat.le_refl _);change cS 1 _+cS 2 _+cS 3 _+cS 4 _+cS 5 _+cS 6 _=_ at hsum;refine ⟨h.id,h.plan,by rw [List.length_set];exact h.len,fun j z hz=>?_,?_,h.live⟩
  ·dsimp only at hz⊢
   rw [List.getElem?_set] at hz;by_cases e:t=j
   ·subst e
    rw [if_pos rfl,if_pos ht] at hz;obtain rfl:=Option.some.inj hz;rw [taskB_iff,hN];exact ⟨by simp,hx1.2.1,hx1.2.2.1,rfl,by simp [zz,hl3.1,hm]⟩
   ·rw [if_neg e] at hz
    have:=taskB_iff.1 (h.tasks j z hz);rw [taskB_iff,hN];exact this
  ·dsimp only
   rw [e1,ji4,if_neg (by omega),c5,c6,if_neg (by omega),if_neg (by omega),if_pos ⟨rfl,rfl⟩]
 ·rename_i hm
  generalize hT:r.tasks.set t ⟨5,x.need,x.tri,0⟩=T;have hTl:T.length=r.tasks.length:=by rw [←hT,List.length_set]
  have hTt:T[t]?=some ⟨5,x.need,x.tri,0⟩:=by rw [←hT];exact List.getElem?_set_self ht
  have hTj:∀j,t≠j→T[j]?=r.tasks[j]?:=fun j hj=>by rw [←hT,List.getElem?_set_ne hj]
  rw [←hTl]
  have hM:∀(j:Nat) (z:Tk),(zG jT T T.length)[j]?=some z→(j=t∧z=⟨5,x.need,x.tri,0⟩)∨j≠t∧∃y,r.tasks[j]?=some y∧((y.state=4∧z=y)∨(y.state≠4∧z=⟨6,y.need,y.tri,0⟩)):=by
   intro j z hz;obtain ⟨y,hy,rfl⟩:=jo5 hz;by_cases e:t=j
   ·subst e
    rw [hTt] at hy;obtain rfl:=Option.some.inj hy;exact .inl ⟨rfl,by simp [jT]⟩
   ·rw [hTj j e] at hy
    have h5:y.state≠5:=jwJ e2 hy;refine .inr ⟨fun e'=>e e'.symm,y,hy,?_⟩
    by_cases e4:y.state=4
    ·exact .inl ⟨e4,by simp [jT,e4]⟩
    ·exact .inr ⟨e4,by simp [jT,e4,h5]⟩
  have hst4:∀b:Int,(stT (zG jT T T.length) b !=4)=(stT r.tasks b !=4):=by
   intro b;rw [←jrQ hx (y:=⟨5,x.need,x.tri,0⟩) (by simp [hs]),hT]
   simp only [stT,zG,List.getElem?_mapIdx];cases hb:T[b.toNat]? with
   |none=>rfl
   |some z=>simp only [Option.map_some,Option.getD_some,if_pos (List.getElem?_eq_some_iff.1 hb).1,jvw]
  have hN:=fun j=>jin (p:=r.plan) hst4 j
  have hlen:(zG jT T T.length).length=T.length:=zu
  have hst:∀z∈zG jT T T.length,4≤z.state∧z.state≤6:=fun z hz=>by
   obtain ⟨k,hk,rfl⟩:=List.getElem_of_mem hz;rcases hM k _ (List.getElem?_eq_getElem hk) with ⟨_,h1⟩|⟨_,y,_,⟨h1,h2⟩|⟨_,h2⟩⟩
   ·rw [h1];simp
   ·rw [h2];omega
   ·rw [h2];simp
  have c1:cS 1 (zG jT T T.length)=0:=jon fun z hz=>by have:=hst z hz;omega
  have c2:cS 2 (zG jT T T.length)=0:=jon fun z hz=>by have:=hst z hz;omega
  have c3:cS 3 (zG jT T T.length)=0:=jon fun z hz=>by have:=hst z hz;omega
  have c5:cS 5 (zG jT T T.length)=1:=by
   refine jAQ (t:=t) (by rw [hlen,hTl];exact ht) fun j z hz=>?_
   rcases hM j z hz with ⟨h1,h2⟩|⟨h1,y,_,⟨h2,h3⟩|⟨_,h3⟩⟩
   ·rw [h2];simp [h1]
   ·rw [h3];simp [h1,h2]
   ·rw [h3];simp [h1]
  have hsum:=jh1 (fun z hz=>by have:=hst z hz;omega) _ (Nat.le_refl (zG jT T T.length).length)
  change cS 1 _+cS 2 _+cS 3 _+cS 4 _+cS 5 _+cS 6 _=_ at hsum;refine ⟨h.id,h.plan,by dsimp only;rw [hlen,hTl];exact h.len,fun j z hz=>?_,?_,by simp⟩
  ·dsimp only at hz⊢
   rw [taskB_iff,hN];rcases hM j z hz with ⟨rfl,rfl⟩|⟨h1,y,hy,⟨h2,rfl⟩|⟨h2,rfl⟩⟩
   ·exact ⟨by simp,hx1.2.1,hx1.2.2.1,rfl,by simp [zz,hl3.1,hl3.2]⟩
   ·exact taskB_iff.1 (h.tasks j _ hy)
   ·have h3:=taskB_iff.1 (h.tasks j _ hy)
    exact ⟨by simp,h3.2.1,h3.2.2.1,rfl,by simp [zz]⟩
  ·dsimp only
   rw [ji4,if_neg (by omega),if_pos ⟨c5,by omega⟩]
theorem jnt {r:Rn} (t:Int) (h:RunOkP r):RunOkP (jE r t):=by
 cases hr:vS r t with
 |false=>rw [jdR hr];exact h
 |true=>
  obtain ⟨k,x,rfl,hx,hs,_⟩:=jcE hr;rw [vG hx hr];exact jtl h hx hs
theorem jsa {r:Rn} {t:Nat} {x:Tk} (h:RunOkP r) (hx:r.tasks[t]?=some x) (hs:x.state=3):vS r t=true:=by
 have ht:=(List.getElem?_eq_some_iff.1 hx).1;simp only [vS,inB,Bool.and_eq_true,decide_eq_true_eq,beq_iff_eq,vl hx,runOk_iff];exact ⟨⟨by omega,hs⟩,h⟩
theorem jp4 {r:Rn} {t:Int} {j:Nat} {z:Tk} (hz:(jE r t).tasks[j]?=some z) (hs:z.state=3):r.tasks[j]?=some z:=by
 cases hr:vS r t with
 |false=>rwa [jdR hr] at hz
 |true=>
  obtain ⟨k,x,rfl,hx,hs',_⟩:=jcE hr;rw [vG hx hr,jby] at hz;have hk:=(List.getElem?_eq_some_iff.1 hx).1;split at hz
  ·dsimp only at hz
   rw [List.getElem?_set] at hz;by_cases e:k=j
   ·subst e
    rw [if_pos rfl,if_pos hk] at hz;obtain rfl:=Option.some.inj hz;cases hs
   ·rw [if_neg e] at hz;exact hz
  ·dsimp only at hz
   have e:r.tasks.length=(r.tasks.set k ⟨5,x.need,x.tri,0⟩).length:=by rw [List.length_set]
   rw [e] at hz;obtain ⟨y,hy,rfl⟩:=jo5 hz;unfold jT at hs;split at hs
   ·cases hs
   ·rename_i h
    exact absurd ⟨by omega,by omega⟩ h
theorem jnu (r:Rn) (t:Int):(jE r t).id=r.id∧(jE r t).plan=r.plan:=by
 unfold jE;split
 ·unfold jby;split<;>exact ⟨rfl,rfl⟩
 ·exact ⟨rfl,rfl⟩
structure LaterP (y z:Yd):Prop where
 len:z.runs.length=y.runs.length
 runs:∀(k:Nat) (r:Rn),y.runs[k]?=some r→∃r',z.runs[k]?=some r'∧r'.id=r.id∧r'.plan=r.plan∧RunOkP r'∧r'.tasks.length=r.tasks.length∧∀(t:Nat) (x:Tk),r'.tasks[t]?=some x→x.state=3→r.tasks[t]?=some x
theorem LaterP.refl {y:Yd} (h:YardOkP y):LaterP y y:=⟨rfl,fun k r hr=>⟨r,hr,rfl,rfl,h.right r (List.mem_of_getElem? hr),rfl,fun _ _ h _=>h⟩⟩
theorem juV:∀{l m:List Rn} (id:Int),l.map (·.id)=m.map (·.id)→jfH l id=jfH m id:=by
 intro l m id h;have e:∀l:List Rn,l.findIdx? (fun r=>r.id==id)=(l.map (·.id)).findIdx? (· ==id):=fun l=>by rw [List.findIdx?_map];rfl
 simp only [jfH,e,h]
theorem LaterP.ids {y z:Yd} (h:LaterP y z):z.runs.map (·.id)=y.runs.map (·.id):=by
 apply List.ext_getElem?
 intro k;simp only [List.getElem?_map];cases hr:y.runs[k]? with
 |none=>
  have:z.runs[k]?=none:=by rw [List.getElem?_eq_none_iff] at hr⊢;rw [h.len];exact hr
  rw [this]
 |some r=>
  obtain ⟨r',h1,h2,_⟩:=h.runs k r hr;rw [h1];simp [h2]
theorem LaterP.runAt {y z:Yd} (h:LaterP y z) (id:Int):runAt z id=runAt y id:=by
 unfold Go.Proofs.YtmnpailnelmpiaaGreat.runAt;rw [h.len,juV id h.ids]
noncomputable def jaL (y:Yd) (k t:Nat):Yd:=if stT ((y.runs[k]?).getD default).tasks t==3 then qc y k (jE ((y.runs[k]?).getD default) t) else y
theorem jlP (y:Yd) (k:Nat) (r:Rn):(qc y k r).runs=y.runs.set k r:=rfl
theorem LaterP.fail {y z:Yd} (h:LaterP y z) (k t:Nat):LaterP y (jaL z k t):=by
 unfold jaL;split
 ·cases hk:y.runs[k]? with
  |none=>
   have hk2:z.runs[k]?=none:=by rw [List.getElem?_eq_none_iff] at hk⊢;rw [h.len];exact hk
   rename_i hs;rw [hk2] at hs;simp [stT] at hs;cases hs
  |some r=>
   obtain ⟨r',h1,h2,h3,h4,h5,h6⟩:=h.runs k r hk;have hk':=(List.getElem?_eq_some_iff.1 h1).1;rw [h1,Option.getD_some];refine ⟨by rw [jlP,List.length_set];exact h.len,fun j q hq=>?_⟩
   rw [jlP,List.getElem?_set];by_cases e:k=j
   ·subst e
    rw [hk] at hq;obtain rfl:=Option.some.inj hq;rw [if_pos rfl,if_pos hk'];have hi:=jnu r' t;refine ⟨_,rfl,by rw [hi.1];exact h2,by rw [hi.2];exact h3,jnt _ h4,by rw [qg];exact h5,fun i x hx hs=>h6 i x (jp4 hx hs) hs⟩
   ·rw [if_neg e];exact h.runs j q hq
 ·exact h
structure StepI (y z:Yd) (i:Nat):Prop where
 later:LaterP y z
 four:z.shelf.length=4
 seq:1≤z.seq∧z.seq≤1000000000+12*i
 tot:jt z≤jt y+12*i
 now:z.now=y.now
theorem StepI.refl {y:Yd} (h:YardOkP y):StepI y y 0:=⟨.refl h,h.four,by have:=h.seq;omega,Nat.le_refl _,rfl⟩
theorem StepI.mono {y z:Yd} {i j:Nat} (h:StepI y z i) (hij:i≤j):StepI y z j:=⟨h.later,h.four,by have:=h.seq;omega,by have:=h.tot;omega,h.now⟩
theorem jkr {y:Yd} {k:Nat} {r r2:Rn} (hr:y.runs[k]?=some r) (ht:km r2=km r) (hl:r2.tasks.length≤12):jt (qc y k r2)≤jt y+12:=by
 have h1:=jru (y:=⟨y.now,y.seq,y.shelf,y.runs.set k r2⟩) (r:=r2) (ids:=jbi ((y.runs[k]?).getD default).tasks r2.tasks r2.tasks.length);have h2:=jew ((y.runs[k]?).getD default).tasks r2.tasks r2.tasks.length;have h3:=jaa (f:=km) r2 hr
 have h4:jt ⟨y.now,y.seq,y.shelf,y.runs.set k r2⟩=jt y:=by
  simp only [jt,qz,List.length_set];omega
 rw [qc];omega
theorem juQ (y:Yd) (k:Nat) (r2:Rn):y.seq≤(qc y k r2).seq∧(qc y k r2).seq≤y.seq+r2.tasks.length:=by
 have h2:=jew ((y.runs[k]?).getD default).tasks r2.tasks r2.tasks.length;have h1:=jcN r2.plan.prio r2.id (jbi ((y.runs[k]?).getD default).tasks r2.tasks r2.tasks.length) ((y.shelf[shN r2.id]?).getD default,y.seq);have e:(qc y k r2).seq=(zU r2.plan.prio r2.id (jbi ((y.runs[k]?).getD default).tasks r2.tasks r2.tasks.length) ((y.shelf[shN r2.id]?).getD default,y.seq)).2:=rfl;rw [e,h1];dsimp only;omega
theorem jtf (y:Yd) (k:Nat) (r2:Rn):(qc y k r2).shelf.length=y.shelf.length:=by
 have e:(qc y k r2).shelf=y.shelf.set (shN r2.id) (zU r2.plan.prio r2.id (jbi ((y.runs[k]?).getD default).tasks r2.tasks r2.tasks.length) ((y.shelf[shN r2.id]?).getD default,y.seq)).1:=rfl;rw [e,List.length_set]
theorem StepI.fail {y z:Yd} {i:Nat} (h:StepI y z i) (k t:Nat):StepI y (jaL z k t) (i+1):=by
 have hL:=h.later.fail k t;cases hc:(stT ((z.runs[k]?).getD default).tasks t==3) with
 |false=>
  have e:jaL z k t=z:=by unfold jaL;rw [hc];rfl
  rw [e];exact h.mono (Nat.le_succ i)
 |true=>
  have e:jaL z k t=qc z k (jE ((z.runs[k]?).getD default) t):=by unfold jaL;rw [hc];rfl
  cases hk:y.runs[k]? with
  |none=>
   have hk2:z.runs[k]?=none:=by rw [List.getElem?_eq_none_iff] at hk⊢;rw [h.later.len];exact hk
   rw [hk2] at hc;simp [stT] at hc;cases hc
  |some r=>
   obtain ⟨r',h1,h2,h3,h4,h5,h6⟩:=h.later.runs k r hk;rw [h1,Option.getD_some] at e;have hl:=qg r' t;have h12:=h4.le12;have hs:=juQ z k (jE r' t);have:=h.seq;have:=h.tot;have hT:=jkr (r2:=jE r' t) h1 (jgx r' t) (by omega)
   rw [e] at hL⊢;exact ⟨hL,by rw [jtf];exact h.four,by omega,by omega,h.now⟩
theorem jkb {y z:Yd} (h:LaterP y z) {k t:Nat} {r:Rn} {x:Tk} (hk:y.runs[k]?=some r) (hra:runAt y r.id=k) (hx:r.tasks[t]?=some x):vN z r.id t x.tri=(stT ((z.runs[k]?).getD default).tasks t==3):=by
 obtain ⟨r',h1,h2,h3,h4,h5,h6⟩:=h.runs k r hk;have ht:=(List.getElem?_eq_some_iff.1 hx).1;have hx':r'.tasks[t]?=some r'.tasks[t]:=List.getElem?_eq_getElem (by omega)
 have hn:¬((k:Int)<0):=by omega
 have hT:jc9 z r.id t=some r'.tasks[t]:=by
  simp only [jc9,h.runAt,hra,hn,if_false,Int.toNat_natCast,h1];rw [if_pos (by omega)];exact hx'
 rw [h1,Option.getD_some,vl hx'];simp only [vN,hT];cases hs:(r'.tasks[t].state==3) with
 |false=>rfl
 |true=>
  have hs':r'.tasks[t].state=3:=by simpa using hs
  have:=h6 t _ hx' hs';rw [hx] at this;rw [Option.some.inj this];simp
noncomputable def restT (z:Yd) (k:Nat):Nat→Yd
 |0=>z
 |t+1=>jaL (restT z k t) k t
noncomputable def restR (y:Yd):Nat→Yd
 |0=>y
 |k+1=>restT (restR y k) k ((y.runs[k]?).getD default).tasks.length
theorem StepI.restT {y z:Yd} {i:Nat} (h:StepI y z i) (k:Nat):∀t,StepI y (restT z k t) (i+t)
 |0=>h
 |t+1=>(StepI.restT h k t).fail k t
theorem StepI.restR {y:Yd} (h:YardOkP y):∀k,StepI y (restR y k) (12*k)
 |0=>.refl h
 |k+1=>by
  refine ((StepI.restR h k).restT k _).mono ?_;cases hk:y.runs[k]? with
  |none=>rw [Option.getD_none];have:(default:Rn).tasks.length=0:=rfl;omega
  |some r=>
   have:=(h.right r (List.mem_of_getElem? hk)).le12;rw [Option.getD_some];omega
noncomputable def jcU (y:Yd):Yd:=if jD y then restR y y.runs.length else y
theorem jpe {y:Yd} {id task tri:Int} {k:Nat} {r:Rn} (h:jaI y id task tri=0) (hk:runAt y id=(k:Int)) (hr:y.runs[k]?=some r):∃t:Nat,task=(t:Int)∧vS r task=true:=by
 have hok:=(jos h).1
 have hh:vN y id task tri=true:=by
  unfold jaI at h;split at h
  ·cases h
  split at h
  ·cases h
  split at h
  ·cases h
  ·rename_i h3;simpa using h3
 unfold vN at hh;rcases vE y id task with ⟨_,h2⟩|⟨k',r',h1,h2,⟨_,h3⟩|⟨j,x,hj,hx,h3⟩⟩
 ·rw [h2] at hh;cases hh
 ·rw [h3] at hh;cases hh
 ·rw [h3] at hh
  obtain rfl:k=k':=by omega
  obtain rfl:r=r':=by rw [hr] at h2;exact Option.some.inj h2
  refine ⟨j,hj,?_⟩;subst hj;have hl:=(List.getElem?_eq_some_iff.1 hx).1;simp only [Bool.and_eq_true,beq_iff_eq] at hh;have hR:=hok.right r (List.mem_of_getElem? hr);simp only [vS,inB,Bool.and_eq_true,decide_eq_true_eq,beq_iff_eq,vl hx,runOk_iff];exact ⟨⟨by omega,hh.1⟩,hR⟩
def jcy:C:=iS [iA 4 (.box 37 4 (.t 0)),iA 6 (.box 3 1 (.t 2)),iA 8 (.alloc 37 [.int .i64 0,.int .i64 0,.slice none 0 0,.slice none 0 0]),iA 9 (iN 0)] (iS [iA 12 (iT 4 4),iA 13 (.call 118 [.t 12]),iA 10 (.alloc 37 [.int .i64 0,.int .i64 0,.slice none 0 0,.slice none 0 0]),iC (.st 4 [none,none,some (1,102),some (8,108)] (.t 10) (.t 13))] (iS [iA 14 (iT 4 4),iA 15 (iM 1),iA 16 (iL 6),iA 17 (iM 3),iA 18 (.call 220 [.t 14,.t 15,.t 16,.t 17]),iA 11 (iM 18)] (.seq (iS [iA 19 (iM 11),iA 20 (iQ .eql 3 19 0)] (iD 20 (.reg [iA 21 (iT 4 4),iA 22 (iM 1),iA 23 (.call 56 [.t 21,.t 22]),iA 24 (.mkf 222 [.t 6]),iA 25 (.call 221 [.t 10,.t 23,.t 24])]) .skip)) (iS [iA 26 (iT 4 10),iA 27 (iM 11),iC (.st 4 [none,none,some (1,102),some (8,108)] (.t 8) (.t 26)),iA 9 (iM 27)] .ret))))
theorem jeX:fnC Tryz.prog Tryz.f121=some (jcy,[.cell 8 true 4,.t 9],28):=by kernel_rfl
def ja8:C:=.reg [iA 3 (iM 0),iA 4 (iL 1),iA 5 (.call 223 [.t 3,.t 4])]
theorem jc6:fnC Tryz.prog Tryz.f222=some (ja8,[],6):=by kernel_rfl
theorem jly {k t b6:Nat} {y:Yd} {r:Rn} (hr:y.runs[k]?=some r) (hrun:vS r t=true):jud Tryz.prog 222 [.bp 91 0 b6] (.box b6 jfE [.a (.v (.int .i64 t))]) k y (qv r t):=by
 intro o b e2 e3 h90 h91;refine jhC (β:=6000000) Tryz.func222 jc6 (by simp) ?_
 unfold ja8;simp only [go_sem,h91];refine vF (by simp only [go_sem]) (jyq hr hrun _ b e2 e3 (by simp only [go_sem];exact h90)) ?_
 rintro _ o1 ⟨rfl,j90,j91,j92,j93,j94,j95,j96,j97⟩;simp only [go_sem] at j91 j92 j93 j94 j95 j96 j97;rw [h91] at j91;exact ⟨.tup [],⟨by decide,rfl⟩,rfl,rfl,j90,j91,j92,j93,j94,j95,j96,j97⟩
theorem jik (y:Yd) (id task tri:Int) (ht:jt y≤2000000):kf Tryz.prog 121 [.agg (jb y),.c (.val (.int .i64 id)),.c (.val (.int .i64 task)),.c (.val (.int .i64 tri))] (.tup [(true,jb (jcZ y id task tri)),(false,[.val (.int .i64 (jaI y id task tri))])]):=by
 refine zi [[1,1,1,0,1,0]] Tryz.func121 jeX (by simp) ?_
 unfold jcy;simp only [C.ghs,C.ghAt,List.foldr];simp only [go_sem,jb];intro b4 b6 b8;refine jc (jX y ht) (by simp only [go_sem,jb]) fun ηc=>?_
 simp only [go_sem,jb];intro b10;refine jc (jij y id task tri ht) (by simp only [go_sem,jb]) fun η=>?_
 simp only [go_sem,jb];cases h0:jaI y id task tri==0
 ·have hy:jcZ y id task tri=y:=by rw [jcZ,if_neg (by simpa using h0)]
  simp only [go_sem,jb,h0,hy];refine qh _ _ _ _ _ ?_;simp only [go_sem,jb]
 have h0':jaI y id task tri=0:=by simpa using h0
 obtain ⟨hok,hneg⟩:=jos h0';obtain ⟨k,r,hrk,hr,hid,h8⟩:=qU hneg;obtain ⟨t,rfl,hrun⟩:=jpe h0' hrk hr;have hY:jcZ y id t tri=qc y k (qv r t):=by rw [jcZ,if_pos h0',hrk,Int.toNat_natCast,hr,Option.getD_some]
 have hr12:r.tasks.length≤12:=(hok.right r (List.mem_of_getElem? hr)).le12;rw [hY,h0'];simp only [go_sem,jb,h0];refine vh ?_;generalize ηc 2=η2 at*;generalize ηc 3=η3 at*;refine WkK.wk (s':=St.of [(1,Ni id),(4,Bx 93 b4),(6,Bx 91 b6),(8,Bx 92 b8),(10,Bx 90 b10),(11,Ni 0)] [(93,Bi b4 tYd (jb y)),(91,.box b6 jfE [.a (.v (.int .i64 t))]),(92,ZYd b8 tYd),(90,ky b10 tYd y.now y.seq y.shelf η2 y.runs η3)]) (jk [some 400,some 600,some 800,some 1000] (by simp only [go_sem,jb]<;>and_intros<;>first|rfl|assumption)) ?_
 refine WkK.of ?_;simp only [go_sem,jb];refine jc (qm y id) (by simp only [go_sem,jb]) fun η=>?_
 simp only [go_sem,jb];rw [hrk];refine vF (vs:=[Bx 90 b10,Ni k,.fn 222 [.bp 91 0 b6]]) (by simp only [go_sem]) (jcP hr (jdS r t) hr12 hok.four (by have:=hok.seq;omega) ht (jly hr hrun) (e2:=η2) (e3:=η3) (by simp only [go_sem]) (by simp only [go_sem])) ?_
 rintro _ o1 ⟨rfl,⟨e2',e3',j90⟩,j91,j92,j93,j94,j95,j96⟩;simp only [go_sem] at j92;generalize qc y k (qv r t)=y2 at*;simp only [go_sem,j90,j92];refine qh _ _ _ _ _ ?_;simp only [go_sem,jb]
end Go.Proofs.YtmnpailnelmpiaaGreat
