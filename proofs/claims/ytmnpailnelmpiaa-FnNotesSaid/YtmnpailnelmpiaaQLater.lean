/- Parts. -/
import Derived.Test.YtmnpailnelmpiaaQReadV
set_option linter.unusedSimpArgs false
set_option linter.unusedVariables false
set_option maxHeartbeats 8000000
set_option maxRecDepth 100000
namespace Go.Proofs.Ytmnpailnelmpiaa
open Go.RowKit Go.Sort
noncomputable def jiB (y:Yd) (id task tri:Int):Yd:=if jgE y id task tri=0 then qi y (runAt y id).toNat (qV ((y.runs[(runAt y id).toNat]?).getD default) task) else y
def jbK:C:=iS [iA 4 (.box 42 4 (.t 0)),iA 8 (.alloc 42 [.int .i64 0,.int .i64 0,.slice none 0 0,.slice none 0 0]),iA 9 (iN 0)] (iS [iA 13 (iT 4 4),iA 14 (.call 143 [.t 13]),iA 10 (.alloc 42 [.int .i64 0,.int .i64 0,.slice none 0 0,.slice none 0 0]),iC (.st 4 [none,none,some (1,74),some (8,78)] (.t 10) (.t 14))] (iS [iA 15 (iT 4 4),iA 16 (iM 1),iA 17 (iM 2),iA 18 (iM 3),iA 19 (.call 167 [.t 15,.t 16,.t 17,.t 18]),iA 11 (iM 19)] (.seq (iS [iA 20 (iM 11),iA 21 (iQ .neq 3 20 0)] (iD 21 (iS [iA 22 (iT 4 10),iA 23 (iM 11),iC (.st 4 [none,none,some (1,74),some (8,78)] (.t 8) (.t 22)),iA 9 (iM 23)] .ret) .skip)) (iS [iA 24 (iT 4 4),iA 25 (iM 1),iA 26 (.call 82 [.t 24,.t 25]),iA 12 (iM 26)] (.seq (.dreg (T.pure 0 (iA 27 (iT 4 10)) (T.pure 1 (iA 28 (iM 12)) (T.pure 2 (iA 29 (iF 3 10)) (T.pure 3 (iA 30 (iL 29)) (T.pure 4 (iA 31 (iM 12)) (T.pure 5 (iA 32 (iI 8 30 31)) (T.pure 6 (iA 33 (iT 8 32)) (T.pure 7 (iA 34 (iM 2)) (T.alt (iA 35 (.call 169 [.t 33,.t 34])) [1,0] (T.alt (iA 36 (.call 168 [.t 27,.t 28,.t 35])) [] (T.alt (iC (.st 4 [none,none,some (1,74),some (8,78)] (.t 8) (.t 36))) [] (T.pure 11 (iA 9 (iN 0)) T.done) T.stop) T.stop) T.stop)))))))))) .ret)))))
theorem jea:fnC Try.prog Try.f146=some (jbK,[.cell 8 true 4,.t 9],37):=by kernel_rfl
theorem jhn (y:Yd) (id task tri:Int) (ht:jS y≤2000000):kl Try.prog 146 [.agg (jc y),.c (.val (.int .i64 id)),.c (.val (.int .i64 task)),.c (.val (.int .i64 tri))] (.tup [(true,jc (jiB y id task tri)),(false,[.val (.int .i64 (jgE y id task tri))])]):=by
 refine jaq [[1,1,1,1,1,0]] Try.func146 jea (by simp) ?_
 unfold jbK;simp only [C.ghs,C.ghAt,List.foldr];simp only [go_sem,jc];intro b4 b8;refine jb (jT y ht) (by simp only [go_sem,jc]) fun ηc=>?_
 simp only [go_sem,jc];intro b10;refine jb (jdJ y id task tri ht) (by simp only [go_sem,jc]) fun η=>?_
 simp only [go_sem,jc];cases h0:jgE y id task tri !=0;rotate_left
 ·have hy:jiB y id task tri=y:=by rw [jiB,if_neg (by simpa using h0)]
  simp only [go_sem,jc,h0,hy];refine qv _ _ _ _ _ ?_;simp only [go_sem,jc]
 have h0':jgE y id task tri=0:=by simpa using h0
 obtain ⟨hok,hneg⟩:=jtu h0';obtain ⟨k,r,hrk,hr,hid,h8⟩:=vB hneg;have hk:=(List.getElem?_eq_some_iff.1 hr).1;have h0k:(k:Int)≥0:=by omega
 have hk0:¬(k:Int)<0:=by omega
 have hY:jiB y id task tri=qi y k (qV r task):=by rw [jiB,if_pos h0',hrk,Int.toNat_natCast,hr,Option.getD_some]
 rw [hY,h0'];simp only [go_sem,jc,h0];refine jb (kF y id) (by simp only [go_sem,jc]) fun η=>?_
 simp only [go_sem,jc];refine kK ?_;refine WkK.wk (s':=St.of [(2,Ni task),(8,Bx 92 b8),(10,Bx 90 b10),(12,Ni k)] [(92,ZYd b8 tYd),(90,ve b10 tYd y.now y.seq y.shelf (ηc 2) y.runs (ηc 3))]) (jl [some 800,some 1000] (by simp only [go_sem,jc,hrk]<;>and_intros<;>first|rfl|assumption|trivial)) ?_
 refine WkK.of ?_;have hrb:=jhc ht (List.mem_of_getElem? hr);simp only [go_sem,jc,hk0,h0k,hk,jnp hr,jkh hr,jd,ja];refine jb (jiq r task hrb.1 hrb.2) (by simp only [go_sem,jc,jd,ja,qa hr,kZ hr]) fun ηr=>?_
 simp only [go_sem,jc,jd,ja,qa hr,kZ hr];have hrl:(qV r task).tasks.length=r.tasks.length:=jhb r task;have hr12:r.tasks.length≤12:=(hok.right r (List.mem_of_getElem? hr)).le12;generalize qV r task=r2 at*;refine zc [some 90,some 92,some 3505,some 3507] [(90,ve b10 tYd y.now y.seq y.shelf (ηc 2) y.runs (ηc 3)),(92,ZYd b8 tYd),(97,.loose (jt r2.plan.edges) (ηr 5)),(98,.loose (jI r2.tasks) (ηr 7))] [.agg [.v (.int .i64 y.now),.v (.int .i64 y.seq),.h 90 2 [] (ηc 2 []),.h 90 3 [] (ηc 3 [])],Ni k,.agg [.v (.int .i64 r2.id),.v (.int .i64 r2.plan.prio),.v (.int .i64 r2.plan.most),.v (.int .i64 r2.plan.wait),.v (.int .i64 r2.plan.tasks),.h 97 0 [] (ηr 5 []),.v (.int .i64 r2.state),.h 98 0 [] (ηr 7 [])]] (by simp only [go_sem]<;>and_intros<;>rfl) (by simp only [go_sem]<;>and_intros<;>rfl) (jdU hr hrl hr12 hok.four (by have:=hok.seq;omega) ht rfl rfl rfl) ?_
 rintro _ o1 ⟨c,g2,g3,x2,x3,rfl,j99,j90,j91,j92,j93,j94,j95,j96⟩;have j92':o1 92=ZYd b8 tYd:=j92;generalize qi y k r2=z2 at*;simp only [go_sem,j99,j90,j92'];refine qv _ _ _ _ _ ?_;simp only [go_sem,jc,j99,j90,j92']
theorem jau {p:Pl} {ts ts':List Tk} (h:∀b:Int,(stT ts' b !=4)=(stT ts b !=4)) (t:Int):zG p ts' t=zG p ts t:=by
 simp only [zG,h]
theorem jmy {ts:List Tk} {t:Nat} {x y:Tk} (hx:ts[t]?=some x) (h:(y.state !=4)=(x.state !=4)) (b:Int):(stT (ts.set t y) b !=4)=(stT ts b !=4):=by
 have ht:=(List.getElem?_eq_some_iff.1 hx).1;simp only [stT,List.getElem?_set];by_cases e:t=b.toNat
 ·rw [if_pos e,←e,if_pos ht,hx];exact h
 ·rw [if_neg e]
theorem jzW {s:Int} {ts:List Tk} {t:Nat} (ht:t<ts.length) (h1:∀(j:Nat) (x:Tk),ts[j]?=some x→(x.state=s↔j=t)):cS s ts=1:=by
 have e:(List.range ts.length).filter (fun (j:Nat)=>stT ts (j:Int)==s)=(List.range ts.length).filter (fun j=>j==t):=by
  refine List.filter_congr fun j hj=>?_
  rw [List.mem_range] at hj;have hx:ts[j]?=some ts[j]:=List.getElem?_eq_getElem hj;rw [kq hx,Bool.eq_iff_iff,beq_iff_eq,beq_iff_eq];exact h1 j _ hx
 have:(List.range ts.length).count t=1:=by rw [List.count_range,if_pos ht]
 simp only [cS,ja4,vh,e,List.length_map];rw [←this,List.count_eq_length_filter]
theorem joe (j:Nat) (x:Tk):((jx j x).state !=4)=(x.state !=4):=by
 unfold jx;split
 ·rename_i h
  have:(x.state !=4)=true:=by simpa using h.1
  rw [this];rfl
 ·rfl
theorem jdR {f:Nat→Tk→Tk} {ts:List Tk} {j:Nat} {z:Tk} (h:(vi f ts ts.length)[j]?=some z):∃x,ts[j]?=some x∧z=f j x:=by
 simp only [vi,List.getElem?_mapIdx,Option.map_eq_some_iff] at h;obtain ⟨x,hx,rfl⟩:=h;exact ⟨x,hx,by rw [if_pos (List.getElem?_eq_some_iff.1 hx).1]⟩
theorem taskB_iff {p:Pl} {ts:List Tk} {t:Nat} {x:Tk}:kt p ts t x=true↔(1≤x.state∧x.state≤6)∧x.need=zG p ts t∧(0≤x.tri∧x.tri≤p.most)∧jf7 x=true∧vE p x=true:=by
 simp only [kt,inB,Bool.and_eq_true,decide_eq_true_eq,beq_iff_eq,and_assoc]
theorem jlX {r:Rn} {t:Nat} {x:Tk} (h:RunOkP r) (hx:r.tasks[t]?=some x) (hs:x.state=3):RunOkP (vM r t x):=by
 obtain ⟨e1,e2,e3,e4⟩:=h.runs hx hs;have ht:=(List.getElem?_eq_some_iff.1 hx).1;have hx1:=taskB_iff.1 (h.tasks t x hx);have hl:=hx1.2.2.2.2
 have hl3:x.need=0∧1≤x.tri:=by
  simpa [vE,hs] using hl
 unfold vM;split
 ·rename_i hm
  have hN:∀j:Int,zG r.plan (r.tasks.set t ⟨2,x.need,x.tri,0⟩) j=zG r.plan r.tasks j:=jau (jmy hx (by simp [hs]))
  have c5:cS 5 (r.tasks.set t ⟨2,x.need,x.tri,0⟩)=0:=jcl (jfM (q:=fun s=>s≠5) (by simp) fun y hy=>by obtain ⟨k,hk,rfl⟩:=List.getElem_of_mem hy;exact jqu e2 (List.getElem?_eq_getElem hk))
  have c6:cS 6 (r.tasks.set t ⟨2,x.need,x.tri,0⟩)=0:=jcl (jfM (q:=fun s=>s≠6) (by simp) fun y hy=>by obtain ⟨k,hk,rfl⟩:=List.getElem_of_mem hy;exact jqu e3 (List.getElem?_eq_getElem hk))
  have hst:∀z∈r.tasks.set t ⟨2,x.need,x.tri,0⟩,1≤z.state∧z.state≤6:=jfM (q:=fun s=>1≤s∧s≤6) (by simp) h.st
  have c2:=joD (s:=2) (List.getElem?_set_self ht:(r.tasks.set t ⟨2,x.need,x.tri,0⟩)[t]?=some _) rfl;have hsum:=jba hst _ (Nat.le_refl _);change cS 1 _+cS 2 _+cS 3 _+cS 4 _+cS 5 _+cS 6 _=_ at hsum;refine ⟨h.id,h.plan,by rw [List.length_set];exact h.len,fun j z hz=>?_,?_,h.live⟩
  ·dsimp only at hz⊢
   rw [List.getElem?_set] at hz;by_cases e:t=j
   ·subst e
    rw [if_pos rfl,if_pos ht] at hz;obtain rfl:=Option.some.inj hz;rw [taskB_iff,hN];exact ⟨by simp,hx1.2.1,hx1.2.2.1,rfl,by simp [vE,hl3.1,hm]⟩
   ·rw [if_neg e] at hz
    have:=taskB_iff.1 (h.tasks j z hz);rw [taskB_iff,hN];exact this
  ·dsimp only
   rw [e1,jkV,if_neg (by omega),c5,c6,if_neg (by omega),if_neg (by omega),if_pos ⟨rfl,rfl⟩]
 ·rename_i hm
  generalize hT:r.tasks.set t ⟨5,x.need,x.tri,0⟩=T;have hTl:T.length=r.tasks.length:=by rw [←hT,List.length_set]
  have hTt:T[t]?=some ⟨5,x.need,x.tri,0⟩:=by rw [←hT];exact List.getElem?_set_self ht
  have hTj:∀j,t≠j→T[j]?=r.tasks[j]?:=fun j hj=>by rw [←hT,List.getElem?_set_ne hj]
  rw [←hTl]
  have hM:∀(j:Nat) (z:Tk),(vi jx T T.length)[j]?=some z→(j=t∧z=⟨5,x.need,x.tri,0⟩)∨j≠t∧∃y,r.tasks[j]?=some y∧((y.state=4∧z=y)∨(y.state≠4∧z=⟨6,y.need,y.tri,0⟩)):=by
   intro j z hz;obtain ⟨y,hy,rfl⟩:=jdR hz;by_cases e:t=j
   ·subst e
    rw [hTt] at hy;obtain rfl:=Option.some.inj hy;exact .inl ⟨rfl,by simp [jx]⟩
   ·rw [hTj j e] at hy
    have h5:y.state≠5:=jqu e2 hy;refine .inr ⟨fun e'=>e e'.symm,y,hy,?_⟩
    by_cases e4:y.state=4
    ·exact .inl ⟨e4,by simp [jx,e4]⟩
    ·exact .inr ⟨e4,by simp [jx,e4,h5]⟩
  have hst4:∀b:Int,(stT (vi jx T T.length) b !=4)=(stT r.tasks b !=4):=by
   intro b;rw [←jmy hx (y:=⟨5,x.need,x.tri,0⟩) (by simp [hs]),hT]
   simp only [stT,vi,List.getElem?_mapIdx];cases hb:T[b.toNat]? with
   |none=>rfl
   |some z=>simp only [Option.map_some,Option.getD_some,if_pos (List.getElem?_eq_some_iff.1 hb).1,joe]
  have hN:=fun j=>jau (p:=r.plan) hst4 j
  have hlen:(vi jx T T.length).length=T.length:=zt
  have hst:∀z∈vi jx T T.length,4≤z.state∧z.state≤6:=fun z hz=>by
   obtain ⟨k,hk,rfl⟩:=List.getElem_of_mem hz;rcases hM k _ (List.getElem?_eq_getElem hk) with ⟨_,h1⟩|⟨_,y,_,⟨h1,h2⟩|⟨_,h2⟩⟩
   ·rw [h1];simp
   ·rw [h2];omega
   ·rw [h2];simp
  have c1:cS 1 (vi jx T T.length)=0:=jcl fun z hz=>by have:=hst z hz;omega
  have c2:cS 2 (vi jx T T.length)=0:=jcl fun z hz=>by have:=hst z hz;omega
  have c3:cS 3 (vi jx T T.length)=0:=jcl fun z hz=>by have:=hst z hz;omega
  have c5:cS 5 (vi jx T T.length)=1:=by
   refine jzW (t:=t) (by rw [hlen,hTl];exact ht) fun j z hz=>?_
   rcases hM j z hz with ⟨h1,h2⟩|⟨h1,y,_,⟨h2,h3⟩|⟨_,h3⟩⟩
   ·rw [h2];simp [h1]
   ·rw [h3];simp [h1,h2]
   ·rw [h3];simp [h1]
  have hsum:=jba (fun z hz=>by have:=hst z hz;omega) _ (Nat.le_refl (vi jx T T.length).length)
  change cS 1 _+cS 2 _+cS 3 _+cS 4 _+cS 5 _+cS 6 _=_ at hsum;refine ⟨h.id,h.plan,by dsimp only;rw [hlen,hTl];exact h.len,fun j z hz=>?_,?_,by simp⟩
  ·dsimp only at hz⊢
   rw [taskB_iff,hN];rcases hM j z hz with ⟨rfl,rfl⟩|⟨h1,y,hy,⟨h2,rfl⟩|⟨h2,rfl⟩⟩
   ·exact ⟨by simp,hx1.2.1,hx1.2.2.1,rfl,by simp [vE,hl3.1,hl3.2]⟩
   ·exact taskB_iff.1 (h.tasks j _ hy)
   ·have h3:=taskB_iff.1 (h.tasks j _ hy)
    exact ⟨by simp,h3.2.1,h3.2.2.1,rfl,by simp [vE]⟩
  ·dsimp only
   rw [jkV,if_neg (by omega),if_pos ⟨c5,by omega⟩]
theorem jmF {r:Rn} (t:Int) (h:RunOkP r):RunOkP (jK r t):=by
 cases hr:vS r t with
 |false=>rw [jc8 hr];exact h
 |true=>
  obtain ⟨k,x,rfl,hx,hs,_⟩:=jb0 hr;rw [qJ hx hr];exact jlX h hx hs
theorem jjH {r:Rn} {t:Nat} {x:Tk} (h:RunOkP r) (hx:r.tasks[t]?=some x) (hs:x.state=3):vS r t=true:=by
 have ht:=(List.getElem?_eq_some_iff.1 hx).1;simp only [vS,inB,Bool.and_eq_true,decide_eq_true_eq,beq_iff_eq,kq hx,runOk_iff];exact ⟨⟨by omega,hs⟩,h⟩
theorem jiY {r:Rn} {t:Int} {j:Nat} {z:Tk} (hz:(jK r t).tasks[j]?=some z) (hs:z.state=3):r.tasks[j]?=some z:=by
 cases hr:vS r t with
 |false=>rwa [jc8 hr] at hz
 |true=>
  obtain ⟨k,x,rfl,hx,hs',_⟩:=jb0 hr;rw [qJ hx hr,vM] at hz;have hk:=(List.getElem?_eq_some_iff.1 hx).1;split at hz
  ·dsimp only at hz
   rw [List.getElem?_set] at hz;by_cases e:k=j
   ·subst e
    rw [if_pos rfl,if_pos hk] at hz;obtain rfl:=Option.some.inj hz;cases hs
   ·rw [if_neg e] at hz;exact hz
  ·dsimp only at hz
   have e:r.tasks.length=(r.tasks.set k ⟨5,x.need,x.tri,0⟩).length:=by rw [List.length_set]
   rw [e] at hz;obtain ⟨y,hy,rfl⟩:=jdR hz;unfold jx at hs;split at hs
   ·cases hs
   ·rename_i h
    exact absurd ⟨by omega,by omega⟩ h
theorem jc9 (r:Rn) (t:Int):(jK r t).id=r.id∧(jK r t).plan=r.plan:=by
 unfold jK;split
 ·unfold vM;split<;>exact ⟨rfl,rfl⟩
 ·exact ⟨rfl,rfl⟩
structure LaterP (y z:Yd):Prop where
 len:z.runs.length=y.runs.length
 runs:∀(k:Nat) (r:Rn),y.runs[k]?=some r→∃r',z.runs[k]?=some r'∧r'.id=r.id∧r'.plan=r.plan∧RunOkP r'∧r'.tasks.length=r.tasks.length∧∀(t:Nat) (x:Tk),r'.tasks[t]?=some x→x.state=3→r.tasks[t]?=some x
theorem LaterP.refl {y:Yd} (h:YardOkP y):LaterP y y:=⟨rfl,fun k r hr=>⟨r,hr,rfl,rfl,h.right r (List.mem_of_getElem? hr),rfl,fun _ _ h _=>h⟩⟩
theorem jud:∀{l m:List Rn} (id:Int),l.map (·.id)=m.map (·.id)→jeN l id=jeN m id:=by
 intro l m id h;have e:∀l:List Rn,l.findIdx? (fun r=>r.id==id)=(l.map (·.id)).findIdx? (· ==id):=fun l=>by rw [List.findIdx?_map];rfl
 simp only [jeN,e,h]
theorem LaterP.ids {y z:Yd} (h:LaterP y z):z.runs.map (·.id)=y.runs.map (·.id):=by
 apply List.ext_getElem?
 intro k;simp only [List.getElem?_map];cases hr:y.runs[k]? with
 |none=>
  have:z.runs[k]?=none:=by rw [List.getElem?_eq_none_iff] at hr⊢;rw [h.len];exact hr
  rw [this]
 |some r=>
  obtain ⟨r',h1,h2,_⟩:=h.runs k r hr;rw [h1];simp [h2]
theorem LaterP.runAt {y z:Yd} (h:LaterP y z) (id:Int):runAt z id=runAt y id:=by
 unfold Go.Proofs.Ytmnpailnelmpiaa.runAt;rw [h.len,jud id h.ids]
noncomputable def failK (y:Yd) (k t:Nat):Yd:=if stT ((y.runs[k]?).getD default).tasks t==3 then qi y k (jK ((y.runs[k]?).getD default) t) else y
theorem ja9 (y:Yd) (k:Nat) (r:Rn):(qi y k r).runs=y.runs.set k r:=rfl
theorem LaterP.fail {y z:Yd} (h:LaterP y z) (k t:Nat):LaterP y (failK z k t):=by
 unfold failK;split
 ·cases hk:y.runs[k]? with
  |none=>
   have hk2:z.runs[k]?=none:=by rw [List.getElem?_eq_none_iff] at hk⊢;rw [h.len];exact hk
   rename_i hs;rw [hk2] at hs;simp [stT] at hs;cases hs
  |some r=>
   obtain ⟨r',h1,h2,h3,h4,h5,h6⟩:=h.runs k r hk;have hk':=(List.getElem?_eq_some_iff.1 h1).1;rw [h1,Option.getD_some];refine ⟨by rw [ja9,List.length_set];exact h.len,fun j q hq=>?_⟩
   rw [ja9,List.getElem?_set];by_cases e:k=j
   ·subst e
    rw [hk] at hq;obtain rfl:=Option.some.inj hq;rw [if_pos rfl,if_pos hk'];have hi:=jc9 r' t;refine ⟨_,rfl,by rw [hi.1];exact h2,by rw [hi.2];exact h3,jmF _ h4,by rw [qk];exact h5,fun i x hx hs=>h6 i x (jiY hx hs) hs⟩
   ·rw [if_neg e];exact h.runs j q hq
 ·exact h
structure StepI (y z:Yd) (i:Nat):Prop where
 later:LaterP y z
 four:z.shelf.length=4
 seq:1≤z.seq∧z.seq≤1000000000+12*i
 tot:jS z≤jS y+12*i
 now:z.now=y.now
theorem StepI.refl {y:Yd} (h:YardOkP y):StepI y y 0:=⟨.refl h,h.four,by have:=h.seq;omega,Nat.le_refl _,rfl⟩
theorem StepI.mono {y z:Yd} {i j:Nat} (h:StepI y z i) (hij:i≤j):StepI y z j:=⟨h.later,h.four,by have:=h.seq;omega,by have:=h.tot;omega,h.now⟩
theorem jtP {y:Yd} {k:Nat} {r r2:Rn} (hr:y.runs[k]?=some r) (ht:za r2=za r) (hl:r2.tasks.length≤12):jS (qi y k r2)≤jS y+12:=by
 have h1:=jwk (y:=⟨y.now,y.seq,y.shelf,y.runs.set k r2⟩) (r:=r2) (ids:=vu ((y.runs[k]?).getD default).tasks r2.tasks r2.tasks.length);have h2:=jdP ((y.runs[k]?).getD default).tasks r2.tasks r2.tasks.length;have h3:=qj (f:=za) r2 hr
 have h4:jS ⟨y.now,y.seq,y.shelf,y.runs.set k r2⟩=jS y:=by
  simp only [jS,jfJ,List.length_set];omega
 rw [qi];omega
theorem jt8 (y:Yd) (k:Nat) (r2:Rn):y.seq≤(qi y k r2).seq∧(qi y k r2).seq≤y.seq+r2.tasks.length:=by
 have h2:=jdP ((y.runs[k]?).getD default).tasks r2.tasks r2.tasks.length;have h1:=zu r2.plan.prio r2.id (vu ((y.runs[k]?).getD default).tasks r2.tasks r2.tasks.length) ((y.shelf[shN r2.id]?).getD default,y.seq);have e:(qi y k r2).seq=(zw r2.plan.prio r2.id (vu ((y.runs[k]?).getD default).tasks r2.tasks r2.tasks.length) ((y.shelf[shN r2.id]?).getD default,y.seq)).2:=rfl;rw [e,h1];dsimp only;omega
theorem jsD (y:Yd) (k:Nat) (r2:Rn):(qi y k r2).shelf.length=y.shelf.length:=by
 have e:(qi y k r2).shelf=y.shelf.set (shN r2.id) (zw r2.plan.prio r2.id (vu ((y.runs[k]?).getD default).tasks r2.tasks r2.tasks.length) ((y.shelf[shN r2.id]?).getD default,y.seq)).1:=rfl;rw [e,List.length_set]
theorem StepI.fail {y z:Yd} {i:Nat} (h:StepI y z i) (k t:Nat):StepI y (failK z k t) (i+1):=by
 have hL:=h.later.fail k t;cases hc:(stT ((z.runs[k]?).getD default).tasks t==3) with
 |false=>
  have e:failK z k t=z:=by unfold failK;rw [hc];rfl
  rw [e];exact h.mono (Nat.le_succ i)
 |true=>
  have e:failK z k t=qi z k (jK ((z.runs[k]?).getD default) t):=by unfold failK;rw [hc];rfl
  cases hk:y.runs[k]? with
  |none=>
   have hk2:z.runs[k]?=none:=by rw [List.getElem?_eq_none_iff] at hk⊢;rw [h.later.len];exact hk
   rw [hk2] at hc;simp [stT] at hc;cases hc
  |some r=>
   obtain ⟨r',h1,h2,h3,h4,h5,h6⟩:=h.later.runs k r hk;rw [h1,Option.getD_some] at e;have hl:=qk r' t;have h12:=h4.le12;have hs:=jt8 z k (jK r' t);have:=h.seq;have:=h.tot;have hT:=jtP (r2:=jK r' t) h1 (jk9 r' t) (by omega)
   rw [e] at hL⊢;exact ⟨hL,by rw [jsD];exact h.four,by omega,by omega,h.now⟩
noncomputable def restT (z:Yd) (k:Nat):Nat→Yd
 |0=>z
 |t+1=>failK (restT z k t) k t
noncomputable def restR (y:Yd):Nat→Yd
 |0=>y
 |k+1=>restT (restR y k) k ((y.runs[k]?).getD default).tasks.length
theorem StepI.restT {y z:Yd} {i:Nat} (h:StepI y z i) (k:Nat):∀t,StepI y (restT z k t) (i+t)
 |0=>h
 |t+1=>(StepI.restT h k t).fail k t
theorem StepI.restR {y:Yd} (h:YardOkP y):∀k,StepI y (restR y k) (12*k)
 |0=>.refl h
 |k+1=>by
  refine ((StepI.restR h k).restT k _).mono ?_;cases hk:y.runs[k]? with
  |none=>rw [Option.getD_none];have:(default:Rn).tasks.length=0:=rfl;omega
  |some r=>
   have:=(h.right r (List.mem_of_getElem? hk)).le12;rw [Option.getD_some];omega
noncomputable def jif (y:Yd):Yd:=if jJ y then restR y y.runs.length else y
noncomputable def jiz (y:Yd) (id task tri:Int):Yd:=if jgE y id task tri=0 then qi y (runAt y id).toNat (jK ((y.runs[(runAt y id).toNat]?).getD default) task) else y
def jh1:C:=iS [iA 4 (.box 42 4 (.t 0)),iA 8 (.alloc 42 [.int .i64 0,.int .i64 0,.slice none 0 0,.slice none 0 0]),iA 9 (iN 0)] (iS [iA 13 (iT 4 4),iA 14 (.call 143 [.t 13]),iA 10 (.alloc 42 [.int .i64 0,.int .i64 0,.slice none 0 0,.slice none 0 0]),iC (.st 4 [none,none,some (1,74),some (8,78)] (.t 10) (.t 14))] (iS [iA 15 (iT 4 4),iA 16 (iM 1),iA 17 (iM 2),iA 18 (iM 3),iA 19 (.call 167 [.t 15,.t 16,.t 17,.t 18]),iA 11 (iM 19)] (.seq (iS [iA 20 (iM 11),iA 21 (iQ .neq 3 20 0)] (iD 21 (iS [iA 22 (iT 4 10),iA 23 (iM 11),iC (.st 4 [none,none,some (1,74),some (8,78)] (.t 8) (.t 22)),iA 9 (iM 23)] .ret) .skip)) (iS [iA 24 (iT 4 4),iA 25 (iM 1),iA 26 (.call 82 [.t 24,.t 25]),iA 12 (iM 26)] (.seq (.dreg (T.pure 0 (iA 27 (iT 4 10)) (T.pure 1 (iA 28 (iM 12)) (T.pure 2 (iA 29 (iF 3 10)) (T.pure 3 (iA 30 (iL 29)) (T.pure 4 (iA 31 (iM 12)) (T.pure 5 (iA 32 (iI 8 30 31)) (T.pure 6 (iA 33 (iT 8 32)) (T.pure 7 (iA 34 (iM 2)) (T.alt (iA 35 (.call 170 [.t 33,.t 34])) [1,0] (T.alt (iA 36 (.call 168 [.t 27,.t 28,.t 35])) [] (T.alt (iC (.st 4 [none,none,some (1,74),some (8,78)] (.t 8) (.t 36))) [] (T.pure 11 (iA 9 (iN 0)) T.done) T.stop) T.stop) T.stop)))))))))) .ret)))))
theorem jiF:fnC Try.prog Try.f147=some (jh1,[.cell 8 true 4,.t 9],37):=by kernel_rfl
theorem jmO (y:Yd) (id task tri:Int) (ht:jS y≤2000000):kl Try.prog 147 [.agg (jc y),.c (.val (.int .i64 id)),.c (.val (.int .i64 task)),.c (.val (.int .i64 tri))] (.tup [(true,jc (jiz y id task tri)),(false,[.val (.int .i64 (jgE y id task tri))])]):=by
 refine jaq [[1,1,1,1,1,0]] Try.func147 jiF (by simp) ?_
 unfold jh1;simp only [C.ghs,C.ghAt,List.foldr];simp only [go_sem,jc];intro b4 b8;refine jb (jT y ht) (by simp only [go_sem,jc]) fun ηc=>?_
 simp only [go_sem,jc];intro b10;refine jb (jdJ y id task tri ht) (by simp only [go_sem,jc]) fun η=>?_
 simp only [go_sem,jc];cases h0:jgE y id task tri !=0;rotate_left
 ·have hy:jiz y id task tri=y:=by rw [jiz,if_neg (by simpa using h0)]
  simp only [go_sem,jc,h0,hy];refine qv _ _ _ _ _ ?_;simp only [go_sem,jc]
 have h0':jgE y id task tri=0:=by simpa using h0
 obtain ⟨hok,hneg⟩:=jtu h0';obtain ⟨k,r,hrk,hr,hid,h8⟩:=vB hneg;have hk:=(List.getElem?_eq_some_iff.1 hr).1;have h0k:(k:Int)≥0:=by omega
 have hk0:¬(k:Int)<0:=by omega
 have hY:jiz y id task tri=qi y k (jK r task):=by rw [jiz,if_pos h0',hrk,Int.toNat_natCast,hr,Option.getD_some]
 rw [hY,h0'];simp only [go_sem,jc,h0];refine jb (kF y id) (by simp only [go_sem,jc]) fun η=>?_
 simp only [go_sem,jc];refine kK ?_;refine WkK.wk (s':=St.of [(2,Ni task),(8,Bx 92 b8),(10,Bx 90 b10),(12,Ni k)] [(92,ZYd b8 tYd),(90,ve b10 tYd y.now y.seq y.shelf (ηc 2) y.runs (ηc 3))]) (jl [some 800,some 1000] (by simp only [go_sem,jc,hrk]<;>and_intros<;>first|rfl|assumption|trivial)) ?_
 refine WkK.of ?_;have hrb:=jhc ht (List.mem_of_getElem? hr);simp only [go_sem,jc,hk0,h0k,hk,jnp hr,jkh hr,jd,ja];refine jb (zd r task hrb.1 hrb.2) (by simp only [go_sem,jc,jd,ja,qa hr,kZ hr]) fun ηr=>?_
 simp only [go_sem,jc,jd,ja,qa hr,kZ hr];have hrl:(jK r task).tasks.length=r.tasks.length:=qk r task;have hr12:r.tasks.length≤12:=(hok.right r (List.mem_of_getElem? hr)).le12;generalize jK r task=r2 at*;refine zc [some 90,some 92,some 3505,some 3507] [(90,ve b10 tYd y.now y.seq y.shelf (ηc 2) y.runs (ηc 3)),(92,ZYd b8 tYd),(97,.loose (jt r2.plan.edges) (ηr 5)),(98,.loose (jI r2.tasks) (ηr 7))] [.agg [.v (.int .i64 y.now),.v (.int .i64 y.seq),.h 90 2 [] (ηc 2 []),.h 90 3 [] (ηc 3 [])],Ni k,.agg [.v (.int .i64 r2.id),.v (.int .i64 r2.plan.prio),.v (.int .i64 r2.plan.most),.v (.int .i64 r2.plan.wait),.v (.int .i64 r2.plan.tasks),.h 97 0 [] (ηr 5 []),.v (.int .i64 r2.state),.h 98 0 [] (ηr 7 [])]] (by simp only [go_sem]<;>and_intros<;>rfl) (by simp only [go_sem]<;>and_intros<;>rfl) (jdU hr hrl hr12 hok.four (by have:=hok.seq;omega) ht rfl rfl rfl) ?_
 rintro _ o1 ⟨c,g2,g3,x2,x3,rfl,j99,j90,j91,j92,j93,j94,j95,j96⟩;have j92':o1 92=ZYd b8 tYd:=j92;generalize qi y k r2=z2 at*;simp only [go_sem,j99,j90,j92'];refine qv _ _ _ _ _ ?_;simp only [go_sem,jc,j99,j90,j92']
def jcU:C:=iS [iA 1 (.box 42 4 (.t 0)),iA 2 (.alloc 42 [.int .i64 0,.int .i64 0,.slice none 0 0,.slice none 0 0])] (iS [iA 6 (iT 4 1),iA 7 (.call 143 [.t 6]),iA 3 (.alloc 42 [.int .i64 0,.int .i64 0,.slice none 0 0,.slice none 0 0]),iC (.st 4 [none,none,some (1,74),some (8,78)] (.t 3) (.t 7))] (.seq (iS [iA 8 (iT 4 1),iA 9 (.call 45 [.t 8]),iA 10 (iU 9)] (iD 10 (iS [iA 11 (iT 4 3),iC (.st 4 [none,none,some (1,74),some (8,78)] (.t 2) (.t 11))] .ret) .skip)) (.seq (iS [iA 4 (iN 0)] (.blk 0 (.loop (.seq (iS [iA 12 (iM 4),iA 13 (iF 3 3),iA 14 (iL 13),iA 15 (iG 14),iA 16 (iP .lss 3 12 15)] (iD 16 .skip (.exit 0))) (.seq (.blk 1 (iS [iA 5 (iN 0)] (.blk 2 (.loop (.seq (iS [iA 19 (iM 5),iA 20 (iF 3 3),iA 21 (iL 20),iA 22 (iM 4),iA 23 (iI 8 21 22),iA 24 (iF 7 23),iA 25 (iL 24),iA 26 (iG 25),iA 27 (iP .lss 3 19 26)] (iD 27 .skip (.exit 2))) (.seq (.blk 3 (iS [iA 30 (iF 3 3),iA 31 (iL 30),iA 32 (iM 4),iA 33 (iI 8 31 32),iA 34 (iF 7 33),iA 35 (iL 34),iA 36 (iM 5),iA 37 (iI 4 35 36),iA 38 (iF 0 37),iA 39 (iL 38),iA 40 (iQ .eql 3 39 3)] (iD 40 (.dreg (T.pure 0 (iA 41 (iT 4 3)) (T.pure 1 (iA 42 (iM 4)) (T.pure 2 (iA 43 (iF 3 3)) (T.pure 3 (iA 44 (iL 43)) (T.pure 4 (iA 45 (iM 4)) (T.pure 5 (iA 46 (iI 8 44 45)) (T.pure 6 (iA 47 (iT 8 46)) (T.pure 7 (iA 48 (iM 5)) (T.alt (iA 49 (.call 170 [.t 47,.t 48])) [1,0] (T.alt (iA 50 (.call 168 [.t 41,.t 42,.t 49])) [] (T.alt (iC (.st 4 [none,none,some (1,74),some (8,78)] (.t 3) (.t 50))) [] T.done T.stop) T.stop) T.stop)))))))))) .skip))) (.reg [iA 28 (iM 5),iA 29 (iQ .add 3 28 1),iA 5 (iM 29)]))))))) (.reg [iA 17 (iM 4),iA 18 (iQ .add 3 17 1),iA 4 (iM 18)])))))) (iS [iA 51 (iT 4 3),iC (.st 4 [none,none,some (1,74),some (8,78)] (.t 2) (.t 51))] .ret))))
theorem jfs:fnC Try.prog Try.f151=some (jcU,[.cell 2 true 4],52):=by kernel_rfl
theorem jis (y:Yd) (ht:jS y≤1990000):kl Try.prog 151 [.agg (jc y)] (.agg (jc (jif y))):=by
 refine jr Try.func151 jfs (by simp) ?_
 unfold jcU;have ht2:jS y≤2000000:=by omega
 simp only [go_sem,jc];intro b1 b2;refine jb (jT y ht2) (by simp only [go_sem,jc]) fun ηc=>?_
 simp only [go_sem,jc];intro b3;refine jb (kE y ht2) (by simp only [go_sem,jc]) fun η=>?_
 simp only [go_sem,jc];cases hok:jJ y
 ·have hy:jif y=y:=by simp [jif,hok]
  simp only [go_sem,jc,hok,hy]
 have hP:=yard_iff.1 hok;have hy:jif y=restR y y.runs.length:=by simp [jif,hok]
 rw [hy];simp only [go_sem,jc,hok];have h8:=hP.eight;refine jq (fun i:Nat×jm×jm=>St.of [(2,Bx 92 b2),(3,Bx 90 b3),(4,Ni i.1)] [(92,ZYd b2 tYd),(90,ve b3 tYd (restR y i.1).now (restR y i.1).seq (restR y i.1).shelf i.2.1 (restR y i.1).runs i.2.2)]) (fun i=>i.1≤y.runs.length) (fun i=>y.runs.length-i.1) (0,ηc 2,ηc 3) (by (try dsimp only);first|omega|(simp;done)|(and_intros<;>first|omega|simp)) (jl [some 200,some 300] (by simp only [go_sem,jc,restR]<;>and_intros<;>first|rfl|assumption|trivial)) ?_
 rintro ⟨k,e2,e3⟩ hk;dsimp only at hk;have hI:=StepI.restR hP k;by_cases hlt:k<y.runs.length
 ·obtain ⟨r0,hr0⟩:=je hlt
  have hr012:=(hP.right r0 (List.mem_of_getElem? hr0)).le12;have hnx:restR y (k+1)=restT (restR y k) k r0.tasks.length:=by rw [restR,hr0,Option.getD_some]
  have hIt:=hI.restT k;have hw:IntKind.i64.wrap ((k:Int)+1)=((k+1:Nat):Int):=jg (by omega) (by omega)
  have hlz:(restR y k).runs.length=y.runs.length:=hI.later.len;have hlt':(k:Int)<(restR y k).runs.length:=by omega
  generalize restR y k=z0 at*;simp only [go_sem,hlt'];refine jq (fun i:Nat×jm×jm=>St.of [(2,Bx 92 b2),(3,Bx 90 b3),(4,Ni k),(5,Ni i.1)] [(92,ZYd b2 tYd),(90,ve b3 tYd (restT z0 k i.1).now (restT z0 k i.1).seq (restT z0 k i.1).shelf i.2.1 (restT z0 k i.1).runs i.2.2)]) (fun i=>i.1≤r0.tasks.length) (fun i=>r0.tasks.length-i.1) (0,e2,e3) (by (try dsimp only);first|omega|(simp;done)|(and_intros<;>first|omega|simp)) (jl [some 92,some 90] (by simp only [go_sem,restT]<;>and_intros<;>first|rfl|assumption|trivial)) ?_
  rintro ⟨t,f2,f3⟩ hti;dsimp only at hti;have hJ:=hIt t;have hnt:restT z0 k (t+1)=failK (restT z0 k t) k t:=rfl;generalize hz:restT z0 k t=z at*;obtain ⟨r,hr,hid,hpl,hR,hrl,hr3⟩:=hJ.later.runs k r0 hr0;have hkl:=(List.getElem?_eq_some_iff.1 hr).1;have h0k:(k:Int)≥0:=by omega
  have h12:=hR.le12;by_cases hlt2:t<r0.tasks.length
  ·have hlt3:t<r.tasks.length:=by omega
   have hlt3':(t:Int)<r.tasks.length:=by omega
   have h0t:(t:Int)≥0:=by omega
   obtain ⟨x,hx⟩:=je hlt3;have hwt:IntKind.i64.wrap ((t:Int)+1)=((t+1:Nat):Int):=jg (by omega) (by omega)
   have hfy:failK z k t=if x.state==3 then qi z k (jK r t) else z:=by rw [failK,hr,Option.getD_some,kq hx]
   simp only [go_sem,Nat.add_zero,hkl,h0k,jmk hr,jlE hr,zx hr,hlt3',hlt3,h0t,jeD hx,zW hx];cases hs:x.state==3
   ·rw [hs,if_neg (by decide)] at hfy
    rw [hfy] at hnt;simp only [go_sem,hs,hwt];exact ⟨(t+1,f2,f3),by (try dsimp only);first|omega|assumption|(and_intros<;>first|omega|assumption),(jl [some 92,some 90] (by simp only [go_sem,hnt]<;>and_intros<;>first|rfl|assumption|trivial)),by (try dsimp only);omega⟩
   ·rw [hs,if_pos rfl] at hfy
    rw [hfy] at hnt;simp only [go_sem,hs,Nat.add_zero,hkl,h0k,jnp hr,jkh hr,jd,ja];refine jb (zd r t (by have:=jgL hR.plan;obtain ⟨n,_,_,_,h30,_⟩:=this;omega) (by omega)) (by simp only [go_sem,jd,ja,qa hr,kZ hr]) fun ηr=>?_
    simp only [go_sem,jd,ja,qa hr,kZ hr];have hl2:=qk r t;generalize jK r t=r2 at*;refine zc [some 90,some 92,some 4905,some 4907] [(90,ve b3 tYd z.now z.seq z.shelf f2 z.runs f3),(92,ZYd b2 tYd),(97,.loose (jt r2.plan.edges) (ηr 5)),(98,.loose (jI r2.tasks) (ηr 7))] [.agg [.v (.int .i64 z.now),.v (.int .i64 z.seq),.h 90 2 [] (f2 []),.h 90 3 [] (f3 [])],Ni k,.agg [.v (.int .i64 r2.id),.v (.int .i64 r2.plan.prio),.v (.int .i64 r2.plan.most),.v (.int .i64 r2.plan.wait),.v (.int .i64 r2.plan.tasks),.h 97 0 [] (ηr 5 []),.v (.int .i64 r2.state),.h 98 0 [] (ηr 7 [])]] (by simp only [go_sem]<;>and_intros<;>rfl) (by simp only [go_sem]<;>and_intros<;>rfl) (jdU hr hl2 h12 hJ.four (by have:=hJ.seq;omega) (by have:=hJ.tot;omega) rfl rfl rfl) ?_
    rintro _ o1 ⟨c,g2,g3,x2,x3,rfl,j99,j90,j91,j92,j93,j94,j95,j96⟩;have j92':o1 92=ZYd b2 tYd:=j92;generalize qi z k r2=z2 at*;simp only [go_sem,j99,j90,j92',hwt];exact ⟨(t+1,g2,g3),by (try dsimp only);first|omega|assumption|(and_intros<;>first|omega|assumption),(jl [some 92,some 90] (by simp only [go_sem,hnt,j90,j92']<;>and_intros<;>first|rfl|assumption|trivial)),by (try dsimp only);omega⟩
  ·have hlt3':¬(t:Int)<r.tasks.length:=by omega
   obtain rfl:t=r0.tasks.length:=by omega
   rw [hz] at hnx;simp only [go_sem,Nat.add_zero,hkl,h0k,jmk hr,jlE hr,zx hr,hlt3',hw];exact ⟨(k+1,f2,f3),by (try dsimp only);first|omega|assumption|(and_intros<;>first|omega|assumption),(jl [some 92,some 90] (by simp only [go_sem,hnx]<;>and_intros<;>first|rfl|assumption|trivial)),by (try dsimp only);omega⟩
 have hlz:(restR y k).runs.length=y.runs.length:=hI.later.len;have hlt':¬(k:Int)<(restR y k).runs.length:=by omega
 obtain rfl:k=y.runs.length:=by omega
 generalize restR y y.runs.length=z at*;simp only [go_sem,hlt',jc]
end Go.Proofs.Ytmnpailnelmpiaa
