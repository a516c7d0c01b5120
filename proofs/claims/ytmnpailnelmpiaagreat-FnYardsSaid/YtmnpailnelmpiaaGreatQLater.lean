/- Parts. -/
import Derived.Test.YtmnpailnelmpiaaGreatQChange
set_option linter.unusedSimpArgs false
set_option linter.unusedVariables false
set_option maxHeartbeats 8000000
set_option maxRecDepth 100000
namespace Go.Proofs.YtmnpailnelmpiaaGreat
open Go.RowKit Go.Sort
noncomputable def jdo (y:Yd) (id task tri:Int):Yd:=if jaO y id task tri=0 then kL y (runAt y id).toNat (qJ ((y.runs[(runAt y id).toNat]?).getD default) task) else y
def jcQ:C:=iS [iA 4 (.box 37 4 (.t 0)),iA 8 (.alloc 37 [.int .i64 0,.int .i64 0,.slice none 0 0,.slice none 0 0]),iA 9 (iN 0)] (iS [iA 13 (iT 4 4),iA 14 (.call 105 [.t 13]),iA 10 (.alloc 37 [.int .i64 0,.int .i64 0,.slice none 0 0,.slice none 0 0]),iC (.st 4 [none,none,some (1,102),some (8,108)] (.t 10) (.t 14))] (iS [iA 15 (iT 4 4),iA 16 (iM 1),iA 17 (iM 2),iA 18 (iM 3),iA 19 (.call 196 [.t 15,.t 16,.t 17,.t 18]),iA 11 (iM 19)] (.seq (iS [iA 20 (iM 11),iA 21 (iQ .neq 3 20 0)] (iD 21 (iS [iA 22 (iT 4 10),iA 23 (iM 11),iC (.st 4 [none,none,some (1,102),some (8,108)] (.t 8) (.t 22)),iA 9 (iM 23)] .ret) .skip)) (iS [iA 24 (iT 4 4),iA 25 (iM 1),iA 26 (.call 152 [.t 24,.t 25]),iA 12 (iM 26)] (.seq (.dreg (T.pure 0 (iA 27 (iT 4 10)) (T.pure 1 (iA 28 (iM 12)) (T.pure 2 (iA 29 (iF 3 10)) (T.pure 3 (iA 30 (iL 29)) (T.pure 4 (iA 31 (iM 12)) (T.pure 5 (iA 32 (iI 8 30 31)) (T.pure 6 (iA 33 (iT 8 32)) (T.pure 7 (iA 34 (iM 2)) (T.alt (iA 35 (.call 198 [.t 33,.t 34])) [1,0] (T.alt (iA 36 (.call 197 [.t 27,.t 28,.t 35])) [] (T.alt (iC (.st 4 [none,none,some (1,102),some (8,108)] (.t 8) (.t 36))) [] (T.pure 11 (iA 9 (iN 0)) T.done) T.stop) T.stop) T.stop)))))))))) .ret)))))
theorem jfr:fnC Tryz.prog Tryz.f108=some (jcQ,[.cell 8 true 4,.t 9],37):=by kernel_rfl
theorem jiS (y:Yd) (id task tri:Int) (ht:jK y≤2000000):kp Tryz.prog 108 [.agg (jb y),.c (.val (.int .i64 id)),.c (.val (.int .i64 task)),.c (.val (.int .i64 tri))] (.tup [(true,jb (jdo y id task tri)),(false,[.val (.int .i64 (jaO y id task tri))])]):=by
 refine zh [[1,1,1,1,1,0]] Tryz.func108 jfr (by simp) ?_
 unfold jcQ;simp only [C.ghs,C.ghAt,List.foldr];simp only [go_sem,jb];intro b4 b8;refine jc (ku y ht) (by simp only [go_sem,jb]) fun ηc=>?_
 simp only [go_sem,jb];intro b10;refine jc (jeZ y id task tri ht) (by simp only [go_sem,jb]) fun η=>?_
 simp only [go_sem,jb];cases h0:jaO y id task tri !=0;rotate_left
 ·have hy:jdo y id task tri=y:=by rw [jdo,if_neg (by simpa using h0)]
  simp only [go_sem,jb,h0,hy];refine qg _ _ _ _ _ ?_;simp only [go_sem,jb]
 have h0':jaO y id task tri=0:=by simpa using h0
 obtain ⟨hok,hneg⟩:=jn6 h0';obtain ⟨k,r,hrk,hr,hid,h8⟩:=qN hneg;have hk:=(List.getElem?_eq_some_iff.1 hr).1;have h0k:(k:Int)≥0:=by omega
 have hk0:¬(k:Int)<0:=by omega
 have hY:jdo y id task tri=kL y k (qJ r task):=by rw [jdo,if_pos h0',hrk,Int.toNat_natCast,hr,Option.getD_some]
 rw [hY,h0'];simp only [go_sem,jb,h0];refine jc (qi y id) (by simp only [go_sem,jb]) fun η=>?_
 simp only [go_sem,jb];refine kX ?_;refine WkK.wk (s':=St.of [(2,Ni task),(8,Bx 92 b8),(10,Bx 90 b10),(12,Ni k)] [(92,ZYd b8 tYd),(90,kt b10 tYd y.now y.seq y.shelf (ηc 2) y.runs (ηc 3))]) (jj [some 800,some 1000] (by simp only [go_sem,jb,hrk]<;>and_intros<;>first|rfl|assumption|trivial)) ?_
 refine WkK.of ?_;have hrb:=jcj ht (List.mem_of_getElem? hr);simp only [go_sem,jb,hk0,h0k,hk,jg3 hr,jcv hr,jd,ja];refine jc (jjU r task hrb.1 hrb.2) (by simp only [go_sem,jb,jd,ja,kb hr,kn hr]) fun ηr=>?_
 simp only [go_sem,jb,jd,ja,kb hr,kn hr];have hrl:(qJ r task).tasks.length=r.tasks.length:=jer r task;have hr12:r.tasks.length≤12:=(hok.right r (List.mem_of_getElem? hr)).le12;generalize qJ r task=r2 at*;refine jaf [some 90,some 92,some 3505,some 3507] [(90,kt b10 tYd y.now y.seq y.shelf (ηc 2) y.runs (ηc 3)),(92,ZYd b8 tYd),(97,.loose (jy r2.plan.edges) (ηr 5)),(98,.loose (jI r2.tasks) (ηr 7))] [.agg [.v (.int .i64 y.now),.v (.int .i64 y.seq),.h 90 2 [] (ηc 2 []),.h 90 3 [] (ηc 3 [])],Ni k,.agg [.v (.int .i64 r2.id),.v (.int .i64 r2.plan.prio),.v (.int .i64 r2.plan.most),.v (.int .i64 r2.plan.wait),.v (.int .i64 r2.plan.tasks),.h 97 0 [] (ηr 5 []),.v (.int .i64 r2.state),.h 98 0 [] (ηr 7 [])]] (by simp only [go_sem]<;>and_intros<;>rfl) (by simp only [go_sem]<;>and_intros<;>rfl) (je8 hr hrl hr12 hok.four (by have:=hok.seq;omega) ht rfl rfl rfl) ?_
 rintro _ o1 ⟨c,g2,g3,x2,x3,rfl,j99,j90,j91,j92,j93,j94,j95,j96⟩;have j92':o1 92=ZYd b8 tYd:=j92;generalize kL y k r2=z2 at*;simp only [go_sem,j99,j90,j92'];refine qg _ _ _ _ _ ?_;simp only [go_sem,jb,j99,j90,j92']
theorem jby {p:Pl} {ts ts':List Tk} (h:∀b:Int,(stT ts' b !=4)=(stT ts b !=4)) (t:Int):jat p ts' t=jat p ts t:=by
 simp only [jat,h]
theorem joj {ts:List Tk} {t:Nat} {x y:Tk} (hx:ts[t]?=some x) (h:(y.state !=4)=(x.state !=4)) (b:Int):(stT (ts.set t y) b !=4)=(stT ts b !=4):=by
 have ht:=(List.getElem?_eq_some_iff.1 hx).1;simp only [stT,List.getElem?_set];by_cases e:t=b.toNat
 ·rw [if_pos e,←e,if_pos ht,hx];exact h
 ·rw [if_neg e]
theorem jA4 {s:Int} {ts:List Tk} {t:Nat} (ht:t<ts.length) (h1:∀(j:Nat) (x:Tk),ts[j]?=some x→(x.state=s↔j=t)):cS s ts=1:=by
 have e:(List.range ts.length).filter (fun (j:Nat)=>stT ts (j:Int)==s)=(List.range ts.length).filter (fun j=>j==t):=by
  refine List.filter_congr fun j hj=>?_
  rw [List.mem_range] at hj;have hx:ts[j]?=some ts[j]:=List.getElem?_eq_getElem hj;rw [kv hx,Bool.eq_iff_iff,beq_iff_eq,beq_iff_eq];exact h1 j _ hx
 have:(List.range ts.length).count t=1:=by rw [List.count_range,if_pos ht]
 simp only [cS,qB,vN,e,List.length_map];rw [←this,List.count_eq_length_filter]
theorem jp0 (j:Nat) (x:Tk):((jA j x).state !=4)=(x.state !=4):=by
 unfold jA;split
 ·rename_i h
  have:(x.state !=4)=true:=by simpa using h.1
  rw [this];rfl
 ·rfl
theorem je2 {f:Nat→Tk→Tk} {ts:List Tk} {j:Nat} {z:Tk} (h:(qV f ts ts.length)[j]?=some z):∃x,ts[j]?=some x∧z=f j x:=by
 simp only [qV,List.getElem?_mapIdx,Option.map_eq_some_iff] at h;obtain ⟨x,hx,rfl⟩:=h;exact ⟨x,hx,by rw [if_pos (List.getElem?_eq_some_iff.1 hx).1]⟩
theorem taskB_iff {p:Pl} {ts:List Tk} {t:Nat} {x:Tk}:jR p ts t x=true↔(1≤x.state∧x.state≤6)∧x.need=jat p ts t∧(0≤x.tri∧x.tri≤p.most)∧ja0 x=true∧qT p x=true:=by
 simp only [jR,inB,Bool.and_eq_true,decide_eq_true_eq,beq_iff_eq,and_assoc]
theorem jnH {r:Rn} {t:Nat} {x:Tk} (h:RunOkP r) (hx:r.tasks[t]?=some x) (hs:x.state=3):RunOkP (zb r t x):=by
 obtain ⟨e1,e2,e3,e4⟩:=h.runs hx hs;have ht:=(List.getElem?_eq_some_iff.1 hx).1;have hx1:=taskB_iff.1 (h.tasks t x hx);have hl:=hx1.2.2.2.2
 have hl3:x.need=0∧1≤x.tri:=by
  simpa [qT,hs] using hl
 unfold zb;split
 ·rename_i hm
  have hN:∀j:Int,jat r.plan (r.tasks.set t ⟨2,x.need,x.tri,0⟩) j=jat r.plan r.tasks j:=jby (joj hx (by simp [hs]))
  have c5:cS 5 (r.tasks.set t ⟨2,x.need,x.tri,0⟩)=0:=jdw (jg7 (q:=fun s=>s≠5) (by simp) fun y hy=>by obtain ⟨k,hk,rfl⟩:=List.getElem_of_mem hy;exact jqx e2 (List.getElem?_eq_getElem hk))
  have c6:cS 6 (r.tasks.set t ⟨2,x.need,x.tri,0⟩)=0:=jdw (jg7 (q:=fun s=>s≠6) (by simp) fun y hy=>by obtain ⟨k,hk,rfl⟩:=List.getElem_of_mem hy;exact jqx e3 (List.getElem?_eq_getElem hk))
  have hst:∀z∈r.tasks.set t ⟨2,x.need,x.tri,0⟩,1≤z.state∧z.state≤6:=jg7 (q:=fun s=>1≤s∧s≤6) (by simp) h.st
  have c2:=jqw (s:=2) (List.getElem?_set_self ht:(r.tasks.set t ⟨2,x.need,x.tri,0⟩)[t]?=some _) rfl;have hsum:=jcb hst _ (Nat.le_refl _);change cS 1 _+cS 2 _+cS 3 _+cS 4 _+cS 5 _+cS 6 _=_ at hsum;refine ⟨h.id,h.plan,by rw [List.length_set];exact h.len,fun j z hz=>?_,?_,h.live⟩
  ·dsimp only at hz⊢
   rw [List.getElem?_set] at hz;by_cases e:t=j
   ·subst e
    rw [if_pos rfl,if_pos ht] at hz;obtain rfl:=Option.some.inj hz;rw [taskB_iff,hN];exact ⟨by simp,hx1.2.1,hx1.2.2.1,rfl,by simp [qT,hl3.1,hm]⟩
   ·rw [if_neg e] at hz
    have:=taskB_iff.1 (h.tasks j z hz);rw [taskB_iff,hN];exact this
  ·dsimp only
   rw [e1,jf6,if_neg (by omega),c5,c6,if_neg (by omega),if_neg (by omega),if_pos ⟨rfl,rfl⟩]
 ·rename_i hm
  generalize hT:r.tasks.set t ⟨5,x.need,x.tri,0⟩=T;have hTl:T.length=r.tasks.length:=by rw [←hT,List.length_set]
  have hTt:T[t]?=some ⟨5,x.need,x.tri,0⟩:=by rw [←hT];exact List.getElem?_set_self ht
  have hTj:∀j,t≠j→T[j]?=r.tasks[j]?:=fun j hj=>by rw [←hT,List.getElem?_set_ne hj]
  rw [←hTl]
  have hM:∀(j:Nat) (z:Tk),(qV jA T T.length)[j]?=some z→(j=t∧z=⟨5,x.need,x.tri,0⟩)∨j≠t∧∃y,r.tasks[j]?=some y∧((y.state=4∧z=y)∨(y.state≠4∧z=⟨6,y.need,y.tri,0⟩)):=by
   intro j z hz;obtain ⟨y,hy,rfl⟩:=je2 hz;by_cases e:t=j
   ·subst e
    rw [hTt] at hy;obtain rfl:=Option.some.inj hy;exact .inl ⟨rfl,by simp [jA]⟩
   ·rw [hTj j e] at hy
    have h5:y.state≠5:=jqx e2 hy;refine .inr ⟨fun e'=>e e'.symm,y,hy,?_⟩
    by_cases e4:y.state=4
    ·exact .inl ⟨e4,by simp [jA,e4]⟩
    ·exact .inr ⟨e4,by simp [jA,e4,h5]⟩
  have hst4:∀b:Int,(stT (qV jA T T.length) b !=4)=(stT r.tasks b !=4):=by
   intro b;rw [←joj hx (y:=⟨5,x.need,x.tri,0⟩) (by simp [hs]),hT]
   simp only [stT,qV,List.getElem?_mapIdx];cases hb:T[b.toNat]? with
   |none=>rfl
   |some z=>simp only [Option.map_some,Option.getD_some,if_pos (List.getElem?_eq_some_iff.1 hb).1,jp0]
  have hN:=fun j=>jby (p:=r.plan) hst4 j
  have hlen:(qV jA T T.length).length=T.length:=vV
  have hst:∀z∈qV jA T T.length,4≤z.state∧z.state≤6:=fun z hz=>by
   obtain ⟨k,hk,rfl⟩:=List.getElem_of_mem hz;rcases hM k _ (List.getElem?_eq_getElem hk) with ⟨_,h1⟩|⟨_,y,_,⟨h1,h2⟩|⟨_,h2⟩⟩
   ·rw [h1];simp
   ·rw [h2];omega
   ·rw [h2];simp
  have c1:cS 1 (qV jA T T.length)=0:=jdw fun z hz=>by have:=hst z hz;omega
  have c2:cS 2 (qV jA T T.length)=0:=jdw fun z hz=>by have:=hst z hz;omega
  have c3:cS 3 (qV jA T T.length)=0:=jdw fun z hz=>by have:=hst z hz;omega
  have c5:cS 5 (qV jA T T.length)=1:=by
   refine jA4 (t:=t) (by rw [hlen,hTl];exact ht) fun j z hz=>?_
   rcases hM j z hz with ⟨h1,h2⟩|⟨h1,y,_,⟨h2,h3⟩|⟨_,h3⟩⟩
   ·rw [h2];simp [h1]
   ·rw [h3];simp [h1,h2]
   ·rw [h3];simp [h1]
  have hsum:=jcb (fun z hz=>by have:=hst z hz;omega) _ (Nat.le_refl (qV jA T T.length).length)
  change cS 1 _+cS 2 _+cS 3 _+cS 4 _+cS 5 _+cS 6 _=_ at hsum;refine ⟨h.id,h.plan,by dsimp only;rw [hlen,hTl];exact h.len,fun j z hz=>?_,?_,by simp⟩
  ·dsimp only at hz⊢
   rw [taskB_iff,hN];rcases hM j z hz with ⟨rfl,rfl⟩|⟨h1,y,hy,⟨h2,rfl⟩|⟨h2,rfl⟩⟩
   ·exact ⟨by simp,hx1.2.1,hx1.2.2.1,rfl,by simp [qT,hl3.1,hl3.2]⟩
   ·exact taskB_iff.1 (h.tasks j _ hy)
   ·have h3:=taskB_iff.1 (h.tasks j _ hy)
    exact ⟨by simp,h3.2.1,h3.2.2.1,rfl,by simp [qT]⟩
  ·dsimp only
   rw [jf6,if_neg (by omega),if_pos ⟨c5,by omega⟩]
theorem jon {r:Rn} (t:Int) (h:RunOkP r):RunOkP (jE r t):=by
 cases hr:vu r t with
 |false=>rw [jeo hr];exact h
 |true=>
  obtain ⟨k,x,rfl,hx,hs,_⟩:=jaB hr;rw [qD hx hr];exact jnH h hx hs
theorem jga {r:Rn} {t:Nat} {x:Tk} (h:RunOkP r) (hx:r.tasks[t]?=some x) (hs:x.state=3):vu r t=true:=by
 have ht:=(List.getElem?_eq_some_iff.1 hx).1;simp only [vu,inB,Bool.and_eq_true,decide_eq_true_eq,beq_iff_eq,kv hx,runOk_iff];exact ⟨⟨by omega,hs⟩,h⟩
theorem jkz {r:Rn} {t:Int} {j:Nat} {z:Tk} (hz:(jE r t).tasks[j]?=some z) (hs:z.state=3):r.tasks[j]?=some z:=by
 cases hr:vu r t with
 |false=>rwa [jeo hr] at hz
 |true=>
  obtain ⟨k,x,rfl,hx,hs',_⟩:=jaB hr;rw [qD hx hr,zb] at hz;have hk:=(List.getElem?_eq_some_iff.1 hx).1;split at hz
  ·dsimp only at hz
   rw [List.getElem?_set] at hz;by_cases e:k=j
   ·subst e
    rw [if_pos rfl,if_pos hk] at hz;obtain rfl:=Option.some.inj hz;cases hs
   ·rw [if_neg e] at hz;exact hz
  ·dsimp only at hz
   have e:r.tasks.length=(r.tasks.set k ⟨5,x.need,x.tri,0⟩).length:=by rw [List.length_set]
   rw [e] at hz;obtain ⟨y,hy,rfl⟩:=je2 hz;unfold jA at hs;split at hs
   ·cases hs
   ·rename_i h
    exact absurd ⟨by omega,by omega⟩ h
theorem jep (r:Rn) (t:Int):(jE r t).id=r.id∧(jE r t).plan=r.plan:=by
 unfold jE;split
 ·unfold zb;split<;>exact ⟨rfl,rfl⟩
 ·exact ⟨rfl,rfl⟩
structure LaterP (y z:Yd):Prop where
 len:z.runs.length=y.runs.length
 runs:∀(k:Nat) (r:Rn),y.runs[k]?=some r→∃r',z.runs[k]?=some r'∧r'.id=r.id∧r'.plan=r.plan∧RunOkP r'∧r'.tasks.length=r.tasks.length∧∀(t:Nat) (x:Tk),r'.tasks[t]?=some x→x.state=3→r.tasks[t]?=some x
theorem LaterP.refl {y:Yd} (h:YardOkP y):LaterP y y:=⟨rfl,fun k r hr=>⟨r,hr,rfl,rfl,h.right r (List.mem_of_getElem? hr),rfl,fun _ _ h _=>h⟩⟩
theorem jvr:∀{l m:List Rn} (id:Int),l.map (·.id)=m.map (·.id)→jgd l id=jgd m id:=by
 intro l m id h;have e:∀l:List Rn,l.findIdx? (fun r=>r.id==id)=(l.map (·.id)).findIdx? (· ==id):=fun l=>by rw [List.findIdx?_map];rfl
 simp only [jgd,e,h]
theorem LaterP.ids {y z:Yd} (h:LaterP y z):z.runs.map (·.id)=y.runs.map (·.id):=by
 apply List.ext_getElem?
 intro k;simp only [List.getElem?_map];cases hr:y.runs[k]? with
 |none=>
  have:z.runs[k]?=none:=by rw [List.getElem?_eq_none_iff] at hr⊢;rw [h.len];exact hr
  rw [this]
 |some r=>
  obtain ⟨r',h1,h2,_⟩:=h.runs k r hr;rw [h1];simp [h2]
theorem LaterP.runAt {y z:Yd} (h:LaterP y z) (id:Int):runAt z id=runAt y id:=by
 unfold Go.Proofs.YtmnpailnelmpiaaGreat.runAt;rw [h.len,jvr id h.ids]
noncomputable def failK (y:Yd) (k t:Nat):Yd:=if stT ((y.runs[k]?).getD default).tasks t==3 then kL y k (jE ((y.runs[k]?).getD default) t) else y
theorem jb8 (y:Yd) (k:Nat) (r:Rn):(kL y k r).runs=y.runs.set k r:=rfl
theorem LaterP.fail {y z:Yd} (h:LaterP y z) (k t:Nat):LaterP y (failK z k t):=by
 unfold failK;split
 ·cases hk:y.runs[k]? with
  |none=>
   have hk2:z.runs[k]?=none:=by rw [List.getElem?_eq_none_iff] at hk⊢;rw [h.len];exact hk
   rename_i hs;rw [hk2] at hs;simp [stT] at hs;cases hs
  |some r=>
   obtain ⟨r',h1,h2,h3,h4,h5,h6⟩:=h.runs k r hk;have hk':=(List.getElem?_eq_some_iff.1 h1).1;rw [h1,Option.getD_some];refine ⟨by rw [jb8,List.length_set];exact h.len,fun j q hq=>?_⟩
   rw [jb8,List.getElem?_set];by_cases e:k=j
   ·subst e
    rw [hk] at hq;obtain rfl:=Option.some.inj hq;rw [if_pos rfl,if_pos hk'];have hi:=jep r' t;refine ⟨_,rfl,by rw [hi.1];exact h2,by rw [hi.2];exact h3,jon _ h4,by rw [kV];exact h5,fun i x hx hs=>h6 i x (jkz hx hs) hs⟩
   ·rw [if_neg e];exact h.runs j q hq
 ·exact h
structure StepI (y z:Yd) (i:Nat):Prop where
 later:LaterP y z
 four:z.shelf.length=4
 seq:1≤z.seq∧z.seq≤1000000000+12*i
 tot:jK z≤jK y+12*i
 now:z.now=y.now
theorem StepI.refl {y:Yd} (h:YardOkP y):StepI y y 0:=⟨.refl h,h.four,by have:=h.seq;omega,Nat.le_refl _,rfl⟩
theorem StepI.mono {y z:Yd} {i j:Nat} (h:StepI y z i) (hij:i≤j):StepI y z j:=⟨h.later,h.four,by have:=h.seq;omega,by have:=h.tot;omega,h.now⟩
theorem ju3 {y:Yd} {k:Nat} {r r2:Rn} (hr:y.runs[k]?=some r) (ht:vq r2=vq r) (hl:r2.tasks.length≤12):jK (kL y k r2)≤jK y+12:=by
 have h1:=jxs (y:=⟨y.now,y.seq,y.shelf,y.runs.set k r2⟩) (r:=r2) (ids:=vO ((y.runs[k]?).getD default).tasks r2.tasks r2.tasks.length);have h2:=jdb ((y.runs[k]?).getD default).tasks r2.tasks r2.tasks.length;have h3:=qW (f:=vq) r2 hr
 have h4:jK ⟨y.now,y.seq,y.shelf,y.runs.set k r2⟩=jK y:=by
  simp only [jK,jca,List.length_set];omega
 rw [kL];omega
theorem jvm (y:Yd) (k:Nat) (r2:Rn):y.seq≤(kL y k r2).seq∧(kL y k r2).seq≤y.seq+r2.tasks.length:=by
 have h2:=jdb ((y.runs[k]?).getD default).tasks r2.tasks r2.tasks.length;have h1:=zw r2.plan.prio r2.id (vO ((y.runs[k]?).getD default).tasks r2.tasks r2.tasks.length) ((y.shelf[shN r2.id]?).getD default,y.seq);have e:(kL y k r2).seq=(vP r2.plan.prio r2.id (vO ((y.runs[k]?).getD default).tasks r2.tasks r2.tasks.length) ((y.shelf[shN r2.id]?).getD default,y.seq)).2:=rfl;rw [e,h1];dsimp only;omega
theorem jt1 (y:Yd) (k:Nat) (r2:Rn):(kL y k r2).shelf.length=y.shelf.length:=by
 have e:(kL y k r2).shelf=y.shelf.set (shN r2.id) (vP r2.plan.prio r2.id (vO ((y.runs[k]?).getD default).tasks r2.tasks r2.tasks.length) ((y.shelf[shN r2.id]?).getD default,y.seq)).1:=rfl;rw [e,List.length_set]
theorem StepI.fail {y z:Yd} {i:Nat} (h:StepI y z i) (k t:Nat):StepI y (failK z k t) (i+1):=by
 have hL:=h.later.fail k t;cases hc:(stT ((z.runs[k]?).getD default).tasks t==3) with
 |false=>
  have e:failK z k t=z:=by unfold failK;rw [hc];rfl
  rw [e];exact h.mono (Nat.le_succ i)
 |true=>
  have e:failK z k t=kL z k (jE ((z.runs[k]?).getD default) t):=by unfold failK;rw [hc];rfl
  cases hk:y.runs[k]? with
  |none=>
   have hk2:z.runs[k]?=none:=by rw [List.getElem?_eq_none_iff] at hk⊢;rw [h.later.len];exact hk
   rw [hk2] at hc;simp [stT] at hc;cases hc
  |some r=>
   obtain ⟨r',h1,h2,h3,h4,h5,h6⟩:=h.later.runs k r hk;rw [h1,Option.getD_some] at e;have hl:=kV r' t;have h12:=h4.le12;have hs:=jvm z k (jE r' t);have:=h.seq;have:=h.tot;have hT:=ju3 (r2:=jE r' t) h1 (jmS r' t) (by omega)
   rw [e] at hL⊢;exact ⟨hL,by rw [jt1];exact h.four,by omega,by omega,h.now⟩
theorem jkU {y z:Yd} (h:LaterP y z) {k t:Nat} {r:Rn} {x:Tk} (hk:y.runs[k]?=some r) (hra:runAt y r.id=k) (hx:r.tasks[t]?=some x):qU z r.id t x.tri=(stT ((z.runs[k]?).getD default).tasks t==3):=by
 obtain ⟨r',h1,h2,h3,h4,h5,h6⟩:=h.runs k r hk;have ht:=(List.getElem?_eq_some_iff.1 hx).1;have hx':r'.tasks[t]?=some r'.tasks[t]:=List.getElem?_eq_getElem (by omega)
 have hn:¬((k:Int)<0):=by omega
 have hT:jad z r.id t=some r'.tasks[t]:=by
  simp only [jad,h.runAt,hra,hn,if_false,Int.toNat_natCast,h1];rw [if_pos (by omega)];exact hx'
 rw [h1,Option.getD_some,kv hx'];simp only [qU,hT];cases hs:(r'.tasks[t].state==3) with
 |false=>rfl
 |true=>
  have hs':r'.tasks[t].state=3:=by simpa using hs
  have:=h6 t _ hx' hs';rw [hx] at this;rw [Option.some.inj this];simp
noncomputable def restT (z:Yd) (k:Nat):Nat→Yd
 |0=>z
 |t+1=>failK (restT z k t) k t
noncomputable def restR (y:Yd):Nat→Yd
 |0=>y
 |k+1=>restT (restR y k) k ((y.runs[k]?).getD default).tasks.length
theorem StepI.restT {y z:Yd} {i:Nat} (h:StepI y z i) (k:Nat):∀t,StepI y (restT z k t) (i+t)
 |0=>h
 |t+1=>(StepI.restT h k t).fail k t
theorem StepI.restR {y:Yd} (h:YardOkP y):∀k,StepI y (restR y k) (12*k)
 |0=>.refl h
 |k+1=>by
  refine ((StepI.restR h k).restT k _).mono ?_;cases hk:y.runs[k]? with
  |none=>rw [Option.getD_none];have:(default:Rn).tasks.length=0:=rfl;omega
  |some r=>
   have:=(h.right r (List.mem_of_getElem? hk)).le12;rw [Option.getD_some];omega
noncomputable def jdj (y:Yd):Yd:=if jC y then restR y y.runs.length else y
theorem jp9 {y:Yd} {id task tri:Int} {k:Nat} {r:Rn} (h:jaO y id task tri=0) (hk:runAt y id=(k:Int)) (hr:y.runs[k]?=some r):∃t:Nat,task=(t:Int)∧vu r task=true:=by
 have hok:=(jn6 h).1
 have hh:qU y id task tri=true:=by
  unfold jaO at h;split at h
  ·cases h
  split at h
  ·cases h
  split at h
  ·cases h
  ·rename_i h3;simpa using h3
 unfold qU at hh;rcases vH y id task with ⟨_,h2⟩|⟨k',r',h1,h2,⟨_,h3⟩|⟨j,x,hj,hx,h3⟩⟩
 ·rw [h2] at hh;cases hh
 ·rw [h3] at hh;cases hh
 ·rw [h3] at hh
  obtain rfl:k=k':=by omega
  obtain rfl:r=r':=by rw [hr] at h2;exact Option.some.inj h2
  refine ⟨j,hj,?_⟩;subst hj;have hl:=(List.getElem?_eq_some_iff.1 hx).1;simp only [Bool.and_eq_true,beq_iff_eq] at hh;have hR:=hok.right r (List.mem_of_getElem? hr);simp only [vu,inB,Bool.and_eq_true,decide_eq_true_eq,beq_iff_eq,kv hx,runOk_iff];exact ⟨⟨by omega,hh.1⟩,hR⟩
def jcY:C:=iS [iA 4 (.box 37 4 (.t 0)),iA 6 (.box 3 1 (.t 2)),iA 8 (.alloc 37 [.int .i64 0,.int .i64 0,.slice none 0 0,.slice none 0 0]),iA 9 (iN 0)] (iS [iA 12 (iT 4 4),iA 13 (.call 118 [.t 12]),iA 10 (.alloc 37 [.int .i64 0,.int .i64 0,.slice none 0 0,.slice none 0 0]),iC (.st 4 [none,none,some (1,102),some (8,108)] (.t 10) (.t 13))] (iS [iA 14 (iT 4 4),iA 15 (iM 1),iA 16 (iL 6),iA 17 (iM 3),iA 18 (.call 220 [.t 14,.t 15,.t 16,.t 17]),iA 11 (iM 18)] (.seq (iS [iA 19 (iM 11),iA 20 (iQ .eql 3 19 0)] (iD 20 (.reg [iA 21 (iT 4 4),iA 22 (iM 1),iA 23 (.call 56 [.t 21,.t 22]),iA 24 (.mkf 222 [.t 6]),iA 25 (.call 221 [.t 10,.t 23,.t 24])]) .skip)) (iS [iA 26 (iT 4 10),iA 27 (iM 11),iC (.st 4 [none,none,some (1,102),some (8,108)] (.t 8) (.t 26)),iA 9 (iM 27)] .ret))))
theorem jfx:fnC Tryz.prog Tryz.f121=some (jcY,[.cell 8 true 4,.t 9],28):=by kernel_rfl
def jbn:C:=.reg [iA 3 (iM 0),iA 4 (iL 1),iA 5 (.call 223 [.t 3,.t 4])]
theorem jdv:fnC Tryz.prog Tryz.f222=some (jbn,[],6):=by kernel_rfl
theorem jmk {k t b6:Nat} {y:Yd} {r:Rn} (hr:y.runs[k]?=some r) (hrun:vu r t=true):juX Tryz.prog 222 [.bp 91 0 b6] (.box b6 jf5 [.a (.v (.int .i64 t))]) k y (qJ r t):=by
 intro o b e2 e3 h90 h91;refine jia (β:=6000000) Tryz.func222 jdv (by simp) ?_
 unfold jbn;simp only [go_sem,h91];refine kM (by simp only [go_sem]) (jyJ hr hrun _ b e2 e3 (by simp only [go_sem];exact h90)) ?_
 rintro _ o1 ⟨rfl,j90,j91,j92,j93,j94,j95,j96,j97⟩;simp only [go_sem] at j91 j92 j93 j94 j95 j96 j97;rw [h91] at j91;exact ⟨.tup [],⟨by decide,rfl⟩,rfl,rfl,j90,j91,j92,j93,j94,j95,j96,j97⟩
theorem jiV (y:Yd) (id task tri:Int) (ht:jK y≤2000000):kp Tryz.prog 121 [.agg (jb y),.c (.val (.int .i64 id)),.c (.val (.int .i64 task)),.c (.val (.int .i64 tri))] (.tup [(true,jb (jdo y id task tri)),(false,[.val (.int .i64 (jaO y id task tri))])]):=by
 refine zh [[1,1,1,0,1,0]] Tryz.func121 jfx (by simp) ?_
 unfold jcY;simp only [C.ghs,C.ghAt,List.foldr];simp only [go_sem,jb];intro b4 b6 b8;refine jc (kj y ht) (by simp only [go_sem,jb]) fun ηc=>?_
 simp only [go_sem,jb];intro b10;refine jc (jiT y id task tri ht) (by simp only [go_sem,jb]) fun η=>?_
 simp only [go_sem,jb];cases h0:jaO y id task tri==0
 ·have hy:jdo y id task tri=y:=by rw [jdo,if_neg (by simpa using h0)]
  simp only [go_sem,jb,h0,hy];refine qg _ _ _ _ _ ?_;simp only [go_sem,jb]
 have h0':jaO y id task tri=0:=by simpa using h0
 obtain ⟨hok,hneg⟩:=jn6 h0';obtain ⟨k,r,hrk,hr,hid,h8⟩:=qN hneg;obtain ⟨t,rfl,hrun⟩:=jp9 h0' hrk hr;have hY:jdo y id t tri=kL y k (qJ r t):=by rw [jdo,if_pos h0',hrk,Int.toNat_natCast,hr,Option.getD_some]
 have hr12:r.tasks.length≤12:=(hok.right r (List.mem_of_getElem? hr)).le12;rw [hY,h0'];simp only [go_sem,jb,h0];refine kX ?_;generalize ηc 2=η2 at*;generalize ηc 3=η3 at*;refine WkK.wk (s':=St.of [(1,Ni id),(4,Bx 93 b4),(6,Bx 91 b6),(8,Bx 92 b8),(10,Bx 90 b10),(11,Ni 0)] [(93,Bi b4 tYd (jb y)),(91,.box b6 jf5 [.a (.v (.int .i64 t))]),(92,ZYd b8 tYd),(90,kt b10 tYd y.now y.seq y.shelf η2 y.runs η3)]) (jj [some 400,some 600,some 800,some 1000] (by simp only [go_sem,jb]<;>and_intros<;>first|rfl|assumption|trivial)) ?_
 refine WkK.of ?_;simp only [go_sem,jb];refine jc (kW y id) (by simp only [go_sem,jb]) fun η=>?_
 simp only [go_sem,jb];rw [hrk];refine kM (vs:=[Bx 90 b10,Ni k,.fn 222 [.bp 91 0 b6]]) (by simp only [go_sem]) (jdf hr (jer r t) hr12 hok.four (by have:=hok.seq;omega) ht (jmk hr hrun) (e2:=η2) (e3:=η3) (by simp only [go_sem]) (by simp only [go_sem])) ?_
 rintro _ o1 ⟨rfl,⟨e2',e3',j90⟩,j91,j92,j93,j94,j95,j96⟩;simp only [go_sem] at j92;generalize kL y k (qJ r t)=y2 at*;simp only [go_sem,j90,j92];refine qg _ _ _ _ _ ?_;simp only [go_sem,jb]
def jd6:C:=iS [iA 1 (.box 37 4 (.t 0)),iA 2 (.alloc 37 [.int .i64 0,.int .i64 0,.slice none 0 0,.slice none 0 0])] (iS [iA 6 (iT 4 1),iA 7 (.call 105 [.t 6]),iA 3 (.alloc 37 [.int .i64 0,.int .i64 0,.slice none 0 0,.slice none 0 0]),iC (.st 4 [none,none,some (1,102),some (8,108)] (.t 3) (.t 7))] (.seq (iS [iA 8 (iT 4 1),iA 9 (.call 72 [.t 8]),iA 10 (iU 9)] (iD 10 (iS [iA 11 (iT 4 3),iC (.st 4 [none,none,some (1,102),some (8,108)] (.t 2) (.t 11))] .ret) .skip)) (.seq (iS [iA 4 (iN 0)] (.blk 0 (.loop (.seq (iS [iA 12 (iM 4),iA 13 (iF 3 3),iA 14 (iL 13),iA 15 (iG 14),iA 16 (iP .lss 3 12 15)] (iD 16 .skip (.exit 0))) (.seq (.blk 1 (iS [iA 5 (iN 0)] (.blk 2 (.loop (.seq (iS [iA 19 (iM 5),iA 20 (iF 3 3),iA 21 (iL 20),iA 22 (iM 4),iA 23 (iI 8 21 22),iA 24 (iF 7 23),iA 25 (iL 24),iA 26 (iG 25),iA 27 (iP .lss 3 19 26)] (iD 27 .skip (.exit 2))) (.seq (.blk 3 (iS [iA 30 (iF 3 3),iA 31 (iL 30),iA 32 (iM 4),iA 33 (iI 8 31 32),iA 34 (iF 7 33),iA 35 (iL 34),iA 36 (iM 5),iA 37 (iI 4 35 36),iA 38 (iF 0 37),iA 39 (iL 38),iA 40 (iQ .eql 3 39 3)] (iD 40 (.dreg (T.pure 0 (iA 41 (iT 4 3)) (T.pure 1 (iA 42 (iM 4)) (T.pure 2 (iA 43 (iF 3 3)) (T.pure 3 (iA 44 (iL 43)) (T.pure 4 (iA 45 (iM 4)) (T.pure 5 (iA 46 (iI 8 44 45)) (T.pure 6 (iA 47 (iT 8 46)) (T.pure 7 (iA 48 (iM 5)) (T.alt (iA 49 (.call 199 [.t 47,.t 48])) [1,0] (T.alt (iA 50 (.call 197 [.t 41,.t 42,.t 49])) [] (T.alt (iC (.st 4 [none,none,some (1,102),some (8,108)] (.t 3) (.t 50))) [] T.done T.stop) T.stop) T.stop)))))))))) .skip))) (.reg [iA 28 (iM 5),iA 29 (iQ .add 3 28 1),iA 5 (iM 29)]))))))) (.reg [iA 17 (iM 4),iA 18 (iQ .add 3 17 1),iA 4 (iM 18)])))))) (iS [iA 51 (iT 4 3),iC (.st 4 [none,none,some (1,102),some (8,108)] (.t 2) (.t 51))] .ret))))
theorem jgM:fnC Tryz.prog Tryz.f113=some (jd6,[.cell 2 true 4],52):=by kernel_rfl
def jeh:C:=iS [iA 1 (.box 37 4 (.t 0)),iA 2 (.alloc 37 [.int .i64 0,.int .i64 0,.slice none 0 0,.slice none 0 0])] (iS [iA 8 (iT 4 1),iA 9 (.call 118 [.t 8]),iA 3 (.alloc 37 [.int .i64 0,.int .i64 0,.slice none 0 0,.slice none 0 0]),iC (.st 4 [none,none,some (1,102),some (8,108)] (.t 3) (.t 9))] (.seq (iS [iA 10 (iT 4 1),iA 11 (.call 59 [.t 10]),iA 12 (iU 11)] (iD 12 (iS [iA 13 (iT 4 3),iC (.st 4 [none,none,some (1,102),some (8,108)] (.t 2) (.t 13))] .ret) .skip)) (.seq (iS [iA 14 (iF 3 1),iA 15 (iL 14),iA 16 (iG 15),iA 17 (iN 0)] (.blk 0 (.loop (iS [iA 18 (iP .lss 3 17 16)] (.seq (iD 18 .skip (.exit 0)) (.seq (.blk 1 (iS [iA 19 (iM 17),iA 20 (iI 8 15 17),iA 21 (iT 8 20),iA 5 (.alloc 108 [.int .i64 0,.int .i64 0,.int .i64 0,.int .i64 0,.int .i64 0,.slice none 0 0,.int .i64 0,.slice none 0 0]),iA 4 (iM 19),iC (.st 8 [none,none,none,none,none,some (2,253),none,some (4,172)] (.t 5) (.t 21))] (iS [iA 22 (iF 7 5),iA 23 (iL 22),iA 24 (iG 23),iA 25 (iN 0)] (.blk 2 (.loop (iS [iA 26 (iP .lss 3 25 24)] (.seq (iD 26 .skip (.exit 2)) (.seq (.blk 3 (iS [iA 27 (iM 25),iA 28 (iI 4 23 25),iA 29 (iT 4 28),iA 6 (.alloc 3 [.int .i64 0]),iA 7 (.alloc 172 [.int .i64 0,.int .i64 0,.int .i64 0,.int .i64 0]),iC (.st 1 [none] (.t 6) (.t 27)),iC (.st 4 [none,none,none,none] (.t 7) (.t 29))] (iS [iA 30 (iT 4 3),iA 31 (iF 0 5),iA 32 (iL 31),iA 33 (iL 6),iA 34 (iF 2 7),iA 35 (iL 34),iA 36 (.call 227 [.t 30,.t 32,.t 33,.t 35])] (iD 36 (.reg [iA 37 (iM 4),iA 38 (.mkf 229 [.t 6]),iA 39 (.call 221 [.t 3,.t 37,.t 38])]) .skip)))) (.reg [iA 40 (iQ .add 3 25 1),iA 25 (iM 40)]))))))))) (.reg [iA 41 (iQ .add 3 17 1),iA 17 (iM 41)]))))))) (iS [iA 42 (iT 4 3),iC (.st 4 [none,none,some (1,102),some (8,108)] (.t 2) (.t 42))] .ret))))
theorem jgX:fnC Tryz.prog Tryz.f124=some (jeh,[.cell 2 true 4],43):=by kernel_rfl
def jbX:C:=.reg [iA 3 (iM 0),iA 4 (iL 1),iA 5 (.call 225 [.t 3,.t 4])]
theorem jeG:fnC Tryz.prog Tryz.f229=some (jbX,[],6):=by kernel_rfl
theorem jjW (y:Yd) (ht:jK y≤1990000):kp Tryz.prog 113 [.agg (jb y)] (.agg (jb (jdj y))):=by
 refine js Tryz.func113 jgM (by simp) ?_
 unfold jd6;have ht2:jK y≤2000000:=by omega
 simp only [go_sem,jb];intro b1 b2;refine jc (ku y ht2) (by simp only [go_sem,jb]) fun ηc=>?_
 simp only [go_sem,jb];intro b3;refine jc (qh y ht2) (by simp only [go_sem,jb]) fun η=>?_
 simp only [go_sem,jb];cases hok:jC y
 ·have hy:jdj y=y:=by simp [jdj,hok]
  simp only [go_sem,jb,hok,hy]
 have hP:=yard_iff.1 hok;have hy:jdj y=restR y y.runs.length:=by simp [jdj,hok]
 rw [hy];simp only [go_sem,jb,hok];have h8:=hP.eight;refine jp (fun i:Nat×jq×jq=>St.of [(2,Bx 92 b2),(3,Bx 90 b3),(4,Ni i.1)] [(92,ZYd b2 tYd),(90,kt b3 tYd (restR y i.1).now (restR y i.1).seq (restR y i.1).shelf i.2.1 (restR y i.1).runs i.2.2)]) (fun i=>i.1≤y.runs.length) (fun i=>y.runs.length-i.1) (0,ηc 2,ηc 3) (by (try dsimp only);first|omega|(simp;done)|(and_intros<;>first|omega|simp)) (jj [some 200,some 300] (by simp only [go_sem,jb,restR]<;>and_intros<;>first|rfl|assumption|trivial)) ?_
 rintro ⟨k,e2,e3⟩ hk;dsimp only at hk;have hI:=StepI.restR hP k;by_cases hlt:k<y.runs.length
 ·obtain ⟨r0,hr0⟩:=je hlt
  have hr012:=(hP.right r0 (List.mem_of_getElem? hr0)).le12;have hnx:restR y (k+1)=restT (restR y k) k r0.tasks.length:=by rw [restR,hr0,Option.getD_some]
  have hIt:=hI.restT k;have hw:IntKind.i64.wrap ((k:Int)+1)=((k+1:Nat):Int):=jg (by omega) (by omega)
  have hlz:(restR y k).runs.length=y.runs.length:=hI.later.len;have hlt':(k:Int)<(restR y k).runs.length:=by omega
  generalize restR y k=z0 at*;simp only [go_sem,hlt'];refine jp (fun i:Nat×jq×jq=>St.of [(2,Bx 92 b2),(3,Bx 90 b3),(4,Ni k),(5,Ni i.1)] [(92,ZYd b2 tYd),(90,kt b3 tYd (restT z0 k i.1).now (restT z0 k i.1).seq (restT z0 k i.1).shelf i.2.1 (restT z0 k i.1).runs i.2.2)]) (fun i=>i.1≤r0.tasks.length) (fun i=>r0.tasks.length-i.1) (0,e2,e3) (by (try dsimp only);first|omega|(simp;done)|(and_intros<;>first|omega|simp)) (jj [some 92,some 90] (by simp only [go_sem,restT]<;>and_intros<;>first|rfl|assumption|trivial)) ?_
  rintro ⟨t,f2,f3⟩ hti;dsimp only at hti;have hJ:=hIt t;have hnt:restT z0 k (t+1)=failK (restT z0 k t) k t:=rfl;generalize hz:restT z0 k t=z at*;obtain ⟨r,hr,hid,hpl,hR,hrl,hr3⟩:=hJ.later.runs k r0 hr0;have hkl:=(List.getElem?_eq_some_iff.1 hr).1;have h0k:(k:Int)≥0:=by omega
  have h12:=hR.le12;by_cases hlt2:t<r0.tasks.length
  ·have hlt3:t<r.tasks.length:=by omega
   have hlt3':(t:Int)<r.tasks.length:=by omega
   have h0t:(t:Int)≥0:=by omega
   obtain ⟨x,hx⟩:=je hlt3;have hwt:IntKind.i64.wrap ((t:Int)+1)=((t+1:Nat):Int):=jg (by omega) (by omega)
   have hfy:failK z k t=if x.state==3 then kL z k (jE r t) else z:=by rw [failK,hr,Option.getD_some,kv hx]
   simp only [go_sem,Nat.add_zero,hkl,h0k,qZ hr,vo hr,jZ hr,hlt3',hlt3,h0t,zP hx,vn hx];cases hs:x.state==3
   ·rw [hs,if_neg (by decide)] at hfy
    rw [hfy] at hnt;simp only [go_sem,hs,hwt];exact ⟨(t+1,f2,f3),by (try dsimp only);first|omega|assumption|(and_intros<;>first|omega|assumption),(jj [some 92,some 90] (by simp only [go_sem,hnt]<;>and_intros<;>first|rfl|assumption|trivial)),by (try dsimp only);omega⟩
   ·rw [hs,if_pos rfl] at hfy
    rw [hfy] at hnt;simp only [go_sem,hs,Nat.add_zero,hkl,h0k,jg3 hr,jcv hr,jd,ja];refine jc (jah r t (by have:=jck hR.plan;obtain ⟨n,_,_,_,h30,_⟩:=this;omega) (by omega)) (by simp only [go_sem,jd,ja,kb hr,kn hr]) fun ηr=>?_
    simp only [go_sem,jd,ja,kb hr,kn hr];have hl2:=kV r t;generalize jE r t=r2 at*;refine jaf [some 90,some 92,some 4905,some 4907] [(90,kt b3 tYd z.now z.seq z.shelf f2 z.runs f3),(92,ZYd b2 tYd),(97,.loose (jy r2.plan.edges) (ηr 5)),(98,.loose (jI r2.tasks) (ηr 7))] [.agg [.v (.int .i64 z.now),.v (.int .i64 z.seq),.h 90 2 [] (f2 []),.h 90 3 [] (f3 [])],Ni k,.agg [.v (.int .i64 r2.id),.v (.int .i64 r2.plan.prio),.v (.int .i64 r2.plan.most),.v (.int .i64 r2.plan.wait),.v (.int .i64 r2.plan.tasks),.h 97 0 [] (ηr 5 []),.v (.int .i64 r2.state),.h 98 0 [] (ηr 7 [])]] (by simp only [go_sem]<;>and_intros<;>rfl) (by simp only [go_sem]<;>and_intros<;>rfl) (je8 hr hl2 h12 hJ.four (by have:=hJ.seq;omega) (by have:=hJ.tot;omega) rfl rfl rfl) ?_
    rintro _ o1 ⟨c,g2,g3,x2,x3,rfl,j99,j90,j91,j92,j93,j94,j95,j96⟩;have j92':o1 92=ZYd b2 tYd:=j92;generalize kL z k r2=z2 at*;simp only [go_sem,j99,j90,j92',hwt];exact ⟨(t+1,g2,g3),by (try dsimp only);first|omega|assumption|(and_intros<;>first|omega|assumption),(jj [some 92,some 90] (by simp only [go_sem,hnt,j90,j92']<;>and_intros<;>first|rfl|assumption|trivial)),by (try dsimp only);omega⟩
  ·have hlt3':¬(t:Int)<r.tasks.length:=by omega
   obtain rfl:t=r0.tasks.length:=by omega
   rw [hz] at hnx;simp only [go_sem,Nat.add_zero,hkl,h0k,qZ hr,vo hr,jZ hr,hlt3',hw];exact ⟨(k+1,f2,f3),by (try dsimp only);first|omega|assumption|(and_intros<;>first|omega|assumption),(jj [some 92,some 90] (by simp only [go_sem,hnx]<;>and_intros<;>first|rfl|assumption|trivial)),by (try dsimp only);omega⟩
 have hlz:(restR y k).runs.length=y.runs.length:=hI.later.len;have hlt':¬(k:Int)<(restR y k).runs.length:=by omega
 obtain rfl:k=y.runs.length:=by omega
 generalize restR y y.runs.length=z at*;simp only [go_sem,hlt',jb]
theorem jnN {k t b6:Nat} {y:Yd} {r:Rn} (hr:y.runs[k]?=some r) (hrun:vu r t=true):juX Tryz.prog 229 [.bp 91 0 b6] (.box b6 jf5 [.a (.v (.int .i64 t))]) k y (jE r t):=by
 intro o b e2 e3 h90 h91;refine jia (β:=6000000) Tryz.func229 jeG (by simp) ?_
 unfold jbX;simp only [go_sem,h91];refine kM (by simp only [go_sem]) (jmb hr hrun _ b e2 e3 (by simp only [go_sem];exact h90)) ?_
 rintro _ o1 ⟨rfl,j90,j91,j92,j93,j94,j95,j96,j97⟩;simp only [go_sem] at j91 j92 j93 j94 j95 j96 j97;rw [h91] at j91;exact ⟨.tup [],⟨by decide,rfl⟩,rfl,rfl,j90,j91,j92,j93,j94,j95,j96,j97⟩
theorem jj2 (y:Yd) (ht:jK y≤1990000):kp Tryz.prog 124 [.agg (jb y)] (.agg (jb (jdj y))):=by
 refine zh [[1,1,1,0,1,0,0,1,1,0,0,1,1,0,0,1,1,0,0,1,1,0]] Tryz.func124 jgX (by simp) ?_
 unfold jeh;simp only [C.ghs,C.ghAt,List.foldr];have ht2:jK y≤2000000:=by omega
 simp only [go_sem,jb];intro b1 b2;refine jc (kj y ht2) (by simp only [go_sem,jb]) fun ηc=>?_
 simp only [go_sem,jb];intro b3;refine jc (kI y ht2) (by simp only [go_sem,jb]) fun η=>?_
 simp only [go_sem,jb];cases hok:jC y
 ·have hy:jdj y=y:=by simp [jdj,hok]
  simp only [go_sem,jb,hok,hy]
 have hP:=yard_iff.1 hok;have hy:jdj y=restR y y.runs.length:=by simp [jdj,hok]
 rw [hy];simp only [go_sem,jb,hok];have h8:=hP.eight;refine jp (fun i:Nat×jq×jq=>St.of [(2,Bx 92 b2),(3,Bx 90 b3),(15,Ro (jO y.runs)),(16,Ni y.runs.length),(17,Ni i.1)] [(92,ZYd b2 tYd),(90,kt b3 tYd (restR y i.1).now (restR y i.1).seq (restR y i.1).shelf i.2.1 (restR y i.1).runs i.2.2)]) (fun i=>i.1≤y.runs.length) (fun i=>y.runs.length-i.1) (0,ηc 2,ηc 3) (by (try dsimp only);first|omega|(simp;done)|(and_intros<;>first|omega|simp)) (jj [some 200,some 300] (by simp only [go_sem,jb,restR]<;>and_intros<;>first|rfl|assumption|trivial)) ?_
 rintro ⟨k,e2,e3⟩ hk;dsimp only at hk;have hI:=StepI.restR hP k;by_cases hlt:k<y.runs.length
 ·have hlt':(k:Int)<y.runs.length:=by omega
  obtain ⟨r0,hr0⟩:=je hlt;have hr012:=(hP.right r0 (List.mem_of_getElem? hr0)).le12;have hpl0:=hP.place k r0 hr0;have hnx:restR y (k+1)=restT (restR y k) k r0.tasks.length:=by rw [restR,hr0,Option.getD_some]
  have hIt:=hI.restT k;have hw:IntKind.i64.wrap ((k:Int)+1)=((k+1:Nat):Int):=jg (by omega) (by omega)
  generalize restR y k=z0 at*;simp only [go_sem,hlt',hlt,jY hr0,jd,ja];intro b5;refine jp (fun i:Nat×jq×jq=>St.of [(2,Bx 92 b2),(3,Bx 90 b3),(4,Ni k),(5,Bx 93 b5),(15,Ro (jO y.runs)),(16,Ni y.runs.length),(17,Ni k),(23,Ro (jI r0.tasks)),(24,Ni r0.tasks.length),(25,Ni i.1)] [(92,ZYd b2 tYd),(93,Bi b5 tRn (jd r0)),(90,kt b3 tYd (restT z0 k i.1).now (restT z0 k i.1).seq (restT z0 k i.1).shelf i.2.1 (restT z0 k i.1).runs i.2.2)]) (fun i=>i.1≤r0.tasks.length) (fun i=>r0.tasks.length-i.1) (0,e2,e3) (by (try dsimp only);first|omega|(simp;done)|(and_intros<;>first|omega|simp)) (jj [some 92,some 500,some 90] (by simp only [go_sem,restT,jd,ja]<;>and_intros<;>first|rfl|assumption|trivial)) ?_
  rintro ⟨t,f2,f3⟩ hti;dsimp only at hti;have hJ:=hIt t;have hnt:restT z0 k (t+1)=failK (restT z0 k t) k t:=rfl;generalize hz:restT z0 k t=z at*;obtain ⟨r,hr,hid,hpl,hR,hrl,hr3⟩:=hJ.later.runs k r0 hr0;have h12:=hR.le12;by_cases hlt2:t<r0.tasks.length
  ·have hlt2':(t:Int)<r0.tasks.length:=by omega
   have hlt3:t<r.tasks.length:=by omega
   obtain ⟨x,hx⟩:=je hlt3;obtain ⟨x0,hx0⟩:=je hlt2;have hwt:IntKind.i64.wrap ((t:Int)+1)=((t+1:Nat):Int):=jg (by omega) (by omega)
   have hfy:failK z k t=if x.state==3 then kL z k (jE r t) else z:=by rw [failK,hr,Option.getD_some,kv hx]
   have hho:qU z r0.id t x0.tri=(x.state==3):=by rw [jkU hJ.later hr0 hpl0 hx0,hr,Option.getD_some,kv hx]
   simp only [go_sem,hlt2',hlt2,jT hx0,jn];intro b6 b7;simp only [go_sem,jd,ja];refine jc (jco z r0.id t x0.tri) (by simp only [go_sem,jb]) fun η=>?_
   simp only [go_sem,jb];rw [hho];cases hs:x.state==3
   ·rw [hs,if_neg (by decide)] at hfy
    rw [hfy] at hnt;simp only [go_sem,hs,hwt];exact ⟨(t+1,f2,f3),by (try dsimp only);first|omega|assumption|(and_intros<;>first|omega|assumption),(jj [some 92,some 93,some 90] (by simp only [go_sem,hnt,jd,ja]<;>and_intros<;>first|rfl|assumption|trivial)),by (try dsimp only);omega⟩
   ·rw [hs,if_pos rfl] at hfy
    rw [hfy] at hnt;have hs':x.state=3:=by simpa using hs
    simp only [go_sem,hs];refine kX ?_;refine WkK.wk (s':=St.of [(2,Bx 92 b2),(3,Bx 90 b3),(4,Ni k),(5,Bx 93 b5),(6,Bx 91 b6),(15,Ro (jO y.runs)),(16,Ni y.runs.length),(17,Ni k),(23,Ro (jI r0.tasks)),(24,Ni r0.tasks.length),(25,Ni t)] [(92,ZYd b2 tYd),(93,Bi b5 tRn (jd r0)),(90,kt b3 tYd z.now z.seq z.shelf f2 z.runs f3),(91,.box b6 jf5 [.a (.v (.int .i64 t))])]) (jj [some 92,some 93,some 90,some 600] (by simp only [go_sem,jd,ja]<;>and_intros<;>first|rfl|assumption|trivial)) ?_
    refine WkK.of ?_;simp only [go_sem];refine kM (vs:=[Bx 90 b3,Ni k,.fn 229 [.bp 91 0 b6]]) (by simp only [go_sem]) (jdf hr (kV r t) h12 hJ.four (by have:=hJ.seq;omega) (by have:=hJ.tot;omega) (jnN hr (jga hR hx hs')) (e2:=f2) (e3:=f3) (by simp only [go_sem]) (by simp only [go_sem])) ?_
    rintro _ o1 ⟨rfl,⟨g2,g3,j90⟩,j91,j92,j93,j94,j95,j96⟩;have j92':o1 92=ZYd b2 tYd:=j92;have j93':o1 93=Bi b5 tRn (jd r0):=j93;generalize kL z k (jE r t)=z2 at*;simp only [go_sem,hwt];exact ⟨(t+1,g2,g3),by (try dsimp only);first|omega|assumption|(and_intros<;>first|omega|assumption),(jj [some 92,some 93,some 90] (by simp only [go_sem,hnt,j90,j92',j93',jd,ja]<;>and_intros<;>first|rfl|assumption|trivial)),by (try dsimp only);omega⟩
  ·have hlt2':¬(t:Int)<r0.tasks.length:=by omega
   obtain rfl:t=r0.tasks.length:=by omega
   rw [hz] at hnx;simp only [go_sem,hlt2',hw];exact ⟨(k+1,f2,f3),by (try dsimp only);first|omega|assumption|(and_intros<;>first|omega|assumption),(jj [some 92,some 90] (by simp only [go_sem,hnx]<;>and_intros<;>first|rfl|assumption|trivial)),by (try dsimp only);omega⟩
 have hlt':¬(k:Int)<y.runs.length:=by omega
 obtain rfl:k=y.runs.length:=by omega
 generalize restR y y.runs.length=z at*;simp only [go_sem,hlt',jb]
end Go.Proofs.YtmnpailnelmpiaaGreat
