/- Parts. -/
import Derived.Test.YtmnpailnelmpiaaQKeepD
set_option linter.unusedSimpArgs false
set_option linter.unusedVariables false
set_option maxRecDepth 100000
namespace Go.Proofs.Ytmnpailnelmpiaa
open Go.RowKit Go.Sort
theorem jj9 {p:Pl} {n t:Nat} {x:Tk} (h:(vD p n)[t]?=some x):t<n∧x=jlq p t:=by
 have ht:=(List.getElem?_eq_some_iff.1 h).1;simp only [vD,List.length_map,List.length_range] at ht;simp only [vD,List.getElem?_map,List.getElem?_range ht,Option.map_some] at h;exact ⟨ht,(Option.some.inj h).symm⟩
theorem jri {id:Int} {p:Pl} (hid:1≤id∧id≤9999) (hp:jz p=0):RunOkP (jL id p):=by
 obtain ⟨n,hn,hn1,h12,h30,hes,hnd,hprio,hmost,hwait⟩:=jgL hp;have hnt:p.tasks.toNat=n:=by omega
 have hlen:(vD p n).length=n:=by simp [vD]
 have hin:∀z∈vD p n,z.state=1∨z.state=2:=fun z hz=>by
  obtain ⟨j,hj⟩:=List.getElem?_of_mem hz;obtain ⟨_,rfl⟩:=jj9 hj;simp only [jlq];split
  ·exact .inl rfl
  ·exact .inr rfl
 have hst:∀b:Int,(stT (vD p n) b !=4)=true:=fun b=>by
  simp only [stT];cases hb:(vD p n)[b.toNat]? with
  |none=>rfl
  |some z=>
   rcases hin z (List.mem_of_getElem? hb) with g|g<;>simp [g]
 have hN:∀j:Nat,zG p (vD p n) j=((jaZ p j).length:Int):=fun j=>by
  have:(jaZ p j).filter (fun b=>stT (vD p n) b !=4)=jaZ p j:=List.filter_eq_self.2 fun b _=>hst b
  simp only [zG,this]
 have c4:cS 4 (vD p n)=0:=jcl fun z hz=>by rcases hin z hz with g|g<;>omega
 have c5:cS 5 (vD p n)=0:=jcl fun z hz=>by rcases hin z hz with g|g<;>omega
 have c6:cS 6 (vD p n)=0:=jcl fun z hz=>by rcases hin z hz with g|g<;>omega
 have e:jL id p=⟨id,p,1,vD p n⟩:=by rw [jL,hnt]
 rw [e];refine ⟨by simp [inB,hid],hp,by dsimp only;rw [hlen];exact hn.symm,fun j w hw=>?_,?_,by simp⟩
 ·dsimp only at hw⊢
  obtain ⟨hj,rfl⟩:=jj9 hw;rw [taskB_iff,hN];have hm1:=hmost.1;by_cases hz:0<(jaZ p j).length
  ·have hz':(0:Int)<(jaZ p j).length:=by omega
   refine ⟨by simp [jlq,hz],rfl,by simp only [jlq];omega,by simp [jf7,jlq,hz],?_⟩
   simp only [vE,jlq,if_pos hz,if_true,decide_eq_true_eq];exact hz'
  ·have hz0:(jaZ p j).length=0:=by omega
   have h0m:(0:Int)<p.most:=by omega
   refine ⟨by simp [jlq,hz],rfl,by simp only [jlq];omega,by simp [jf7,jlq,hz],?_⟩
   simp [vE,jlq,hz,hz0,h0m]
 ·dsimp only
  rw [jkV,if_neg (by rw [c4,hlen];omega),if_neg (by omega),if_neg (by omega),if_pos ⟨c5,c6⟩]
theorem YdI.sub {y:Yd} (h:YdI y) (id:Int) (p:Pl):YdI (jkU y id p):=by
 unfold jkU;split
 ·rename_i hc
  unfold jkH at hc;split at hc
  ·cases hc
  split at hc
  ·cases hc
  split at hc
  ·cases hc
  split at hc
  ·rename_i g1 g2 g3 g4;exact absurd hc g4
  split at hc
  ·cases hc
  rename_i g1 g2 g3 g4 g5;have hid:1≤id∧id≤9999:=Classical.byContradiction fun g=>g2 g
  have hp:jz p=0:=Classical.byContradiction fun g=>g4 g
  have hroom:jbi y p=true:=by simpa using g5
  simp only [jbi,Bool.and_eq_true,decide_eq_true_eq] at hroom;obtain ⟨r1,⟨r2,r2'⟩,r3,r4⟩:=hroom;have hok:=yard_iff.1 (show jJ y=true by simpa using g1)
  have hR:=jri hid hp;obtain ⟨n,hn,hn1,h12,h30,hes,hnd,hprio,hmost,hwait⟩:=jgL hp
  have hnew:∀r∈y.runs,r.id≠id:=fun r hr he=>by
   obtain ⟨k,hk⟩:=List.getElem?_of_mem hr;have:=joI h.rns.eight h.rns.ids hk;rw [he] at this;omega
  have hlen:(jL id p).tasks.length=n:=by simp only [jL,vD,List.length_map,List.length_range];omega
  have hst:∀(t:Nat) (x:Tk),(jL id p).tasks[t]?=some x→(x.state=1∨x.state=2)∧x.tri=0:=fun t x hx=>by
   obtain ⟨_,rfl⟩:=jj9 (p:=p) (n:=p.tasks.toNat) hx;refine ⟨?_,rfl⟩;simp only [jlq];split
   ·exact .inl rfl
   ·exact .inr rfl
  have hno:∀t,zo id t y.shelf.flatten=0:=fun t=>jkA fun e he=>by
   rintro ⟨k1,_⟩;obtain ⟨r',hr',_,_,h1,_⟩:=h.ens.own e he;exact hnew r' hr' (h1.symm.trans k1)
  have hids:((y.runs++[jL id p]).map (·.id)).Nodup:=by
   rw [List.map_append];refine List.nodup_append.2 ⟨h.rns.ids,by simp,fun a ha b hb e=>?_⟩
   obtain ⟨r',hr',rfl⟩:=List.mem_map.1 ha;simp only [List.map_cons,List.map_nil,List.mem_singleton] at hb;exact hnew r' hr' (e.trans hb)
  have hRn:RnsI y.now (y.runs++[jL id p]):=by
   refine ⟨by rw [List.length_append,List.length_singleton];omega,fun r hr=>?_,hids,fun r hr t x hx hs=>?_,fun r hr x hx hs=>?_⟩
   ·rcases List.mem_append.1 hr with hr|hr
    ·exact h.rns.right r hr
    ·rw [List.mem_singleton] at hr;rw [hr];exact hR
   ·rcases List.mem_append.1 hr with hr|hr
    ·exact h.rns.til r hr t x hx hs
    ·rw [List.mem_singleton] at hr;subst hr
     rcases (hst t x hx).1 with g|g<;>omega
   ·rcases List.mem_append.1 hr with hr|hr
    ·exact h.rns.tri r hr x hx hs
    ·rw [List.mem_singleton] at hr;subst hr
     obtain ⟨t,ht⟩:=List.getElem?_of_mem hx;exact (hst t x ht).2
  obtain ⟨-,hs4⟩:=jyF (jL id p).id;obtain ⟨l,hl⟩:=je (show shN (jL id p).id<y.shelf.length by rw [h.four];exact hs4)
  have e:jqs ⟨y.now,y.seq,y.shelf,y.runs++[jL id p]⟩ (jL id p) (ja4 2 (jL id p).tasks)=⟨y.now,y.seq+(ja4 2 (jL id p).tasks).length,y.shelf.set (shN (jL id p).id) (zw (jL id p).plan.prio (jL id p).id (ja4 2 (jL id p).tasks) (l,y.seq)).1,y.runs++[jL id p]⟩:=by
   rw [jqs];simp only [hl,Option.getD_some,zu]
  obtain ⟨rest,p1,p2⟩:=vl hl (zw (jL id p).plan.prio (jL id p).id (ja4 2 (jL id p).tasks) (l,y.seq)).1
  have hpm:(jjb (jL id p).plan.prio (jL id p).id y.seq (ja4 2 (jL id p).tasks)++y.shelf.flatten).Perm (y.shelf.set (shN (jL id p).id) (zw (jL id p).plan.prio (jL id p).id (ja4 2 (jL id p).tasks) (l,y.seq)).1).flatten:=by
   refine ((List.Perm.append_left _ p1).trans ?_).trans p2.symm;rw [←List.append_assoc];exact ((jhx _ _ _ _ _).symm).append_right _
  have hE:EnsI (y.runs++[jL id p]) (y.seq+(ja4 2 (jL id p).tasks).length) (jjb (jL id p).plan.prio (jL id p).id y.seq (ja4 2 (jL id p).tasks)++y.shelf.flatten):=by
   refine jsb h.ens h.seq hids (by simp) (jiM _ _) (fun t ht=>tinL_mem.1 ht) (fun e he=>?_) (fun r' hr' hi=>?_) (fun t x hx hs ht=>?_) (fun t ht=>hno t)
   ·obtain ⟨r',hr',t,x,k⟩:=h.ens.own e he
    exact ⟨r',by simp [hr'],t,x,k⟩
   ·rcases List.mem_append.1 hr' with hr'|hr'
    ·exact hr'
    ·rw [List.mem_singleton] at hr';exact absurd (by rw [hr']) hi
   ·exact absurd (tinL_mem.2 ⟨t,x,rfl,hx,hs⟩) ht
  have hlen2:=hpm.length_eq;rw [List.length_append,jka] at hlen2;have hroom:=h.room
  have hsl:qE kH y.runs+y.shelf.flatten.length≤40+jaI y.runs-n:=by
   have hf:=jlN h.rns.eight h.rns.ids h.ens;have hrl:=jb1 h.rns.right
   have hcnt:qe y (jgF y)+(y.shelf.flatten.filter (jM y)).length=y.shelf.flatten.length:=by
    simp only [qe,jgF,List.countP_eq_length_filter];have:=List.length_eq_countP_add_countP (jM y) (l:=y.shelf.flatten);simp only [List.countP_eq_length_filter] at this;have e:y.shelf.flatten.filter (fun e=>!jM y e)=y.shelf.flatten.filter (fun a=>decide ¬jM y a=true):=List.filter_congr fun a _=>by cases jM y a<;>rfl
    rw [e];omega
   simp only [qF] at r3;omega
  have hlv:kH (jL id p)=n:=by
   have h1:(jL id p).state=1:=rfl;rw [kH,if_pos h1,hlen]
  rw [e];refine ⟨h.now,by have:=h.seq;dsimp only;omega,by rw [List.length_set];exact h.four,fun m hm=>?_,hRn,hE.perm hpm,?_⟩
  ·rcases List.mem_or_eq_of_mem_set hm with hm|rfl
   ·exact h.sorted m hm
   ·exact jkc _ _ _ (h.sorted l (List.mem_of_getElem? hl)) fun x hx=>by
     have:=h.ens.range x (List.mem_flatten.2 ⟨l,List.mem_of_getElem? hl,hx⟩);omega
  ·have q1:=jnx kH y.runs (jL id p)
   have q2:=jnx (fun r:Rn=>cS 2 r.tasks) y.runs (jL id p)
   have q3:cS 2 (jL id p).tasks=(ja4 2 (jL id p).tasks).length:=rfl;simp only [jaI] at hsl⊢;omega
 ·exact h
theorem EnsI.sweep {y:Yd} {q:Int} {l rest:List En} (h8:y.runs.length≤8) (hi:(y.runs.map (·.id)).Nodup) (h:EnsI y.runs q (l++rest)):EnsI y.runs q (l.filter (jM y)++rest):=by
 have hs:(l.filter (jM y)++rest).Sublist (l++rest):=List.Sublist.append List.filter_sublist (List.Sublist.refl _);refine ⟨fun e he=>h.range e (hs.subset he),h.apart.sublist (hs.map _),fun e he=>h.own e (hs.subset he),fun r hr t x hx hst=>?_⟩
 rw [←h.one r hr t x hx hst,jfC,jfC]
 congr 1
 simp only [zo,List.filter_filter]
 congr 1
 refine List.filter_congr fun e _=>?_
 by_cases g:e.run=r.id∧e.task=t
 ·have:jM y e=true:=by rw [jgP h8 hi hr g.1 g.2 hx,hst];rfl
  simp [g.1,g.2,this]
 ·have:(e.run==r.id&&e.task==(t:Int))=false:=by
   simp only [Bool.and_eq_false_iff,beq_eq_false_iff_ne,ne_eq];by_cases h3:e.run=r.id
   ·exact .inr fun h4=>g ⟨h3,h4⟩
   ·exact .inl h3
  rw [this];rfl
theorem YdI.shelf {y:Yd} (h:YdI y) {sh:List (List En)} (h4:sh.length=4) (hs:∀l∈sh,SrtP l) (he:EnsI y.runs y.seq sh.flatten) (hl:sh.flatten.length≤y.shelf.flatten.length):YdI ⟨y.now,y.seq,sh,y.runs⟩:=
 ⟨h.now,h.seq,h4,hs,h.rns,he,by have:=h.room;dsimp only;omega⟩
theorem YdI.swept {y:Yd} (h:YdI y) (k:Int):YdI (zM y k):=by
 unfold zM;split
 ·rename_i hk
  obtain ⟨n,rfl⟩:=Int.eq_ofNat_of_zero_le hk.1;obtain ⟨l,hl⟩:=je (show n<y.shelf.length by omega)
  rw [Int.toNat_natCast,hl,Option.getD_some];obtain ⟨rest,p1,p2⟩:=vl hl (l.filter (jM y));refine h.shelf (by rw [List.length_set];exact h.four) (fun m hm=>?_) (((h.ens.perm p1).sweep h.rns.eight h.rns.ids).perm p2.symm) ?_
  ·rcases List.mem_or_eq_of_mem_set hm with hm|rfl
   ·exact h.sorted m hm
   ·exact (h.sorted l (List.mem_of_getElem? hl)).sublist List.filter_sublist
  ·have a1:=p1.length_eq
   have a2:=p2.length_eq;rw [List.length_append] at a1 a2;have:=List.length_filter_le (jM y) l;omega
 ·exact h
theorem YdI.flat_le {y:Yd} (h:YdI y):y.shelf.flatten.length≤40:=by
 have:=jb1 h.rns.right;have:=h.room;omega
theorem jlR {sh:List (List En)} {l:List En} {k:Nat} (h:sh[k]?=some l):l.length≤sh.flatten.length:=(List.sublist_flatten_of_mem (List.mem_of_getElem? h)).length_le
theorem YdI.pollV {z:Yd} {hm v:Nat} (h:YdI z) (hv:v<4) (hh:hm<4) (hne:v≠hm):YdI (pollV z hm v):=by
 obtain ⟨l,hl⟩:=je (show v<z.shelf.length by rw [h.four];exact hv)
 obtain ⟨a,ha⟩:=je (show hm<z.shelf.length by rw [h.four];exact hh)
 obtain ⟨e1,e2⟩:=jjQ hl ha hne;have hS:=h.swept v;rw [e1] at hS;rw [e2];have hvl:v<z.shelf.length:=(List.getElem?_eq_some_iff.1 hl).1;have g1:(z.shelf.set v (l.filter (jM z)))[v]?=some (l.filter (jM z)):=List.getElem?_set_self hvl;have g2:(z.shelf.set v (l.filter (jM z)))[hm]?=some a:=by rw [List.getElem?_set_ne hne];exact ha
 generalize hL:l.filter (jM z)=L at*;obtain ⟨rest,p1,p2⟩:=vl g1 (jbt L);have g3:((z.shelf.set v L).set v (jbt L))[hm]?=some a:=by rw [List.getElem?_set_ne hne];exact g2
 obtain ⟨rest2,p3,p4⟩:=vl g3 (qH a (vU L));rw [List.set_set] at p2 p3 p4;have hfl:=hS.flat_le
 have hsm:a.length+(vU L).length≤80:=by
  have b1:a.length≤(z.shelf.set v L).flatten.length:=jlR g2;have b2:L.length≤(z.shelf.set v L).flatten.length:=jlR g1;have b3:(vU L).length≤L.length:=by simp only [vU,List.length_take];omega
  dsimp only at hfl;omega
 have hmg:qH a (vU L)=(vU L).foldl jdc a:=by rw [qH,if_neg (by omega)]
 have hp:(z.shelf.set v L).flatten.Perm ((z.shelf.set v (jbt L)).set hm (qH a (vU L))).flatten:=by
  rw [hmg];have hLs:(vU L++jbt L)=L:=by simp [vU,jbt]
  have q1:(z.shelf.set v L).flatten.Perm (vU L++(a++rest2)):=by
   refine p1.trans ?_
   conv=>lhs;rw [←hLs]
   rw [List.append_assoc];exact List.Perm.append_left _ (p2.symm.trans p3)
  refine q1.trans ?_;rw [hmg] at p4;refine List.Perm.trans ?_ p4.symm;rw [←List.append_assoc];refine List.Perm.append_right _ ?_;exact (List.perm_append_comm).trans (jhi (vU L) a).symm
 have hE:=hS.ens.perm hp;refine h.shelf (by rw [List.length_set,List.length_set];exact h.four) (fun m hm'=>?_) hE ?_
 ·rcases List.mem_or_eq_of_mem_set hm' with hm'|rfl
  ·rcases List.mem_or_eq_of_mem_set hm' with hm'|rfl
   ·exact h.sorted m hm'
   ·exact (hS.sorted L (List.mem_of_getElem? g1)).sublist (List.drop_sublist _ _)
  ·rw [hmg]
   refine jnY (hS.sorted a (List.mem_of_getElem? g2)) ?_;have hap:=hE.apart;have hp4:=(p4.map (·.seq)).nodup_iff.1 hap
   rw [List.map_append] at hp4;have hp5:=(List.nodup_append.1 hp4).1;rw [hmg] at hp5;exact ((jhi (vU L) a).map (·.seq)).nodup_iff.1 hp5
 ·rw [←hp.length_eq]
  have:(z.shelf.set v L).flatten.length≤z.shelf.flatten.length:=by
   obtain ⟨r3,c1,c2⟩:=vl hl L;have c1:=c1.length_eq;have c2:=c2.length_eq;rw [List.length_append] at c1 c2;have:L.length≤l.length:=by rw [←hL];exact List.length_filter_le _ _
   omega
  exact this
theorem YdI.pollF {hm:Nat} (hh:hm<4):∀(vs:List Int) (z:Yd),(∀v∈vs,∃n:Nat,v=n∧n<4∧n≠hm)→YdI z→YdI (pollF hm vs z)
 |[],z,_,h=>h
 |v::vs,z,hv,h=>by
  unfold Go.Proofs.Ytmnpailnelmpiaa.pollF;split
  ·obtain ⟨n,rfl,h4,hne⟩:=hv v (by simp)
   exact YdI.pollF hh vs _ (fun w hw=>hv w (by simp [hw])) (h.pollV h4 hh hne)
  ·exact h
theorem YdI.pollZ {y:Yd} (h:YdI y) {hm:Nat} (hh:hm<4) (draw:Int):YdI (pollZ y hm draw):=by
 obtain ⟨a,b,c,e,ha,hb,hc,na,nb,nc⟩:=jjt hh draw;unfold Go.Proofs.Ytmnpailnelmpiaa.pollZ;rw [e];refine YdI.pollF hh _ _ (fun v hv=>?_) (h.swept hm)
 simp only [List.mem_cons,List.not_mem_nil,or_false] at hv;rcases hv with rfl|rfl|rfl
 ·exact ⟨a,rfl,ha,na⟩
 ·exact ⟨b,rfl,hb,nb⟩
 ·exact ⟨c,rfl,hc,nc⟩
theorem jtY {r:Rn} {t:Nat} {x:Tk} {now:Int} (h:RunOkP r) (hx:r.tasks[t]?=some x) (hs:x.state=2) (hn:0≤now∧now≤999999980):RunOkP (kz r t x now)∧(kz r t x now).tasks=r.tasks.set t ⟨3,x.need,x.tri+1,now+r.plan.wait⟩:=by
 obtain ⟨n,hn',hn1,h12,h30,hes,hnd,hprio,hmost,hwait⟩:=jgL h.plan;have ht:=(List.getElem?_eq_some_iff.1 hx).1;have hx1:=taskB_iff.1 (h.tasks t x hx);have hxl:=hx1.2.2.2.2
 have hxl:x.need=0∧x.tri<r.plan.most:=by
  simp only [vE,hs] at hxl;simpa using hxl
 have hx3:=hx1.2.2.1;have w1:IntKind.i64.wrap (x.tri+1)=x.tri+1:=jg (by omega) (by omega)
 have w2:IntKind.i64.wrap (now+r.plan.wait)=now+r.plan.wait:=jg (by omega) (by omega)
 have e:kz r t x now=⟨r.id,r.plan,r.state,r.tasks.set t ⟨3,x.need,x.tri+1,now+r.plan.wait⟩⟩:=by rw [kz,jqV,w1,w2]
 have hst:=h.state;have c2:=joD (s:=2) hx hs;have hl:=zT h
 have hs1:r.state=1:=by
  unfold kH at hl;split at hl
  ·assumption
  ·omega
 rw [hs1] at hst
 obtain ⟨c4,c5,c6⟩:cS 4 r.tasks≠r.tasks.length∧cS 5 r.tasks=0∧cS 6 r.tasks=0:=by
  unfold jkV at hst;split at hst
  ·cases hst
  ·rename_i g
   split at hst
   ·cases hst
   ·split at hst
    ·cases hst
    ·split at hst
     ·rename_i g2;exact ⟨g,g2.1,g2.2⟩
     ·cases hst
 have hN:∀j:Int,zG r.plan (r.tasks.set t ⟨3,x.need,x.tri+1,now+r.plan.wait⟩) j=zG r.plan r.tasks j:=jau (jmy hx (by simp [hs]))
 have d5:cS 5 (r.tasks.set t ⟨3,x.need,x.tri+1,now+r.plan.wait⟩)=0:=jcl (jfM (q:=fun s=>s≠5) (by simp) fun y hy=>by obtain ⟨k,hk,rfl⟩:=List.getElem_of_mem hy;exact jqu c5 (List.getElem?_eq_getElem hk))
 have d6:cS 6 (r.tasks.set t ⟨3,x.need,x.tri+1,now+r.plan.wait⟩)=0:=jcl (jfM (q:=fun s=>s≠6) (by simp) fun y hy=>by obtain ⟨k,hk,rfl⟩:=List.getElem_of_mem hy;exact jqu c6 (List.getElem?_eq_getElem hk))
 have d3:=joD (s:=3) (List.getElem?_set_self ht:(r.tasks.set t ⟨3,x.need,x.tri+1,now+r.plan.wait⟩)[t]?=some _) rfl;have hsts:∀z∈r.tasks.set t ⟨3,x.need,x.tri+1,now+r.plan.wait⟩,1≤z.state∧z.state≤6:=jfM (q:=fun s=>1≤s∧s≤6) (by simp) h.st
 have hsum:=jba hsts _ (Nat.le_refl _);change cS 1 _+cS 2 _+cS 3 _+cS 4 _+cS 5 _+cS 6 _=_ at hsum;rw [e];refine ⟨⟨h.id,h.plan,by dsimp only;rw [List.length_set];exact h.len,fun j z hz=>?_,?_,by dsimp only;omega⟩,rfl⟩
 ·dsimp only at hz⊢
  rw [List.getElem?_set] at hz;by_cases ej:t=j
  ·subst ej
   rw [if_pos rfl,if_pos ht] at hz;obtain rfl:=Option.some.inj hz;rw [taskB_iff,hN];refine ⟨by simp,hx1.2.1,by dsimp only;omega,?_,?_⟩
   ·simp only [jf7,if_true,inB,decide_eq_true_eq];omega
   ·have:1≤x.tri+1:=by omega
    simp [vE,hxl.1,this]
  ·rw [if_neg ej] at hz
   have:=taskB_iff.1 (h.tasks j z hz);rw [taskB_iff,hN];exact this
 ·dsimp only
  rw [hs1,jkV,if_neg (by omega),if_neg (by omega),if_neg (by omega),if_pos ⟨d5,d6⟩]
theorem YdI.hand {Z:Yd} {hm:Nat} {e:En} {l:List En} {k t:Nat} {r:Rn} {x:Tk} (h:YdI Z) (ha:Z.shelf[hm]?=some (e::l)) (hrk:runAt Z e.run=k) (hr:Z.runs[k]?=some r) (het:e.task=t) (hx:r.tasks[t]?=some x) (hs:x.state=2):YdI (jlI Z hm e l):=by
 have hR:=h.rns.right r (List.mem_of_getElem? hr);obtain ⟨hok,htk⟩:=jtY hR hx hs h.now;have hk:=(List.getElem?_eq_some_iff.1 hr).1;have ht:=(List.getElem?_eq_some_iff.1 hx).1
 have hH:jlI Z hm e l=⟨Z.now,Z.seq,Z.shelf.set hm l,Z.runs.set k (kz r t x Z.now)⟩:=by
  simp only [jlI,hrk,het,Int.toNat_natCast,hr,hx,Option.getD_some]
 have hrid:r.id=e.run:=by
  have hneg:¬runAt Z e.run<0:=by rw [hrk];omega
  obtain ⟨k',r',h1,h2,h3,_⟩:=vB hneg;rw [hrk] at h1;obtain rfl:k=k':=by omega
  rw [hr] at h2;obtain rfl:=Option.some.inj h2;exact h3
 obtain ⟨rest,p1,p2⟩:=vl ha l;have hE0:=h.ens.perm p1;have hone:=hE0.one r (List.mem_of_getElem? hr) t x hx hs
 have hcnt:zo r.id t (l++rest)=0:=by
  have:zo r.id t ((e::l)++rest)=zo r.id t (l++rest)+1:=by
   simp [zo,hrid,het]
  omega
 have hsub:(l++rest).Sublist ((e::l)++rest):=List.Sublist.append (List.sublist_cons_self _ _) (List.Sublist.refl _);have hids:=jmD (r2:=kz r t x Z.now) hr rfl
 have hget:∀(j:Nat) (z w:Tk),r.tasks[j]?=some z→(kz r t x Z.now).tasks[j]?=some w→(j=t∧w=⟨3,x.need,x.tri+1,Z.now+r.plan.wait⟩)∨(j≠t∧w=z):=fun j z w hz hw=>by
  rw [htk,List.getElem?_set] at hw;by_cases ej:t=j
  ·subst ej
   rw [if_pos rfl,if_pos ht] at hw;exact .inl ⟨rfl,(Option.some.inj hw).symm⟩
  ·rw [if_neg ej,hz] at hw
   exact .inr ⟨fun g=>ej g.symm,(Option.some.inj hw).symm⟩
 have hlenT:(kz r t x Z.now).tasks.length=r.tasks.length:=by rw [htk,List.length_set]
 have hgs:∀(j:Nat) (w:Tk),(kz r t x Z.now).tasks[j]?=some w→∃z,r.tasks[j]?=some z∧((j=t∧w=⟨3,x.need,x.tri+1,Z.now+r.plan.wait⟩)∨(j≠t∧w=z)):=fun j w hw=>by
  obtain ⟨z,hz⟩:=je (show j<r.tasks.length by rw [←hlenT];exact (List.getElem?_eq_some_iff.1 hw).1)
  exact ⟨z,hz,hget j z w hz hw⟩
 obtain ⟨n,hn',hn1,h12,h30,hes,hnd,hprio,hmost,hwait⟩:=jgL hR.plan
 have hRn:RnsI Z.now (Z.runs.set k (kz r t x Z.now)):=by
  refine ⟨by rw [List.length_set];exact h.rns.eight,fun r' hr'=>?_,by rw [hids];exact h.rns.ids,fun r' hr' j w hw hst=>?_,fun r' hr' w hw hst=>?_⟩
  ·rcases jbf hr' with rfl|⟨j,_,hj⟩
   ·exact hok
   ·exact h.rns.right r' (List.mem_of_getElem? hj)
  ·rcases jbf hr' with rfl|⟨i,_,hi⟩
   ·obtain ⟨z,hz,⟨rfl,rfl⟩|⟨_,rfl⟩⟩:=hgs j w hw
    ·show Z.now+1≤Z.now+r.plan.wait∧Z.now+r.plan.wait≤Z.now+r.plan.wait
     omega
    ·exact h.rns.til r (List.mem_of_getElem? hr) j _ hz hst
   ·exact h.rns.til r' (List.mem_of_getElem? hi) j w hw hst
  ·rcases jbf hr' with rfl|⟨i,_,hi⟩
   ·obtain ⟨j,hj⟩:=List.getElem?_of_mem hw
    obtain ⟨z,hz,⟨rfl,rfl⟩|⟨_,rfl⟩⟩:=hgs j w hj
    ·simp at hst
    ·exact h.rns.tri r (List.mem_of_getElem? hr) _ (List.mem_of_getElem? hz) hst
   ·exact h.rns.tri r' (List.mem_of_getElem? hi) w hw hst
 have hE:EnsI (Z.runs.set k (kz r t x Z.now)) Z.seq (l++rest):=by
  refine ⟨fun f hf=>hE0.range f (hsub.subset hf),hE0.apart.sublist (hsub.map _),fun f hf=>?_,fun r' hr' j w hw hst=>?_⟩
  ·obtain ⟨r',hr',j,z,h1,h2,h3,h4⟩:=hE0.own f (hsub.subset hf)
   obtain ⟨i,hi⟩:=List.getElem?_of_mem hr';by_cases eik:k=i
   ·subst eik
    rw [hr] at hi;obtain rfl:=Option.some.inj hi
    have hjt:j≠t:=fun e=>by
     subst e;have:=jxX hf h1 h2;omega
    refine ⟨kz r t x Z.now,List.mem_of_getElem? (List.getElem?_set_self hk),j,z,h1,h2,?_,h4⟩;rw [htk,List.getElem?_set_ne (fun e=>hjt e.symm)];exact h3
   ·exact ⟨r',List.mem_of_getElem? (i:=i) (by rw [List.getElem?_set_ne eik];exact hi),j,z,h1,h2,h3,h4⟩
  ·have hcons:∀(id u:Int),¬(e.run=id∧e.task=u)→zo id u ((e::l)++rest)=zo id u (l++rest):=fun id u g=>by
    have:(e.run==id&&e.task==u)=false:=by
     simp only [Bool.and_eq_false_iff,beq_eq_false_iff_ne,ne_eq];by_cases h3:e.run=id
     ·exact .inr fun h4=>g ⟨h3,h4⟩
     ·exact .inl h3
    simp [zo,List.filter_cons,this]
   rcases jbf hr' with rfl|⟨i,hik,hi⟩
   ·obtain ⟨z,hz,⟨rfl,rfl⟩|⟨hjt,rfl⟩⟩:=hgs j w hw
    ·simp at hst
    ·have:=hE0.one r (List.mem_of_getElem? hr) j _ hz hst
     rw [hcons _ _ (fun g=>hjt (by have:=g.2;omega))] at this
     exact this
   ·have:=hE0.one r' (List.mem_of_getElem? hi) j w hw hst
    rw [hcons _ _ (fun g=>by
     have e1:r.id=r'.id:=hrid.trans g.1;exact hik (joj h.rns.ids hi hr e1.symm))] at this
    exact this
 have hready:cS 2 r.tasks≤cS 2 (kz r t x Z.now).tasks+1:=by
  simp only [cS,ja4,vh,List.length_map,hlenT]
  have h1:∀n,((List.range n).filter fun (j:Nat)=>stT r.tasks (j:Int)==2).length≤((List.range n).filter fun (j:Nat)=>stT (kz r t x Z.now).tasks (j:Int)==2).length+if t<n then 1 else 0:=fun n=>by
   induction n with
   |zero=>simp
   |succ n ih=>
    rw [List.range_succ,List.filter_append,List.filter_append,List.length_append,List.length_append];by_cases ent:n=t
    ·subst ent
     simp only [List.filter_cons,List.filter_nil];split<;>split<;>simp_all<;>omega
    ·have e3:stT (kz r t x Z.now).tasks (n:Int)=stT r.tasks (n:Int):=by
      simp only [stT,Int.toNat_natCast,htk,List.getElem?_set_ne (fun e=>ent e.symm)]
     simp only [List.filter_cons,List.filter_nil,e3];split<;>simp<;>split at ih<;>split<;>omega
  have:=h1 r.tasks.length;rw [if_pos ht] at this;exact this
 have t1:=qj (f:=kH) (kz r t x Z.now) hr;have t2:=qj (f:=fun r:Rn=>cS 2 r.tasks) (kz r t x Z.now) hr
 have hlv:kH (kz r t x Z.now)=kH r:=by
  have:(kz r t x Z.now).state=r.state:=rfl;simp only [kH,this,hlenT]
 have a1:=p1.length_eq;have a2:=p2.length_eq;rw [List.length_append] at a1 a2;rw [List.length_cons] at a1;have hroom:=h.room;rw [hH];refine ⟨h.now,h.seq,by rw [List.length_set];exact h.four,fun m hm'=>?_,hRn,hE.perm p2.symm,?_⟩
 ·rcases List.mem_or_eq_of_mem_set hm' with hm'|rfl
  ·exact h.sorted m hm'
  ·exact (h.sorted _ (List.mem_of_getElem? ha)).sublist (List.sublist_cons_self _ _)
 ·simp only [jaI] at hroom⊢
  omega
theorem YdI.poll {y:Yd} (h:YdI y) (worker draw:Int):YdI (jcb y worker draw):=by
 unfold jcb;split
 ·exact h
 ·rename_i hc
  have hok:jJ y=true:=by
   cases h:jJ y with
   |true=>rfl
   |false=>exact absurd (.inl h) hc
  have hw:0≤worker∧worker≤99:=by
   refine Classical.byContradiction fun h=>hc (.inr h)
  have hh4:(worker.tmod 4).toNat<4:=by rw [Int.tmod_eq_emod_of_nonneg hw.1];omega
  have hI:=jrJ (yard_iff.1 hok) hh4 draw;have hZ:=h.pollZ hh4 draw;split
  ·exact hZ
  ·rename_i e l he
   generalize (worker.tmod 4).toNat=hm at*
   have ha:(Go.Proofs.Ytmnpailnelmpiaa.pollZ y hm draw).shelf[hm]?=some (e::l):=by
    rw [jii] at he;cases hs:(Go.Proofs.Ytmnpailnelmpiaa.pollZ y hm draw).shelf[hm]? with
    |none=>rw [hs] at he;simp at he
    |some x=>rw [hs,Option.getD_some] at he;rw [he]
   generalize Go.Proofs.Ytmnpailnelmpiaa.pollZ y hm draw=Z at*;obtain ⟨k,t,r,x,hrk,hr,het,hx,hxs⟩:=jon (hI.frs _ ha e (by simp))
   rw [←hI.runs] at hr;have hrz2:runAt Z e.run=(k:Int):=by rw [←hrk];unfold runAt;rw [hI.runs]
   exact hZ.hand ha hrz2 hr het hx hxs
theorem YdI.do {y:Yd} (h:YdI y) (d:Dd):YdI (doY y d):=by
 unfold doY
 repeat' split
 ·exact h
 ·exact h.sub _ _
 ·exact h.poll _ _
 ·exact h.comp _ _ _
 ·exact h.fail _ _ _
 ·exact h.tick
 ·exact h.cancel _
 ·exact h.forget _
 ·exact h.rest
abbrev Cu:=Nat×Int
def joK (a b:Int):Int:=IntKind.i64.wrap ((BitVec.ofInt 64 a&&&BitVec.ofInt 64 b).toNat)
theorem jz1 (a:Int) (m:Nat) (hm:m<2^62):0≤joK a (m:Int)∧joK a (m:Int)≤m:=by
 have h2:(BitVec.ofInt 64 a&&&BitVec.ofInt 64 (m:Int)).toNat≤m:=by
  rw [BitVec.toNat_and,BitVec.ofInt_natCast,BitVec.toNat_ofNat,Nat.mod_eq_of_lt (a:=m) (by omega)]
  exact Nat.and_le_right
 rw [joK,jg (by omega) (by omega)]
 omega
theorem jkG (a:Int):0≤joK a 255∧joK a 255≤255:=jz1 a 255 (by decide)
def jl3 (h:Int):Int:=IntKind.i64.wrap (IntKind.i64.wrap (h*6364136223846793005)+1442695040888963407)
def jv5 (h:Int):Int:=joK (joP (h.fdiv (2^33)) (h.fdiv (2^45))) 255
def ki (c:List UInt8) (s:Cu):Int×Cu:=match c[s.1]? with
 |some u=>(joK (jv5 (jl3 s.2)+(u.toNat:Int)) 255,(s.1+1,jl3 s.2))
 |none=>(jv5 (jl3 s.2),(s.1,jl3 s.2))
theorem vV (c:List UInt8) (s:Cu):0≤(ki c s).1∧(ki c s).1≤255:=by
 unfold ki;split
 ·exact jkG _
 ·exact jkG _
theorem vW {c:List UInt8} {s:Cu} (h:s.1≤c.length):(ki c s).2.1≤c.length:=by
 unfold ki;split
 ·rename_i u hu
  have:=(List.getElem?_eq_some_iff.1 hu).1;dsimp only;omega
 ·exact h
def jh (c:List UInt8) (n:Int) (s:Cu):Int×Cu:=
 if n≤0 then (0,s) else if n≤256 then ((ki c s).1.tmod n,(ki c s).2)
 else (((ki c s).1*16777216+(ki c (ki c s).2).1*65536+(ki c (ki c (ki c s).2).2).1*256+(ki c (ki c (ki c (ki c s).2).2).2).1).tmod n,(ki c (ki c (ki c (ki c s).2).2).2).2)
theorem jA (c:List UInt8) {n:Int} (s:Cu) (hn:0<n):0≤(jh c n s).1∧(jh c n s).1<n:=by
 unfold jh;rw [if_neg (by omega)]
 split
 ·have:=vV c s
  exact ⟨Int.tmod_nonneg _ this.1,Int.tmod_lt_of_pos _ hn⟩
 ·refine ⟨Int.tmod_nonneg _ ?_,Int.tmod_lt_of_pos _ hn⟩
  have h1:=vV c s;have h2:=vV c (ki c s).2;have h3:=vV c (ki c (ki c s).2).2;have h4:=vV c (ki c (ki c (ki c s).2).2).2;omega
theorem js {c:List UInt8} {n:Int} {s:Cu} (h:s.1≤c.length):(jh c n s).2.1≤c.length:=by
 unfold jh;split
 ·exact h
 ·split
  ·exact vW h
  ·exact vW (vW (vW (vW h)))
def vH (c:List UInt8) (n:Int):Nat→Nat→List Ed→Cu→List Ed×Cu
 |0,_,E,s=>(E,s)
 |f+1,i,E,s=>let m:=jh c 9 s
  if (i:Int)<m.1∧1<n then
   let a:=jh c (n-1) m.2;let b:=jh c (1+a.1) a.2
   vH c n f (i+1) (if (⟨b.1,1+a.1⟩:Ed)∈E then E else E++[⟨b.1,1+a.1⟩]) b.2
  else (E,m.2)
structure EdsI (n:Int) (E:List Ed):Prop where
 nd:E.Nodup
 up:∀e∈E,0≤e.src∧e.src<e.dst∧e.dst<n
theorem EdsI.add {n:Int} {E:List Ed} {e:Ed} (h:EdsI n E) (he:0≤e.src∧e.src<e.dst∧e.dst<n):EdsI n (if e∈E then E else E++[e]):=by
 split
 ·exact h
 ·rename_i hn
  refine ⟨List.nodup_append.2 ⟨h.nd,by simp,fun x hx y hy e1=>?_⟩,fun x hx=>?_⟩
  ·simp at hy;subst hy;subst e1;exact hn hx
  ·rcases List.mem_append.1 hx with hx|hx
   ·exact h.up x hx
   ·simp at hx;subst hx;exact he
theorem jhO (c:List UInt8) (n:Int):∀(f i:Nat) (E:List Ed) (s:Cu),EdsI n E→EdsI n (vH c n f i E s).1∧(vH c n f i E s).1.length≤E.length+f
 |0,i,E,s,h=>⟨h,Nat.le_refl _⟩
 |f+1,i,E,s,h=>by
  rw [vH];dsimp only;split
  ·rename_i hc
   have ha:=jA c (n:=n-1) (jh c 9 s).2 (by omega)
   have hb:=jA c (n:=1+(jh c (n-1) (jh c 9 s).2).1) (jh c (n-1) (jh c 9 s).2).2 (by omega)
   obtain ⟨h1,h2⟩:=jhO c n f (i+1) _ (jh c (1+(jh c (n-1) (jh c 9 s).2).1) (jh c (n-1) (jh c 9 s).2).2).2 (h.add (e:=⟨_,_⟩) ⟨hb.1,hb.2,by dsimp only;omega⟩)
   refine ⟨h1,Nat.le_trans h2 ?_⟩;split
   ·omega
   ·simp;omega
  ·exact ⟨h,by dsimp only;omega⟩
theorem jl1 (c:List UInt8) (n:Int):∀(f i:Nat) (E:List Ed) (s:Cu),s.1≤c.length→(vH c n f i E s).2.1≤c.length
 |0,i,E,s,h=>h
 |f+1,i,E,s,h=>by
  rw [vH];dsimp only;split
  ·exact jl1 c n f _ _ _ (js (js (js h)))
  ·exact js h
def ja3 (c:List UInt8) (s:Cu):Pl×Cu:=
 let a:=jh c 4 s;let b:=jh c 3 a.2;let w:=jh c 4 b.2;let t:=jh c 6 w.2;let o:=jh c 10 t.2
 let n:=if o.1=0 then 12 else 1+t.1
 let e:=vH c n 9 0 [] o.2
 (⟨a.1,1+b.1,1+w.1,n,e.1⟩,e.2)
theorem rc_up {n:Int} {E:List Ed} (h:EdsI n E) {a b:Int} (hr:Rc E a b):a<b:=by
 induction hr with
 |one he=>obtain ⟨e,h1,h2,h3⟩:=he;have:=h.up e h1;omega
 |step _ he ih=>obtain ⟨e,h1,h2,h3⟩:=he;have:=h.up e h1;omega
theorem ju6 (c:List UInt8) (s:Cu):jz (ja3 c s).1=0:=by
 unfold ja3;dsimp only;have h1:=jA c (n:=4) s (by decide)
 generalize jh c 4 s=a at*;have h2:=jA c (n:=3) a.2 (by decide)
 generalize jh c 3 a.2=b at*;have h3:=jA c (n:=4) b.2 (by decide)
 generalize jh c 4 b.2=w at*;have h4:=jA c (n:=6) w.2 (by decide)
 generalize jh c 6 w.2=t at*;generalize jh c 10 t.2=o at*;obtain ⟨n,hn⟩:∃n:Int,(if o.1=0 then (12:Int) else 1+t.1)=n:=⟨_,rfl⟩
 rw [hn];have hn12:1≤n∧n≤12:=by rw [←hn];split<;>omega
 obtain ⟨hE,hl⟩:=jhO c n 9 0 [] o.2 ⟨by simp,by simp⟩
 generalize (vH c n 9 0 [] o.2).1=E at*;simp only [List.length_nil] at hl;refine jzc ?_ ?_ hE.nd fun t _ hr=>by have:=rc_up hE hr;omega
 ·simp only [jav,inB,Bool.or_eq_false_iff,Bool.not_eq_false',decide_eq_true_eq,decide_eq_false_iff_not]
  omega
 ·refine List.any_eq_false.2 fun e he=>?_
  have:=hE.up e he;simp only [jmh,inB,Bool.or_eq_true,Bool.not_eq_true',decide_eq_false_iff_not,not_or,Classical.not_not];omega
theorem ju7 {c:List UInt8} {s:Cu} (h:s.1≤c.length):(ja3 c s).2.1≤c.length:=jl1 _ _ _ _ _ _ (js (js (js (js (js h)))))
def zZ (c:List UInt8):List Rn→Cu→Option (Int×Int×Int)×Cu
 |[],s=>(none,s)
 |r::rs,s=>let l:=ja4 3 r.tasks
  if l=[] then zZ c rs s else
   let o:=jh c 5 s
   if o.1=0 then zZ c rs o.2 else
    let k:=jh c l.length o.2
    let t:=(l[k.1.toNat]?).getD 0
    let v:=((r.tasks[t.toNat]?).map (·.tri)).getD 0
    let e:=jh c 8 k.2
    if e.1=0 then let f:=jh c 2 e.2;(some (r.id,t,IntKind.i64.wrap (IntKind.i64.wrap (v-1)+2*f.1)),f.2) else (some (r.id,t,v),e.2)
def kJ (c:List UInt8) (y:Yd) (s:Cu):(Int×Int×Int)×Cu:=match zZ c y.runs s with
 |(some x,s)=>(x,s)
 |(none,s)=>let a:=jh c 5 s;let b:=jh c 6 a.2;let d:=jh c 4 b.2;((1+a.1,b.1-1,d.1),d.2)
theorem jhN {c:List UInt8}:∀(rs:List Rn) {s:Cu},s.1≤c.length→(zZ c rs s).2.1≤c.length
 |[],s,h=>h
 |r::rs,s,h=>by
  rw [zZ];dsimp only;split
  ·exact jhN rs h
  ·split
   ·exact jhN rs (js h)
   ·split
    ·exact js (js (js (js h)))
    ·exact js (js (js h))
theorem joy {c:List UInt8} {y:Yd} {s:Cu} (h:s.1≤c.length):(kJ c y s).2.1≤c.length:=by
 unfold kJ;have:=jhN y.runs h;split
 ·rename_i x s' e;rw [e] at this;exact this
 ·rename_i s' e;rw [e] at this;exact js (js (js this))
theorem jhM {c:List UInt8}:∀(rs:List Rn) {s:Cu} {x:Int×Int×Int} {s':Cu},zZ c rs s=(some x,s')→∃r∈rs,x.1=r.id
 |[],s,x,s',h=>by simp [zZ] at h
 |r::rs,s,x,s',h=>by
  rw [zZ] at h;dsimp only at h;split at h
  ·obtain ⟨r',h1,h2⟩:=jhM rs h;exact ⟨r',by simp [h1],h2⟩
  ·split at h
   ·obtain ⟨r',h1,h2⟩:=jhM rs h;exact ⟨r',by simp [h1],h2⟩
   ·split at h
    ·simp only [Prod.mk.injEq,Option.some.injEq] at h;exact ⟨r,by simp,by rw [←h.1]⟩
    ·simp only [Prod.mk.injEq,Option.some.injEq] at h;exact ⟨r,by simp,by rw [←h.1]⟩
abbrev plZ:Pl:=⟨0,0,0,0,[]⟩
def kS (c:List UInt8) (y:Yd) (s:Cu):Dd×Cu:=
 let k:=jh c 20 s
 if k.1<6 then let w:=jh c 8 k.2;let d:=jh c 7 w.2;(⟨2,0,plZ,0,0,w.1,d.1⟩,d.2)
 else if k.1<10 then let r:=jh c 9 k.2;let p:=ja3 c r.2;(⟨1,1+r.1,p.1,0,0,0,0⟩,p.2)
 else if k.1<15 then let h:=kJ c y k.2;(⟨3,h.1.1,plZ,brI h.1.2.1 0 99,brI h.1.2.2 0 99,0,0⟩,h.2)
 else if k.1=15 then let h:=kJ c y k.2;(⟨4,h.1.1,plZ,brI h.1.2.1 0 99,brI h.1.2.2 0 99,0,0⟩,h.2)
 else if k.1=16 then (⟨5,0,plZ,0,0,0,0⟩,k.2)
 else if k.1=17 then let r:=jh c 9 k.2;(⟨6,1+r.1,plZ,0,0,0,0⟩,r.2)
 else if k.1=18 then let r:=jh c 9 k.2;(⟨7,1+r.1,plZ,0,0,0,0⟩,r.2)
 else let o:=jh c 3 k.2;if o.1=0 then (⟨8,0,plZ,0,0,0,0⟩,o.2) else (⟨5,0,plZ,0,0,0,0⟩,o.2)
theorem jva {c:List UInt8} {y:Yd} {s:Cu} (h:s.1≤c.length):(kS c y s).2.1≤c.length:=by
 unfold kS;dsimp only;have h1:=js (n:=20) h
 repeat' split
 ·exact js (js h1)
 ·exact ju7 (js h1)
 ·exact joy h1
 ·exact joy h1
 ·exact h1
 ·exact js h1
 ·exact js h1
 ·exact js h1
 ·exact js h1
noncomputable def qm (c:List UInt8):Nat→List Dd×Yd×Cu→List Dd×Yd×Cu
 |0,x=>x
 |n+1,x=>qm c n (x.1++[(kS c x.2.1 x.2.2).1],doY x.2.1 (kS c x.2.1 x.2.2).1,(kS c x.2.1 x.2.2).2)
def jz6 (c:List UInt8):Int:=(c.take 4000).foldl (fun h u=>joK (IntKind.i64.wrap (IntKind.i64.wrap (IntKind.i64.wrap (h*131)+(u.toNat:Int))+7)) 1073741823) (94701+(c.length:Int))
def jjk (c:List UInt8):Cu:=(0,jz6 c)
theorem jg5 (y:Yd) (k:Nat) (r2:Rn):(qi y k r2).seq≤y.seq+r2.tasks.length:=by
 simp only [qi,jqs,zu];have:=jdP ((y.runs[k]?).getD default).tasks r2.tasks r2.tasks.length;omega
theorem jnM {y:Yd} (h:YdI y) (k:Nat):((y.runs[k]?).getD default).tasks.length≤12:=by
 cases hr:y.runs[k]? with
 |none=>exact Nat.zero_le _
 |some r=>exact (h.rns.right r (List.mem_of_getElem? hr)).le12
theorem jk6 {y:Yd} (h:YdI y) (k t:Nat):(failK y k t).seq≤y.seq+12:=by
 unfold failK;split
 ·have h1:=jg5 y k (jK ((y.runs[k]?).getD default) t)
  have h2:=jnM h k;rw [qk] at h1;omega
 ·omega
theorem jk4 {z:Yd} (h:YdI z) (k:Nat):∀t,(restT z k t).seq≤z.seq+12*t
 |0=>by simp [restT]
 |t+1=>by
  have h1:=jk4 h k t;have h2:=jk6 (h.restT k t) k t;simp only [restT];omega
theorem jk5 {y:Yd} (h:YdI y):∀k,(restR y k).seq≤y.seq+144*k
 |0=>by simp [restR]
 |k+1=>by
  have h1:=jk5 h k;have h2:=jk4 (h.restR k) k ((y.runs[k]?).getD default).tasks.length;have h3:=jnM h k;simp only [restR];omega
theorem jk3 {y:Yd} (h:YdI y):∀i,i≤(qq y).length→(tickI y i).seq≤y.seq+12*i
 |0,_=>by simp [tickI]
 |i+1,hi=>by
  have h1:=jk3 h i (by omega)
  have h2:=(h.tickI i (by omega)).1
  obtain ⟨l,hl⟩:=je (show i<(qq y).length by omega)
  rw [jeL hl];unfold jmx;have:=jk6 h2 (runAt (tickI y i) (l.headD 0)).toNat (l.tail.headD 0).toNat;omega
theorem jyI {y:Yd} (h:YdI y) (d:Dd):(doY y d).seq≤y.seq+2000:=by
 unfold doY;split
 ·omega
 split
 ·unfold jkU
  split
  ·rename_i hc
   simp only [jqs,zu]
   have hp:jz d.plan=0:=by
    refine Classical.byContradiction fun hp=>?_
    unfold jkH at hc
    repeat' split at hc
    all_goals first|(cases hc;done)|exact hp hc|contradiction|omega
   obtain ⟨n,hn,_,h12,-⟩:=jgL hp;have h3:(jL d.run d.plan).tasks.length≤12:=by rw [jL,jht];omega
   have h4:(ja4 2 (jL d.run d.plan).tasks).length≤(jL d.run d.plan).tasks.length:=jdC _ _ _;omega
  ·omega
 split
 ·unfold jcb
  split
  ·omega
  ·rename_i hc
   have hok:jJ y=true:=by
    cases h:jJ y with
    |true=>rfl
    |false=>exact absurd (.inl h) hc
   have hw:0≤d.worker∧d.worker≤99:=by
    refine Classical.byContradiction fun h=>hc (.inr h)
   have hh4:(d.worker.tmod 4).toNat<4:=by rw [Int.tmod_eq_emod_of_nonneg hw.1];omega
   have hI:=(jrJ (yard_iff.1 hok) hh4 d.draw).seq;split
   ·omega
   ·simp only [jlI];omega
 split
 ·unfold jiB
  split
  ·have h1:=jg5 y (runAt y d.run).toNat (qV ((y.runs[(runAt y d.run).toNat]?).getD default) d.task)
   have h2:=jnM h (runAt y d.run).toNat;rw [jhb] at h1;omega
  ·omega
 split
 ·unfold jiz
  split
  ·have h1:=jg5 y (runAt y d.run).toNat (jK ((y.runs[(runAt y d.run).toNat]?).getD default) d.task)
   have h2:=jnM h (runAt y d.run).toNat;rw [qk] at h1;omega
  ·omega
 split
 ·unfold jg1
  split
  ·rename_i hc
   have hok:jJ y=true:=by
    unfold jf8 at hc;cases h:jJ y with
    |true=>rfl
    |false=>rw [if_pos h] at hc;cases hc
   have h1:=jk3 h _ (Nat.le_refl _);have h2:=jse (yard_iff.1 hok);dsimp only;omega
  ·omega
 split
 ·unfold vb
  split
  ·simp only [jiV];omega
  ·omega
 split
 ·unfold je0
  split
  ·dsimp only;omega
  ·omega
 ·unfold jif
  split
  ·have h1:=jk5 h y.runs.length
   have h2:=h.rns.eight;omega
  ·omega
theorem YdI.new:YdI newYd:=by
 refine ⟨by decide,by decide,rfl,fun l hl=>?_,⟨by simp [newYd],by simp [newYd],by simp [newYd],by simp [newYd],by simp [newYd]⟩,⟨by simp [newYd],by simp [newYd],by simp [newYd],by simp [newYd]⟩,by simp [newYd,qE]⟩
 have:l=[]:=by simp [newYd] at hl;exact hl
 subst this;exact List.Pairwise.nil
theorem js9 (n:Int) {a b:Int} (h:a≤b):a≤brI n a b∧brI n a b≤b:=by
 unfold brI;split
 ·omega
 ·split<;>omega
theorem jut:qd plZ=true:=by decide
theorem vC {n:Int} (h:0≤n∧n≤1000000000):qR n=true:=decide_eq_true h
theorem juo {p:Pl} (h:jz p=0):jcc p=true:=by
 obtain ⟨n,h1,h2,h3,h4,h5,h6,h7,h8,h9⟩:=jgL h;simp only [jcc,Bool.and_eq_true,decide_eq_true_eq,List.all_eq_true];refine ⟨⟨⟨⟨⟨vC (by omega),vC (by omega)⟩,vC (by omega)⟩,vC (by omega)⟩,by omega⟩,fun e he=>?_⟩
 have:=h5 e he;unfold okE at this;simp only [edB,Bool.and_eq_true];exact ⟨vC (by omega),vC (by omega)⟩
theorem ju8 (c:List UInt8) {y:Yd} (s:Cu) (hi:∀r∈y.runs,1≤r.id∧r.id≤9999):0≤(kJ c y s).1.1∧(kJ c y s).1.1≤9999:=by
 unfold kJ;split
 ·rename_i x s' e
  obtain ⟨r,h1,h2⟩:=jhM _ e;have:=hi r h1;dsimp only;omega
 ·rename_i s' e
  have:=jA c (n:=5) s' (by decide)
  dsimp only;omega
theorem ju9 (c:List UInt8) {y:Yd} (s:Cu) (hi:∀r∈y.runs,1≤r.id∧r.id≤9999):jF (kS c y s).1=true:=by
 unfold kS;dsimp only;generalize jh c 20 s=k at*;have hh:=ju8 c k.2 hi;have b9:=jA c (n:=9) k.2 (by decide)
 have b8:=jA c (n:=8) k.2 (by decide)
 have b7:=jA c (n:=7) (jh c 8 k.2).2 (by decide)
 have hp:=ju6 c (jh c 9 k.2).2;have ht:=js9 (kJ c y k.2).1.2.1 (a:=0) (b:=99) (by decide)
 have hv:=js9 (kJ c y k.2).1.2.2 (a:=0) (b:=99) (by decide)
 have hz:=jut
 repeat' split
 ·simp [jF,hz,vC (n:=(jh c 8 k.2).1) (by omega),vC (n:=(jh c 7 (jh c 8 k.2).2).1) (by omega)]
 ·simp [jF,juo hp,vC (n:=1+(jh c 9 k.2).1) (by omega)]
 ·simp [jF,hz,vC (n:=(kJ c y k.2).1.1) (by omega),vC (n:=brI (kJ c y k.2).1.2.1 0 99) (by omega),vC (n:=brI (kJ c y k.2).1.2.2 0 99) (by omega)]
 ·simp [jF,hz,vC (n:=(kJ c y k.2).1.1) (by omega),vC (n:=brI (kJ c y k.2).1.2.1 0 99) (by omega),vC (n:=brI (kJ c y k.2).1.2.2 0 99) (by omega)]
 ·simp [jF,hz]
 ·simp [jF,hz,vC (n:=1+(jh c 9 k.2).1) (by omega)]
 ·simp [jF,hz,vC (n:=1+(jh c 9 k.2).1) (by omega)]
 ·simp [jF,hz]
 ·simp [jF,hz]
theorem YdI.ids {y:Yd} (h:YdI y):∀r∈y.runs,1≤r.id∧r.id≤9999:=fun r hr=>of_decide_eq_true (h.rns.right r hr).id
structure DdsI (c:List UInt8) (n:Nat) (x:List Dd×Yd×Cu):Prop where
 yd:YdI x.2.1
 seq:x.2.1.seq≤1+2000*n
 len:x.1.length=n
 ok:∀d∈x.1,jF d=true
 at_:x.2.2.1≤c.length
 yis:x.2.1=x.1.foldl doY newYd
 edges:∀d∈x.1,d.plan.edges.length≤9
theorem jhP (c:List UInt8) (y:Yd) (s:Cu):(kS c y s).1.plan.edges.length≤9:=by
 unfold kS;dsimp only
 repeat' split
 all_goals first
  |exact Nat.zero_le _
  |(have:=(jhO c (if (jh c 10 (jh c 6 (jh c 4 (jh c 3 (jh c 4 (jh c 9 (jh c 20 s).2).2).2).2).2).2).1=0 then 12 else 1+(jh c 6 (jh c 4 (jh c 3 (jh c 4 (jh c 9 (jh c 20 s).2).2).2).2).2).1) 9 0 [] (jh c 10 (jh c 6 (jh c 4 (jh c 3 (jh c 4 (jh c 9 (jh c 20 s).2).2).2).2).2).2).2 ⟨by simp,by simp⟩).2;simpa [ja3] using this)
theorem DdsI.start {c:List UInt8} {s:Cu} (h:s.1≤c.length):DdsI c 0 ([],newYd,s):=⟨.new,by simp [newYd],rfl,by simp,h,rfl,by simp⟩
theorem DdsI.next {c:List UInt8} {n:Nat} {x:List Dd×Yd×Cu} (h:DdsI c n x):DdsI c (n+1) (x.1++[(kS c x.2.1 x.2.2).1],doY x.2.1 (kS c x.2.1 x.2.2).1,(kS c x.2.1 x.2.2).2):=by
 have hd:=ju9 c x.2.2 h.yd.ids;refine ⟨h.yd.do _,?_,by simp [h.len],fun d hm=>?_,jva h.at_,?_,fun d hm=>?_⟩
 ·have h1:=jyI h.yd (kS c x.2.1 x.2.2).1
  have h2:=h.seq;dsimp only;omega
 ·rcases List.mem_append.1 hm with hm|hm
  ·exact h.ok d hm
  ·simp at hm;subst hm;exact hd
 ·rw [List.foldl_append,←h.yis];rfl
 ·rcases List.mem_append.1 hm with hm|hm
  ·exact h.edges d hm
  ·simp at hm;subst hm;exact jhP _ _ _
theorem jkw {c:List UInt8}:∀(n m:Nat) {x:List Dd×Yd×Cu},DdsI c m x→DdsI c (m+n) (qm c n x)
 |0,m,x,h=>h
 |n+1,m,x,h=>by
  rw [qm,show m+(n+1)=(m+1)+n by omega]
  exact jkw n (m+1) h.next
end Go.Proofs.Ytmnpailnelmpiaa
