/- Parts. -/
import Derived.Test.YtmnpailnelmpiaaQReadV
import Derived.Lib.SliceRun
import Derived.Deep.RegionLaw
set_option linter.unusedSimpArgs false
set_option linter.unusedVariables false
set_option maxHeartbeats 16000000
set_option maxRecDepth 100000
namespace Go.Proofs.Ytmnpailnelmpiaa
open Go.RowKit Go.Sort
def CutR:List Rn→List D→(Nat→Ob)→Prop
 |[],rows,fam=>rows=[]∧∀j,fam j=.none
 |r::l,rows,fam=>∃(η5 η7:jm) (rows':List D),rows=rnV r (η5 []) (η7 [])++rows'∧(η5 []).oneCell'=true∧(η7 []).oneCell'=true∧fam 0=.loose (jt r.plan.edges) η5∧fam 1=.loose (jI r.tasks) η7∧CutR l rows' (fun j=>fam (j+2))
theorem CutR.len:∀{l:List Rn} {rows:List D} {fam:Nat→Ob},CutR l rows fam→rows.length=l.length*8
 |[],_,_,⟨h,_⟩=>by rw [h];rfl
 |r::l,_,_,⟨_,_,rows',h,_,_,_,_,h2⟩=>by
  have:=CutR.len h2;rw [h,List.length_append,List.length_cons,this];simp only [List.length_cons,List.length_nil];omega
theorem CutR.flat:∀{l:List Rn} {rows:List D} {fam:Nat→Ob},CutR l rows fam→kf rows=true
 |[],_,_,⟨h,_⟩=>by rw [h];rfl
 |r::l,_,_,⟨η5,η7,rows',h,h5,h7,_,_,h2⟩=>by
  have:=CutR.flat h2;rw [h,va,this];simp [kf,h5,h7];exact ⟨rfl,rfl,rfl,rfl,rfl,rfl⟩
theorem CutR.erase:∀{l:List Rn} {rows:List D} {fam:Nat→Ob} {k:Nat},CutR l rows fam→k<l.length→CutR (l.eraseIdx k) (rows.take (k*8)++rows.drop ((k+1)*8)) (fun j=>fam (if j<2*k then j else j+2))
 |[],_,_,_,_,h=>by simp at h
 |r::l,_,fam,0,⟨η5,η7,rows',h,_,_,_,_,h2⟩,_=>by
  have e1:(rnV r (η5 []) (η7 [])++rows').drop ((0+1)*8)=rows':=List.drop_left' rfl;rw [h,e1,Nat.zero_mul,List.take_zero,List.nil_append];simpa using h2
 |r::l,_,fam,k+1,⟨η5,η7,rows',h,h5,h7,f0,f1,h2⟩,hk=>by
  have ih:=CutR.erase (k:=k) h2 (by simpa using hk)
  have e1:(rnV r (η5 []) (η7 [])++rows').take ((k+1)*8)=rnV r (η5 []) (η7 [])++rows'.take (k*8):=by
   rw [show (k+1)*8=(rnV r (η5 []) (η7 [])).length+k*8 by rw [show (rnV r (η5 []) (η7 [])).length=8 from rfl];omega];exact List.take_length_add_append _
  have e2:(rnV r (η5 []) (η7 [])++rows').drop ((k+1+1)*8)=rows'.drop ((k+1)*8):=by
   rw [show (k+1+1)*8=(rnV r (η5 []) (η7 [])).length+(k+1)*8 by rw [show (rnV r (η5 []) (η7 [])).length=8 from rfl];omega];exact List.drop_length_add_append _
  rw [h,e1,e2,List.eraseIdx_cons_succ];refine ⟨η5,η7,_,by rw [List.append_assoc],h5,h7,?_,?_,?_⟩
  ·dsimp only;rw [if_pos (by omega)];exact f0
  ·dsimp only;rw [if_pos (by omega)];exact f1
  ·have:(fun j=>fam (if j+2<2*(k+1) then j+2 else j+2+2))=(fun j=>fam ((if j<2*k then j else j+2)+2)):=by
    funext j
    by_cases c:j<2*k
    ·rw [if_pos c,if_pos (by omega)]
    ·rw [if_neg c,if_neg (by omega)]
   rw [this];exact ih
theorem jn0 {ob:Ob} {c:Nat} {d d':D} {η η':jm} (h:ob.own c=some (d,η)):(ob.putOwn c d' η').own c=some (d',η'):=by
 cases ob with
 |none=>simp [Ob.own] at h
 |loose e ε=>cases c with
  |zero=>rfl
  |succ c=>simp [Ob.own] at h
 |box b ty cs=>
  simp only [Ob.own] at h;split at h
  ·rename_i d0 η0 hc
   have:=(List.getElem?_eq_some_iff.1 hc).1;simp [Ob.own,Ob.putOwn,List.getElem?_set_self this]
  ·simp at h
theorem jrD {ob:Ob} {c:Nat} {d:D} {η:jm} (h:ob.own c=some (d,η)):ob.putOwn c d η=ob:=by
 cases ob with
 |none=>rfl
 |loose e ε=>cases c with
  |zero=>simp [Ob.own] at h;obtain ⟨rfl,rfl⟩:=h;rfl
  |succ c=>simp [Ob.own] at h
 |box b ty cs=>
  simp only [Ob.own] at h;split at h
  ·rename_i d0 η0 hc
   simp at h;obtain ⟨rfl,rfl⟩:=h;simp only [Ob.putOwn];rw [jjF hc]
  ·simp at h
theorem jnT {ob:Ob} {c:Nat} {d d':D} {η η':jm}:(ob.putOwn c d η).putOwn c d' η'=ob.putOwn c d' η':=by
 cases ob with
 |none=>rfl
 |loose e ε=>rfl
 |box b ty cs=>simp [Ob.putOwn,List.set_set]
theorem jjG {α:Type} {A B:List α} (k:Nat) (hk:k<B.length) (x:α):(A++B).set (A.length+k) x=A++B.set k x:=by
 rw [List.set_append_right _ _ (by omega),Nat.add_sub_cancel_left]
theorem jkn {α:Type} {A B:List α} (k:Nat):(A++B)[A.length+k]?=B[k]?:=by
 rw [List.getElem?_append_right (by omega),Nat.add_sub_cancel_left]
theorem jkK {K:St→Prop} (g c:Nat):∀(l:List Rn) (pre:List D) (b:Nat) (s:St) (η:jm),(s.o g).own c=some (.sl 8 tRn (pre++l.flatMap jd),η)→g<b→(∀j,b≤j→s.o j=.none)→
 (∀(rows:List D) (fam:Nat→Ob) (η':jm),CutR l rows fam→η' []=η []→WkK ⟨s.t,fun j=>if b≤j then fam (j-b) else if j=g then (s.o g).putOwn c (.sl 8 tRn (pre++rows)) η' else s.o j⟩ K)→WkK s K
 |[],pre,b,s,η,ho,hg,hn,hK=>by
  have:=hK [] (fun _=>.none) η ⟨rfl,fun _=>rfl⟩ rfl
  have e:(⟨s.t,fun j=>if b≤j then Ob.none else if j=g then (s.o g).putOwn c (.sl 8 tRn (pre++[])) η else s.o j⟩:St)=s:=by
   have:(fun j=>if b≤j then Ob.none else if j=g then (s.o g).putOwn c (.sl 8 tRn (pre++[])) η else s.o j)=s.o:=by
    funext j
    by_cases h1:b≤j
    ·rw [if_pos h1,hn j h1]
    ·rw [if_neg h1]
     by_cases h2:j=g
     ·subst h2;rw [if_pos rfl];exact jrD ho
     ·rw [if_neg h2]
   rw [this]
  rwa [e] at this
 |r::l,pre,b,s,η,ho,hg,hn,hK=>by
  rw [List.flatMap_cons] at ho;have h8:(jd r).length=8:=rfl;refine jgY g c (pre.length+5) b (η:=η) (sz:=8) (tyo:=tRn) (cs:=r.plan.edges.flatMap jW) ho (by rw [jkn];rfl) (hn b (Nat.le_refl b)) (by omega) fun ηa ηA hA1 hA2 hA3=>?_
  rw [jjG 5 (by rw [List.length_append,h8];omega),List.set_append_left _ _ (by rw [h8];omega)]
  have hbg:b≠g:=by omega
  have hog:∀(x y:Ob),(((s.setO g x).setO b y).o g)=x:=fun x y=>by
   show (if g=b then y else if g=g then x else s.o g)=x
   rw [if_neg (by omega),if_pos rfl]
  have ho2:((((s.setO g ((s.o g).putOwn c (.sl 8 tRn (pre++((jd r).set 5 (.val (η [pre.length+5]))++l.flatMap jd))) ηA)).setO b (.loose (.sl 2 tEd (r.plan.edges.flatMap jW)) ηa)).o g)).own c=some (.sl 8 tRn (pre++((jd r).set 5 (.val (η [pre.length+5]))++l.flatMap jd)),ηA):=by
   rw [hog];exact jn0 ho
  refine jgY g c (pre.length+7) (b+1) (η:=ηA) (sz:=8) (tyo:=tRn) (cs:=r.tasks.flatMap ju) ho2 (by rw [jkn];rfl) (by
   show (if b+1=b then _ else if b+1=g then _ else s.o (b+1))=_
   rw [if_neg (by omega),if_neg (by omega)];exact hn _ (by omega)) (by omega) fun ηb ηB hB1 hB2 hB3=>?_
  rw [hog,jnT,jjG 7 (by rw [List.length_append,List.length_set,h8];omega),List.set_append_left _ _ (by rw [List.length_set,h8];omega)]
  rw [←hA2] at hA3⊢;rw [←hB2] at hB3⊢;have hV:((jd r).set 5 (.val (ηa []))).set 7 (.val (ηb []))=rnV r (ηa []) (ηb []):=rfl;rw [hV];obtain ⟨s2,hs2⟩:∃s2,(((s.setO g ((s.o g).putOwn c (.sl 8 tRn (pre++((jd r).set 5 (.val (ηa []))++l.flatMap jd))) ηA)).setO b (.loose (.sl 2 tEd (r.plan.edges.flatMap jW)) ηa)).setO g ((s.o g).putOwn c (.sl 8 tRn (pre++(rnV r (ηa []) (ηb [])++l.flatMap jd))) ηB)).setO (b+1) (.loose (.sl 4 tTk (r.tasks.flatMap ju)) ηb)=s2:=⟨_,rfl⟩;rw [hs2]
  have q0:s2.o g=(s.o g).putOwn c (.sl 8 tRn (pre++(rnV r (ηa []) (ηb [])++l.flatMap jd))) ηB:=by
   rw [←hs2];show (if g=b+1 then _ else if g=g then _ else _)=_
   rw [if_neg (by omega),if_pos rfl]
  have q1:s2.o b=.loose (jt r.plan.edges) ηa:=by
   rw [←hs2];show (if b=b+1 then _ else if b=g then _ else if b=b then _ else _)=_
   rw [if_neg (by omega),if_neg (by omega),if_pos rfl];rfl
  have q2:s2.o (b+1)=.loose (jI r.tasks) ηb:=by
   rw [←hs2];show (if b+1=b+1 then _ else _)=_
   rw [if_pos rfl];rfl
  have q3:∀j,j≠g→j≠b→j≠b+1→s2.o j=s.o j:=fun j n1 n2 n3=>by
   rw [←hs2];show (if j=b+1 then _ else if j=g then _ else if j=b then _ else if j=g then _ else s.o j)=_
   rw [if_neg n3,if_neg n1,if_neg n2,if_neg n1]
  have qt:s2.t=s.t:=by rw [←hs2];rfl
  refine jkK g c l (pre++rnV r (ηa []) (ηb [])) (b+2) s2 ηB (by rw [q0,List.append_assoc];exact jn0 ho) (by omega) (fun j hj=>by rw [q3 j (by omega) (by omega) (by omega)];exact hn j (by omega)) fun rows fam η' hcr hη=>?_
  have:=hK (rnV r (ηa []) (ηb [])++rows) (fun j=>if j=0 then .loose (jt r.plan.edges) ηa else if j=1 then .loose (jI r.tasks) ηb else fam (j-2)) η' ⟨ηa,ηb,rows,rfl,hA3,hB3,rfl,rfl,hcr⟩ (by rw [hη,hB1,hA1])
  have e:(fun j=>if b+2≤j then fam (j-(b+2)) else if j=g then (s2.o g).putOwn c (.sl 8 tRn (pre++rnV r (ηa []) (ηb [])++rows)) η' else s2.o j)=(fun j=>if b≤j then (if j-b=0 then Ob.loose (jt r.plan.edges) ηa else if j-b=1 then .loose (jI r.tasks) ηb else fam (j-b-2)) else if j=g then (s.o g).putOwn c (.sl 8 tRn (pre++(rnV r (ηa []) (ηb [])++rows))) η' else s.o j):=by
   funext j
   by_cases c1:b+2≤j
   ·rw [if_pos c1,if_pos (by omega),if_neg (by omega),if_neg (by omega),show j-(b+2)=j-b-2 by omega]
   ·rw [if_neg c1]
    by_cases c2:j=b
    ·subst c2;rw [if_neg (by omega),if_pos (Nat.le_refl _),if_pos (by omega),q1]
    ·by_cases c3:j=b+1
     ·subst c3;rw [if_neg (by omega),if_pos (by omega),if_neg (by omega),if_pos (by omega),q2]
     ·by_cases c4:j=g
      ·subst c4;rw [if_pos rfl,if_neg (by omega),if_pos rfl,q0,jnT,List.append_assoc]
      ·rw [if_neg c4,if_neg (by omega),if_neg c4,q3 j c4 c2 c3]
  rw [qt,e];exact this
theorem jgX {K:St→Prop} (g c:Nat):∀(l:List Rn) (pre:List D) (b:Nat) (s:St) (η:jm) (rows:List D) (fam:Nat→Ob),CutR l rows fam→(s.o g).own c=some (.sl 8 tRn (pre++rows),η)→g<b→(∀j,b≤j→s.o j=fam (j-b))→
 (∀η':jm,η' []=η []→WkK ⟨s.t,fun j=>if b≤j then .none else if j=g then (s.o g).putOwn c (.sl 8 tRn (pre++l.flatMap jd)) η' else s.o j⟩ K)→WkK s K
 |[],pre,b,s,η,_,fam,⟨rfl,hf⟩,ho,hg,hn,hK=>by
  have:=hK η rfl
  have e:(⟨s.t,fun j=>if b≤j then Ob.none else if j=g then (s.o g).putOwn c (.sl 8 tRn (pre++List.flatMap jd [])) η else s.o j⟩:St)=s:=by
   have:(fun j=>if b≤j then Ob.none else if j=g then (s.o g).putOwn c (.sl 8 tRn (pre++List.flatMap jd [])) η else s.o j)=s.o:=by
    funext j
    by_cases h1:b≤j
    ·rw [if_pos h1,hn j h1,hf]
    ·rw [if_neg h1]
     by_cases h2:j=g
     ·subst h2;rw [if_pos rfl];exact jrD ho
     ·rw [if_neg h2]
   rw [this]
  rwa [e] at this
 |r::l,pre,b,s,η,_,fam,⟨η5,η7,rows,rfl,h5,h7,f0,f1,hcr⟩,ho,hg,hn,hK=>by
  have h8:(rnV r (η5 []) (η7 [])).length=8:=rfl;have hb0:s.o b=.loose (.sl 2 tEd (r.plan.edges.flatMap jW)) η5:=by rw [hn b (Nat.le_refl b),Nat.sub_self,f0];rfl
  have hb1:s.o (b+1)=.loose (.sl 4 tTk (r.tasks.flatMap ju)) η7:=by rw [hn (b+1) (by omega),Nat.add_sub_cancel_left,f1];rfl
  refine vA g c (pre.length+5) b (η:=η) (η2:=η5) (sz:=8) (tyo:=tRn) (cs:=r.plan.edges.flatMap jW) ho (by rw [jkn];rfl) (.inl rfl) hb0 (by omega) fun ηA hA=>?_
  rw [jjG 5 (by rw [List.length_append,h8];omega),List.set_append_left _ _ (by rw [h8];omega)]
  have hog:∀(x:Ob),(((s.setO b .none).setO g x).o g)=x:=fun x=>by
   show (if g=g then x else _)=x
   rw [if_pos rfl]
  refine vA g c (pre.length+7) (b+1) (η:=ηA) (η2:=η7) (sz:=8) (tyo:=tRn) (cs:=r.tasks.flatMap ju) (by rw [hog];exact jn0 ho) (by rw [jkn];rfl) (.inl rfl) (by
   show (if b+1=g then _ else if b+1=b then _ else s.o (b+1))=_
   rw [if_neg (by omega),if_neg (by omega)];exact hb1) (by omega) fun ηB hB=>?_
  rw [hog,jnT,jjG 7 (by rw [List.length_append,List.length_set,h8];omega),List.set_append_left _ _ (by rw [List.length_set,h8];omega)]
  have hV:(((rnV r (η5 []) (η7 [])).set 5 (.sl 2 tEd (r.plan.edges.flatMap jW))).set 7 (.sl 4 tTk (r.tasks.flatMap ju)))=jd r:=rfl;rw [hV];obtain ⟨s2,hs2⟩:∃s2,(((s.setO b .none).setO g ((s.o g).putOwn c (.sl 8 tRn (pre++((rnV r (η5 []) (η7 [])).set 5 (.sl 2 tEd (r.plan.edges.flatMap jW))++rows))) ηA)).setO (b+1) .none).setO g ((s.o g).putOwn c (.sl 8 tRn (pre++(jd r++rows))) ηB)=s2:=⟨_,rfl⟩;rw [hs2]
  have q0:s2.o g=(s.o g).putOwn c (.sl 8 tRn (pre++(jd r++rows))) ηB:=by
   rw [←hs2];show (if g=g then _ else _)=_
   rw [if_pos rfl]
  have q3:∀j,j≠g→j≠b→j≠b+1→s2.o j=s.o j:=fun j n1 n2 n3=>by
   rw [←hs2];show (if j=g then _ else if j=b+1 then _ else if j=g then _ else if j=b then _ else s.o j)=_
   rw [if_neg n1,if_neg n3,if_neg n1,if_neg n2]
  have q1:s2.o b=.none:=by
   rw [←hs2];show (if b=g then _ else if b=b+1 then _ else if b=g then _ else if b=b then _ else s.o b)=_
   rw [if_neg (by omega),if_neg (by omega),if_neg (by omega),if_pos rfl]
  have q2:s2.o (b+1)=.none:=by
   rw [←hs2];show (if b+1=g then _ else if b+1=b+1 then _ else _)=_
   rw [if_neg (by omega),if_pos rfl]
  have qt:s2.t=s.t:=by rw [←hs2];rfl
  refine jgX g c l (pre++jd r) (b+2) s2 ηB rows _ hcr (by rw [q0,List.append_assoc];exact jn0 ho) (by omega) (fun j hj=>by rw [q3 j (by omega) (by omega) (by omega),hn j (by omega),show j-b=j-(b+2)+2 by omega]) fun η' hη=>?_
  have:=hK η' (by rw [hη,hB,hA])
  have e:(fun j=>if b+2≤j then Ob.none else if j=g then (s2.o g).putOwn c (.sl 8 tRn (pre++jd r++l.flatMap jd)) η' else s2.o j)=(fun j=>if b≤j then Ob.none else if j=g then (s.o g).putOwn c (.sl 8 tRn (pre++(r::l).flatMap jd)) η' else s.o j):=by
   funext j
   by_cases c1:b+2≤j
   ·rw [if_pos c1,if_pos (by omega)]
   ·rw [if_neg c1]
    by_cases c2:j=b
    ·subst c2;rw [if_neg (by omega),if_pos (Nat.le_refl _),q1]
    ·by_cases c3:j=b+1
     ·subst c3;rw [if_neg (by omega),if_pos (by omega),q2]
     ·by_cases c4:j=g
      ·subst c4;rw [if_pos rfl,if_neg (by omega),if_pos rfl,q0,jnT,List.append_assoc,List.flatMap_cons]
      ·rw [if_neg c4,if_neg (by omega),if_neg c4,q3 j c4 c2 c3]
  rw [qt,e];exact this
def St.ofF (T:List (Nat×AV)) (O:List (Nat×Ob)) (b:Nat) (fam:Nat→Ob):St:=⟨lkT T,fun j=>if b≤j then fam (j-b) else lkO O j⟩
theorem ofF_t (T:List (Nat×AV)) (O:List (Nat×Ob)) (b:Nat) (fam:Nat→Ob) (n:Nat):(St.ofF T O b fam).t n=lkT T n:=(rfl)
theorem ofF_o (T:List (Nat×AV)) (O:List (Nat×Ob)) (b:Nat) (fam:Nat→Ob) (n:Nat):(St.ofF T O b fam).o n=if b≤n then fam (n-b) else lkO O n:=(rfl)
attribute [go_sem] ofF_t ofF_o
theorem jvz {s:St} {T:List (Nat×AV)} {O:List (Nat×Ob)} {b:Nat} {fam:Nat→Ob} (ks:List (Option Nat)) (h:jv1 s T∧joq s ks O) (hf:∀j,b≤j→s.o j=fam (j-b)) (hk:∀k∈jo3 ks,k<b) (hn:jh8 (jo3 ks)=true:=by decide):Wk s (St.ofF T O b fam):=fun B N w0 w a F hr=>by
 have hob:=jsC hr.ob h.2;have hdj:=juQ (ks:=ks) (O:=O) hr.dj (jaF hn);refine ⟨fun j=>if b≤j then F j else fp F ks O j,⟨hr.below,hr.hB,hr.df,hr.sz,juT hr.sl h.1,fun g=>?_,fun g=>?_,fun g g' hne x hx hx'=>?_⟩,fun g x hx=>?_⟩
 ·by_cases c:b≤g
  ·simp only [St.ofF,if_pos c];rw [←hf g c];exact hr.ob g
  ·simp only [St.ofF,if_neg c];exact hob g
 ·by_cases c:b≤g
  ·simp only [if_pos c];exact hr.fr g
  ·simp only [if_neg c];exact juP hr.fr ks O g
 ·by_cases c:b≤g
  ·simp only [if_pos c] at hx
   by_cases c':b≤g'
   ·simp only [if_pos c'] at hx';exact hr.dj g g' hne x hx hx'
   ·simp only [if_neg c'] at hx'
    obtain ⟨k,h1,h2⟩:=jdZ hx';exact hr.dj g k (by have:=hk k h1;omega) x hx h2
  ·simp only [if_neg c] at hx
   by_cases c':b≤g'
   ·simp only [if_pos c'] at hx'
    obtain ⟨k,h1,h2⟩:=jdZ hx;exact hr.dj k g' (by have:=hk k h1;omega) x h2 hx'
   ·simp only [if_neg c'] at hx';exact hdj g g' hne x hx hx'
 ·by_cases c:b≤g
  ·simp only [if_pos c] at hx;exact ⟨g,hx⟩
  ·simp only [if_neg c] at hx
   obtain ⟨k,_,h2⟩:=jdZ hx;exact ⟨k,h2⟩
theorem jqA {s:St} {b:Nat} {fam:Nat→Ob} (ρ:Nat→Nat) (hρ:∀i j,ρ i=ρ j→i=j) (hf:∀j,b≤j→s.o j=fam (j-b)):Wk s ⟨s.t,fun j=>if b≤j then fam (ρ (j-b)) else s.o j⟩:=fun B N w0 w a F hr=>by
 refine ⟨fun j=>if b≤j then F (b+ρ (j-b)) else F j,⟨hr.below,hr.hB,hr.df,hr.sz,hr.sl,fun g=>?_,fun g=>?_,fun g g' hne x hx hx'=>?_⟩,fun g x hx=>?_⟩
 ·by_cases c:b≤g
  ·simp only [if_pos c]
   have:=hr.ob (b+ρ (g-b))
   rwa [hf _ (Nat.le_add_right _ _),Nat.add_sub_cancel_left] at this
  ·simp only [if_neg c];exact hr.ob g
 ·by_cases c:b≤g
  ·simp only [if_pos c];exact hr.fr _
  ·simp only [if_neg c];exact hr.fr g
 ·by_cases c:b≤g
  ·simp only [if_pos c] at hx
   by_cases c':b≤g'
   ·simp only [if_pos c'] at hx'
    exact hr.dj _ _ (fun e=>hne (by have:=hρ _ _ (Nat.add_left_cancel e);omega)) x hx hx'
   ·simp only [if_neg c'] at hx';exact hr.dj _ _ (by omega) x hx hx'
  ·simp only [if_neg c] at hx
   by_cases c':b≤g'
   ·simp only [if_pos c'] at hx';exact hr.dj _ _ (by omega) x hx hx'
   ·simp only [if_neg c'] at hx';exact hr.dj _ _ hne x hx hx'
 ·by_cases c:b≤g
  ·simp only [if_pos c] at hx;exact ⟨_,hx⟩
  ·simp only [if_neg c] at hx;exact ⟨g,hx⟩
open Go.RowKit Go.Sort Go.Lib
def jkp (id:Int) (e:En):Bool:=e.run !=id
noncomputable def je1 (y:Yd) (id:Int):Int:=if jJ y=false then 8 else if runAt y id<0 then 10 else if ((y.runs[(runAt y id).toNat]?).getD default).state=1 then 13 else 0
noncomputable def je0 (y:Yd) (id:Int):Yd:=if je1 y id=0 then ⟨y.now,y.seq,y.shelf.map (fun l=>l.filter (jkp id)),y.runs.eraseIdx (runAt y id).toNat⟩ else y
def jdQ {α:Type} (f:α→α) (l:List α) (i:Nat):List α:=(l.take i).map f++l.drop i
section
variable {α:Type} {f:α→α} {l:List α} {i:Nat} {x:α}
theorem jxl:jdQ f l 0=l:=rfl
theorem jr3:(jdQ f l i).length=l.length:=by
 simp only [jdQ,List.length_append,List.length_map,List.length_take,List.length_drop];omega
theorem jr5:jdQ f l l.length=l.map f:=by simp [jdQ]
theorem jr4 (h:l[i]?=some x):(jdQ f l i)[i]?=some x:=by
 have hi:=(List.getElem?_eq_some_iff.1 h).1;have hl:((l.take i).map f).length=i:=by rw [List.length_map,List.length_take];omega
 rw [jdQ,List.getElem?_append_right (by omega),hl,Nat.sub_self,List.getElem?_drop,Nat.add_zero,h]
theorem jr2 (h:l[i]?=some x):(jdQ f l i).set i (f x)=jdQ f l (i+1):=by
 have hi:=(List.getElem?_eq_some_iff.1 h).1;have hl:((l.take i).map f).length=i:=by rw [List.length_map,List.length_take];omega
 have hx:l[i]=x:=by rw [List.getElem?_eq_getElem hi] at h;exact Option.some.inj h
 rw [jdQ,List.set_append_right _ _ (by omega),hl,Nat.sub_self,List.drop_eq_getElem_cons hi,List.set_cons_zero,jdQ,List.take_add_one,h]
 simp
end
theorem jsJ {l:List En} {k:Nat} {e:En} (p:En→Bool) (h:l[k]?=some e):(l.take (k+1)).filter p=(l.take k).filter p++(if p e then [e] else []):=by
 rw [List.take_add_one,h,List.filter_append];cases hp:p e<;>simp [hp]
section
variable {l:List En} {k:Nat} {x:En}
theorem jwa (hx:l[k]?=some x):((l.flatMap jy).drop (k*4+2)).take 1=[.val (.int .i64 x.run)]:=qs (enc:=jy) (size:=4) (fun _=>rfl) hx (j:=2) (n:=1) (by decide)
theorem jvY (hx:l[k]?=some x):k*4+2+1≤(l.flatMap jy).length:=qr (enc:=jy) (size:=4) (fun _=>rfl) hx (j:=2) (n:=1) (by decide)
end
section
variable {sh:List (List En)} {n:Nat} {l:List En}
theorem jss (h:n<sh.length):n+1≤(sh.flatMap fun es=>[jv es]).length:=by have:=jdV h;rwa [Nat.mul_one] at this
theorem jtp (h:sh[n]?=some l):((sh.flatMap fun es=>[jv es]).drop n).take 1=[jv l]:=by have:=jgT h;rwa [Nat.mul_one] at this
end
theorem jnf {rows:List D} (h:kf rows=true) (n m:Nat):kf (rows.take n)=true∧kf (rows.drop m)=true:=by
 have e1:kf (rows.take n++rows.drop n)=true:=by rw [List.take_append_drop];exact h
 have e2:kf (rows.take m++rows.drop m)=true:=by rw [List.take_append_drop];exact h
 rw [va,Bool.and_eq_true] at e1 e2;exact ⟨e1.1,e2.2⟩
def jew:C:=iS [iA 2 (.box 42 4 (.t 0)),iA 4 (.alloc 42 [.int .i64 0,.int .i64 0,.slice none 0 0,.slice none 0 0]),iA 5 (iN 0)] (iS [iA 11 (iT 4 2),iA 12 (.call 143 [.t 11]),iA 6 (.alloc 42 [.int .i64 0,.int .i64 0,.slice none 0 0,.slice none 0 0]),iC (.st 4 [none,none,some (1,74),some (8,78)] (.t 6) (.t 12))] (iS [iA 13 (iT 4 2),iA 14 (iM 1),iA 15 (.call 82 [.t 13,.t 14]),iA 7 (iM 15)] (.seq (.blk 0 (iS [iA 17 (iT 4 2),iA 18 (.call 45 [.t 17]),iA 19 (iU 18),iA 16 (iM 19)] (iD 16 (iS [iA 20 (iT 4 6),iC (.st 4 [none,none,some (1,74),some (8,78)] (.t 4) (.t 20)),iA 5 (iN 8)] .ret) (iS [iA 22 (iM 7),iA 23 (iQ .lss 3 22 0),iA 21 (iM 23)] (iD 21 (iS [iA 24 (iT 4 6),iC (.st 4 [none,none,some (1,74),some (8,78)] (.t 4) (.t 24)),iA 5 (iN 10)] .ret) (iS [iA 26 (iF 3 2),iA 27 (iL 26),iA 28 (iM 7),iA 29 (iI 8 27 28),iA 30 (iF 6 29),iA 31 (iL 30),iA 32 (iQ .eql 3 31 1),iA 25 (iM 32)] (iD 25 (iS [iA 33 (iT 4 6),iC (.st 4 [none,none,some (1,74),some (8,78)] (.t 4) (.t 33)),iA 5 (iN 13)] .ret) .skip))))))) (.seq (.dreg (T.pure 1 (iA 35 (iF 3 6)) (T.pure 2 (iA 36 (iL 35)) (T.pure 3 (iA 37 (iM 7)) (T.pure 4 (iA 38 (.sl 8 (.t 36) none (some (.t 37)))) (T.pure 6 (iA 40 (iF 3 6)) (T.pure 7 (iA 41 (iL 40)) (T.pure 8 (iA 42 (iM 7)) (T.pure 9 (iA 43 (iQ .add 3 42 1)) (T.pure 10 (iA 44 (.sl 8 (.t 41) (some (.t 43)) none)) (T.alt (iA 34 (.bsl 78 8 0 [] [])) [10,9,8,7,6,4,3,2,1] (T.alt (iA 39 (.app 78 8 96 (.t 34) (.t 38))) [10,9,8,7,6] (T.alt (iA 45 (.app 78 8 96 (.t 39) (.t 44))) [] (T.pure 12 (iA 46 (iF 3 6)) (T.alt (iC (.st 1 [some (8,78)] (.t 46) (.t 45))) [] T.done T.stop)) T.stop) T.stop) T.stop))))))))))) (.seq (iS [iA 8 (iN 0)] (.blk 1 (.loop (.seq (iS [iA 47 (iM 8),iA 48 (iF 2 6),iA 49 (iL 48),iA 50 (iG 49),iA 51 (iP .lss 3 47 50)] (iD 51 .skip (.exit 1))) (.seq (.blk 2 (iS [iA 54 (.bsl 82 4 0 [] []),iA 9 (iM 54)] (.seq (iS [iA 10 (iN 0)] (.blk 3 (.loop (.seq (iS [iA 55 (iM 10),iA 56 (iF 2 6),iA 57 (iL 56),iA 58 (iM 8),iA 59 (iI 1 57 58),iA 60 (iL 59),iA 61 (iG 60),iA 62 (iP .lss 3 55 61)] (iD 62 .skip (.exit 3))) (.seq (.blk 4 (iS [iA 65 (iF 2 6),iA 66 (iL 65),iA 67 (iM 8),iA 68 (iI 1 66 67),iA 69 (iL 68),iA 70 (iM 10),iA 71 (iI 4 69 70),iA 72 (iF 2 71),iA 73 (iL 72),iA 74 (iM 1),iA 75 (iP .neq 3 73 74)] (iD 75 (.reg [iA 76 (iM 9),iA 77 (iF 2 6),iA 78 (iL 77),iA 79 (iM 8),iA 80 (iI 1 78 79),iA 81 (iL 80),iA 82 (iM 10),iA 83 (iI 4 81 82),iA 84 (iT 4 83),iA 85 (.bsl 82 4 1 [none,none,none,none] [(0,4,.t 84)]),iA 86 (.app 82 4 32 (.t 76) (.t 85)),iA 9 (iM 86)]) .skip))) (.reg [iA 63 (iM 10),iA 64 (iQ .add 3 63 1),iA 10 (iM 64)])))))) (.reg [iA 87 (iF 2 6),iA 88 (iL 87),iA 89 (iM 8),iA 90 (iM 9),iA 91 (iI 1 88 89),iC (.st 1 [some (4,82)] (.t 91) (.t 90))])))) (.reg [iA 52 (iM 8),iA 53 (iQ .add 3 52 1),iA 8 (iM 53)])))))) (iS [iA 92 (iT 4 6),iC (.st 4 [none,none,some (1,74),some (8,78)] (.t 4) (.t 92)),iA 5 (iN 0)] .ret))))))
theorem jgx:fnC Try.prog Try.f150=some (jew,[.cell 4 true 4,.t 5],93):=by kernel_rfl
theorem jj0 (y:Yd) (id:Int) (ht:jS y≤2000000):kl Try.prog 150 [.agg (jc y),.c (.val (.int .i64 id))] (.tup [(true,jc (je0 y id)),(false,[.val (.int .i64 (je1 y id))])]):=by
 refine jaq [[1,1,1,1,0],[1,1,1,1,1,0,0]] Try.func150 jgx (by simp) ?_
 unfold jew;simp only [C.ghs,C.ghAt,List.foldr];simp only [go_sem,jc];intro b2 b4;refine jb (jT y ht) (by simp only [go_sem,jc]) fun ηc=>?_
 simp only [go_sem,jc];intro b6;refine jb (kF y id) (by simp only [go_sem,jc]) fun η=>?_
 simp only [go_sem,jc];refine jb (kE y ht) (by simp only [go_sem,jc]) fun η=>?_
 simp only [go_sem,jc];cases hok:jJ y
 ·have hc:je1 y id=8:=by simp [je1,hok]
  have hy:je0 y id=y:=by rw [je0,if_neg (by rw [hc];decide)]
  simp only [go_sem,jc,hok,hc,hy];refine qv _ _ _ _ _ ?_;simp only [go_sem,jc]
 have hP:=yard_iff.1 hok;by_cases hneg:runAt y id<0
 ·have hc:je1 y id=10:=by rw [je1,if_neg (by rw [hok];decide),if_pos hneg]
  have hy:je0 y id=y:=by rw [je0,if_neg (by rw [hc];decide)]
  simp only [go_sem,jc,hok,hneg,hc,hy];refine qv _ _ _ _ _ ?_;simp only [go_sem,jc]
 obtain ⟨k,r,hrk,hr,hid,h8⟩:=vB hneg;have hk:=(List.getElem?_eq_some_iff.1 hr).1;have h0k:(k:Int)≥0:=by omega
 have hk0:¬(k:Int)<0:=by omega
 have hget:((y.runs[(runAt y id).toNat]?).getD default)=r:=by rw [hrk,Int.toNat_natCast,hr,Option.getD_some]
 cases hst:r.state==1;rotate_left
 ·have hs1:r.state=1:=by simpa using hst
  have hc:je1 y id=13:=by rw [je1,if_neg (by rw [hok];decide),if_neg hneg,hget,if_pos hs1]
  have hy:je0 y id=y:=by rw [je0,if_neg (by rw [hc];decide)]
  simp only [go_sem,jc,hok,hrk,hk0,h0k,hk,kr hr,jd,ja,hst,hc,hy];refine qv _ _ _ _ _ ?_;simp only [go_sem,jc]
 have hs1:¬r.state=1:=by simpa using hst
 have hc:je1 y id=0:=by rw [je1,if_neg (by rw [hok];decide),if_neg hneg,hget,if_neg hs1]
 rw [hc,je0,if_pos hc,hrk,Int.toNat_natCast];simp only [go_sem,jc,hok,hrk,hk0,h0k,hk,kr hr,jd,ja,hst];refine kK ?_;generalize ηc 2=η2 at*;generalize ηc 3=η3 at*;refine WkK.wk (s':=St.of [(1,Ni id),(4,Bx 92 b4),(6,Bx 90 b6),(7,Ni k)] [(92,ZYd b4 tYd),(90,ve b6 tYd y.now y.seq y.shelf η2 y.runs η3)]) (jl [some 400,some 600] (by simp only [go_sem,jc]<;>and_intros<;>first|rfl|assumption|trivial)) ?_
 refine jkK 90 3 y.runs [] 1000000000000 _ η3 rfl (by decide) (fun j hj=>by
  show (if j=92 then _ else if j=90 then _ else Ob.none)=Ob.none
  rw [if_neg (by omega),if_neg (by omega)]) fun rows fam η' hcr hη=>?_
 refine WkK.wk (jvz [some 92,some 90] (T:=[(1,Ni id),(4,Bx 92 b4),(6,Bx 90 b6),(7,Ni k)]) (O:=[(92,ZYd b4 tYd),(90,jaf b6 tYd y.now y.seq y.shelf η2 (.sl 8 tRn rows) η')]) (b:=1000000000000) (fam:=fam) (by simp only [go_sem]<;>and_intros<;>first|rfl|assumption) (fun j hj=>by
  show (if 1000000000000≤j then _ else _)=_
  rw [if_pos hj]) (by decide)) ?_
 refine WkK.of ?_;have hrl:=hcr.len;have hfl:=hcr.flat;obtain ⟨hf1,hf2⟩:=jnf hfl (k*8) ((k+1)*8)
 have hdl:(D.sl 8 tRn rows).len=y.runs.length:=by
  simp only [D.len,D.cells,D.size,hrl];exact Nat.mul_div_cancel _ (by decide)
 have hw1:IntKind.i64.wrap ((k:Int)+1)=((k+1:Nat):Int):=jg (by omega) (by omega)
 have hkl2:k+1≤y.runs.length:=hk;have hkl3:k≤y.runs.length:=by omega
 have h0k1:((k+1:Nat):Int)≥0:=by omega
 have htd:List.take ((k+1+(y.runs.length-(k+1))-(k+1))*8) (List.drop ((k+1)*8) rows)=List.drop ((k+1)*8) rows:=List.take_of_length_le (by rw [List.length_drop,hrl];omega)
 have hnn:k+1+(y.runs.length-(k+1))≤y.runs.length:=by omega
 have hd1:(List.take (k*8) rows).length/8=k:=by rw [List.length_take,hrl,Nat.min_eq_left (by omega)];exact Nat.mul_div_cancel _ (by decide)
 have hd2:(List.drop ((k+1)*8) rows).length/8=y.runs.length-(k+1):=by
  rw [List.length_drop,hrl,show y.runs.length*8-(k+1)*8=(y.runs.length-(k+1))*8 by omega];exact Nat.mul_div_cancel _ (by decide)
 have m1:k≤maxLen:=by unfold maxLen;omega
 have m2:k*96≤140737488355328:=by omega
 have m3:k+(y.runs.length-(k+1))≤maxLen:=by unfold maxLen;omega
 have m4:(k+(y.runs.length-(k+1)))*96≤140737488355328:=by omega
 simp only [go_sem,hdl,hw1,hkl2,hkl3,h0k,h0k1,hf1,hf2,Nat.le_refl,htd,hnn,hd1,hd2,m1,m2,m3,m4];intro η34 η39 η45;refine kK ?_
 refine WkK.wk (jvz [some 92,some 90] (T:=[(1,Ni id),(4,Bx 92 b4),(6,Bx 90 b6)]) (O:=[(92,ZYd b4 tYd),(90,jaf b6 tYd y.now y.seq y.shelf η2 (.sl 8 tRn (rows.take (k*8)++rows.drop ((k+1)*8))) η45)]) (b:=1000000000000) (fam:=fam) (by simp only [go_sem]<;>and_intros<;>first|rfl|assumption) (fun j hj=>by
  simp only [go_sem]
  repeat rw [if_neg (by omega)]
  rw [if_pos hj]) (by decide)) ?_
 refine WkK.wk (jqA (b:=1000000000000) (fam:=fam) (fun j=>if j<2*k then j else j+2) (fun i j h=>by
  split at h<;>split at h<;>omega) (fun j hj=>by
  show (if 1000000000000≤j then _ else _)=_
  rw [if_pos hj])) ?_
 refine jgX 90 3 (y.runs.eraseIdx k) [] 1000000000000 _ η45 (rows.take (k*8)++rows.drop ((k+1)*8)) _ (hcr.erase hk) rfl (by decide) (fun j hj=>by
  show (if 1000000000000≤j then _ else _)=_
  rw [if_pos hj]) fun η9 _=>?_
 generalize y.runs.eraseIdx k=R at*;refine WkK.wk (s':=St.of [(1,Ni id),(4,Bx 92 b4),(6,Bx 90 b6)] [(92,ZYd b4 tYd),(90,ve b6 tYd y.now y.seq y.shelf η2 R η9)]) (jl [some 92,some 90] (by simp only [go_sem]<;>and_intros<;>first|rfl|assumption|trivial)) ?_
 refine WkK.of ?_;have hsl:y.shelf.length=4:=hP.four;simp only [go_sem];refine jq (fun i:Nat×jm=>St.of [(1,Ni id),(4,Bx 92 b4),(6,Bx 90 b6),(8,Ni i.1)] [(92,ZYd b4 tYd),(90,ve b6 tYd y.now y.seq (jdQ (fun l=>l.filter (jkp id)) y.shelf i.1) i.2 R η9)]) (fun i=>i.1≤y.shelf.length) (fun i=>y.shelf.length-i.1) (0,η2) (by (try dsimp only);first|omega|(simp;done)|(and_intros<;>first|omega|simp)) (jl [some 92,some 90] (by simp only [go_sem,jxl]<;>and_intros<;>first|rfl|assumption|trivial)) ?_
 rintro ⟨n,η⟩ hn;dsimp only at hn;have hml:=jr3 (f:=fun l=>List.filter (jkp id) l) (l:=y.shelf) (i:=n)
 by_cases hlt:n<y.shelf.length
 ·obtain ⟨l,hl⟩:=je hlt
  have hSi:=jr4 (f:=fun l=>List.filter (jkp id) l) hl
  have hSs:=jr2 (f:=fun l=>List.filter (jkp id) l) hl
  have hll:=jbe ht (List.mem_of_getElem? hl);have hwi:IntKind.i64.wrap ((n:Int)+1)=((n+1:Nat):Int):=jg (by omega) (by omega)
  have h0i:(n:Int)≥0:=by omega
  generalize hS:jdQ (fun l=>List.filter (jkp id) l) y.shelf n=S at*
  have hli:n<S.length:=by omega
  have hlt':(n:Int)<S.length:=by omega
  simp only [go_sem,hlt'];intro ηe;refine jq (fun i:Nat×jm=>St.of [(1,Ni id),(4,Bx 92 b4),(6,Bx 90 b6),(8,Ni n),(9,Hd 9 i.2),(10,Ni i.1)] [(92,ZYd b4 tYd),(90,ve b6 tYd y.now y.seq S η R η9),(9,.loose (jv ((l.take i.1).filter (jkp id))) i.2)]) (fun i=>i.1≤l.length) (fun i=>l.length-i.1) (0,ηe) (by (try dsimp only);first|omega|(simp;done)|(and_intros<;>first|omega|simp)) (jl [some 92,some 90,some 5400] (by simp only [go_sem,List.take_zero,List.filter_nil,jeV]<;>and_intros<;>first|rfl|assumption|trivial)) ?_
  rintro ⟨j,η8⟩ hj;dsimp only at hj;by_cases hjt:j<l.length
  ·have hjt':(j:Int)<l.length:=by omega
   have h0j:(j:Int)≥0:=by omega
   obtain ⟨e,he⟩:=je hjt;have hwj:IntKind.i64.wrap ((j:Int)+1)=((j+1:Nat):Int):=jg (by omega) (by omega)
   have hft:=jsJ (jkp id) he;have hFl:((l.take j).filter (jkp id)).length≤l.length:=Nat.le_trans (List.length_filter_le _ _) (by rw [List.length_take];omega)
   generalize (l.take j).filter (jkp id)=F at*;have n1:F.length+1≤maxLen:=by unfold maxLen;omega
   have n2:(F.length+1)*32≤140737488355328:=by omega
   cases hc2:e.run !=id
   ·have hp:jkp id e=false:=hc2
    rw [hp,if_neg (by decide),List.append_nil] at hft
    simp only [go_sem,hli,h0i,Nat.mul_one,jtp hSi,jss hli,qL hSi,hjt',hjt,h0j,jwa he,jvY he,hc2,hwj];exact ⟨(j+1,η8),by (try dsimp only);first|omega|assumption|(and_intros<;>first|omega|assumption),(jl [some 92,some 90,some 9] (by simp only [go_sem,hft]<;>and_intros<;>first|rfl|assumption|trivial)),by (try dsimp only);omega⟩
   ·have hp:jkp id e=true:=hc2
    rw [hp,if_pos rfl] at hft;simp only [go_sem,hli,h0i,Nat.mul_one,jtp hSi,jss hli,qL hSi,hjt',hjt,h0j,jwa he,jvY he,hc2,hwj,at_en he,in_en he,jy,n1,n2,jsO,ky];intro ηx ηy;exact ⟨(j+1,ηy),by (try dsimp only);first|omega|assumption|(and_intros<;>first|omega|assumption),(jl [some 92,some 90,some 8600] (by simp only [go_sem,hft]<;>and_intros<;>first|rfl|assumption|trivial)),by (try dsimp only);omega⟩
  ·have hjt':¬(j:Int)<l.length:=by omega
   obtain rfl:j=l.length:=by omega
   rw [List.take_length];simp only [go_sem,hli,h0i,Nat.mul_one,jtp hSi,jss hli,qL hSi,hjt',jeP,hSs,hwi];refine fun g' hg'=>?_
   exact ⟨(n+1,g'),by (try dsimp only);first|omega|assumption|(and_intros<;>first|omega|assumption),(jl [some 92,some 90] (by simp only [go_sem]<;>and_intros<;>first|rfl|assumption|trivial)),by (try dsimp only);omega⟩
 ·have hlt':¬(n:Int)<(jdQ (fun l=>List.filter (jkp id) l) y.shelf n).length:=by omega
  obtain rfl:n=y.shelf.length:=by omega
  simp only [go_sem,hlt'];rw [jr5];refine qv _ _ _ _ _ ?_;simp only [go_sem,jc]
end Go.Proofs.Ytmnpailnelmpiaa
