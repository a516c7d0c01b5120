/- Parts. -/
import Derived.Test.YtmnpailnelmpiaaGreatQTurnP
import Derived.Lib.SliceRun
import Derived.Deep.RegionLaw
set_option linter.unusedSimpArgs false
set_option linter.unusedVariables false
set_option maxHeartbeats 4000000
set_option maxRecDepth 100000
namespace Go.Proofs.YtmnpailnelmpiaaGreat
open Go.RowKit Go.Sort
def CutR:List Rn→List D→(Nat→Ob)→Prop
 |[],rows,fam=>rows=[]∧∀j,fam j=.none
 |r::l,rows,fam=>∃(η5 η7:jr) (rows':List D),rows=rnV r (η5 []) (η7 [])++rows'∧(η5 []).oneCell'=true∧(η7 []).oneCell'=true∧fam 0=.loose (jz r.plan.edges) η5∧fam 1=.loose (jG r.tasks) η7∧CutR l rows' (fun j=>fam (j+2))
theorem CutR.len:∀{l:List Rn} {rows:List D} {fam:Nat→Ob},CutR l rows fam→rows.length=l.length*8
 |[],_,_,⟨h,_⟩=>by rw [h];rfl
 |r::l,_,_,⟨_,_,rows',h,_,_,_,_,h2⟩=>by
  have:=CutR.len h2;rw [h,List.length_append,List.length_cons,this];simp only [List.length_cons,List.length_nil];omega
theorem CutR.flat:∀{l:List Rn} {rows:List D} {fam:Nat→Ob},CutR l rows fam→ka rows=true
 |[],_,_,⟨h,_⟩=>by rw [h];rfl
 |r::l,_,_,⟨η5,η7,rows',h,h5,h7,_,_,h2⟩=>by
  have:=CutR.flat h2;rw [h,vB,this];simp [ka,h5,h7];exact ⟨rfl,rfl,rfl,rfl,rfl,rfl⟩
theorem CutR.erase:∀{l:List Rn} {rows:List D} {fam:Nat→Ob} {k:Nat},CutR l rows fam→k<l.length→CutR (l.eraseIdx k) (rows.take (k*8)++rows.drop ((k+1)*8)) (fun j=>fam (if j<2*k then j else j+2))
 |[],_,_,_,_,h=>by simp at h
 |r::l,_,fam,0,⟨η5,η7,rows',h,_,_,_,_,h2⟩,_=>by
  have e1:(rnV r (η5 []) (η7 [])++rows').drop ((0+1)*8)=rows':=List.drop_left' rfl;rw [h,e1,Nat.zero_mul,List.take_zero,List.nil_append];simpa using h2
 |r::l,_,fam,k+1,⟨η5,η7,rows',h,h5,h7,f0,f1,h2⟩,hk=>by
  have ih:=CutR.erase (k:=k) h2 (by simpa using hk)
  have e1:(rnV r (η5 []) (η7 [])++rows').take ((k+1)*8)=rnV r (η5 []) (η7 [])++rows'.take (k*8):=by
   rw [show (k+1)*8=(rnV r (η5 []) (η7 [])).length+k*8 by rw [show (rnV r (η5 []) (η7 [])).length=8 from rfl];omega];exact List.take_length_add_append _
  have e2:(rnV r (η5 []) (η7 [])++rows').drop ((k+1+1)*8)=rows'.drop ((k+1)*8):=by
   rw [show (k+1+1)*8=(rnV r (η5 []) (η7 [])).length+(k+1)*8 by rw [show (rnV r (η5 []) (η7 [])).length=8 from rfl];omega];exact List.drop_length_add_append _
  rw [h,e1,e2,List.eraseIdx_cons_succ];refine ⟨η5,η7,_,by rw [List.append_assoc],h5,h7,?_,?_,?_⟩
  ·dsimp only;rw [if_pos (by omega)];exact f0
  ·dsimp only;rw [if_pos (by omega)];exact f1
  ·have:(fun j=>fam (if j+2<2*(k+1) then j+2 else j+2+2))=(fun j=>fam ((if j<2*k then j else j+2)+2)):=by
    funext j
    by_cases c:j<2*k
    ·rw [if_pos c,if_pos (by omega)]
    ·rw [if_neg c,if_neg (by omega)]
   rw [this];exact ih
theorem jpV {ob:Ob} {c:Nat} {d d':D} {η η':jr} (h:ob.own c=some (d,η)):(ob.putOwn c d' η').own c=some (d',η'):=by
 cases ob with
 |none=>simp [Ob.own] at h
 |loose e ε=>cases c with
  |zero=>rfl
  |succ c=>simp [Ob.own] at h
 |box b ty cs=>
  simp only [Ob.own] at h;split at h
  ·rename_i d0 η0 hc
   have:=(List.getElem?_eq_some_iff.1 hc).1;simp [Ob.own,Ob.putOwn,List.getElem?_set_self this]
  ·simp at h
theorem jth {ob:Ob} {c:Nat} {d:D} {η:jr} (h:ob.own c=some (d,η)):ob.putOwn c d η=ob:=by
 cases ob with
 |none=>rfl
 |loose e ε=>cases c with
  |zero=>simp [Ob.own] at h;obtain ⟨rfl,rfl⟩:=h;rfl
  |succ c=>simp [Ob.own] at h
 |box b ty cs=>
  simp only [Ob.own] at h;split at h
  ·rename_i d0 η0 hc
   simp at h;obtain ⟨rfl,rfl⟩:=h;simp only [Ob.putOwn];rw [jaa hc]
  ·simp at h
theorem jpL {ob:Ob} {c:Nat} {d d':D} {η η':jr}:(ob.putOwn c d η).putOwn c d' η'=ob.putOwn c d' η':=by
 cases ob with
 |none=>rfl
 |loose e ε=>rfl
 |box b ty cs=>simp [Ob.putOwn,List.set_set]
theorem jls {α:Type} {A B:List α} (k:Nat) (hk:k<B.length) (x:α):(A++B).set (A.length+k) x=A++B.set k x:=by
 rw [List.set_append_right _ _ (by omega),Nat.add_sub_cancel_left]
theorem jl6 {α:Type} {A B:List α} (k:Nat):(A++B)[A.length+k]?=B[k]?:=by
 rw [List.getElem?_append_right (by omega),Nat.add_sub_cancel_left]
theorem jis {K:St→Prop} (g c:Nat):∀(l:List Rn) (pre:List D) (b:Nat) (s:St) (η:jr),(s.o g).own c=some (.sl 8 tRn (pre++l.flatMap jd),η)→g<b→(∀j,b≤j→s.o j=.none)→
 (∀(rows:List D) (fam:Nat→Ob) (η':jr),CutR l rows fam→η' []=η []→WkK ⟨s.t,fun j=>if b≤j then fam (j-b) else if j=g then (s.o g).putOwn c (.sl 8 tRn (pre++rows)) η' else s.o j⟩ K)→WkK s K
 |[],pre,b,s,η,ho,hg,hn,hK=>by
  have:=hK [] (fun _=>.none) η ⟨rfl,fun _=>rfl⟩ rfl
  have e:(⟨s.t,fun j=>if b≤j then Ob.none else if j=g then (s.o g).putOwn c (.sl 8 tRn (pre++[])) η else s.o j⟩:St)=s:=by
   have:(fun j=>if b≤j then Ob.none else if j=g then (s.o g).putOwn c (.sl 8 tRn (pre++[])) η else s.o j)=s.o:=by
    funext j
    by_cases h1:b≤j
    ·rw [if_pos h1,hn j h1]
    ·rw [if_neg h1]
     by_cases h2:j=g
     ·subst h2;rw [if_pos rfl];exact jth ho
     ·rw [if_neg h2]
   rw [this]
  rwa [e] at this
 |r::l,pre,b,s,η,ho,hg,hn,hK=>by
  rw [List.flatMap_cons] at ho;have h8:(jd r).length=8:=rfl;refine jed g c (pre.length+5) b (η:=η) (sz:=8) (tyo:=tRn) (cs:=r.plan.edges.flatMap jQ) ho (by rw [jl6];rfl) (hn b (Nat.le_refl b)) (by omega) fun ηa ηA hA1 hA2 hA3=>?_
  rw [jls 5 (by rw [List.length_append,h8];omega),List.set_append_left _ _ (by rw [h8];omega)]
  have hbg:b≠g:=by omega
  have hog:∀(x y:Ob),(((s.setO g x).setO b y).o g)=x:=fun x y=>by
   show (if g=b then y else if g=g then x else s.o g)=x
   rw [if_neg (by omega),if_pos rfl]
  have ho2:((((s.setO g ((s.o g).putOwn c (.sl 8 tRn (pre++((jd r).set 5 (.val (η [pre.length+5]))++l.flatMap jd))) ηA)).setO b (.loose (.sl 2 tEd (r.plan.edges.flatMap jQ)) ηa)).o g)).own c=some (.sl 8 tRn (pre++((jd r).set 5 (.val (η [pre.length+5]))++l.flatMap jd)),ηA):=by
   rw [hog];exact jpV ho
  refine jed g c (pre.length+7) (b+1) (η:=ηA) (sz:=8) (tyo:=tRn) (cs:=r.tasks.flatMap jn) ho2 (by rw [jl6];rfl) (by
   show (if b+1=b then _ else if b+1=g then _ else s.o (b+1))=_
   rw [if_neg (by omega),if_neg (by omega)];exact hn _ (by omega)) (by omega) fun ηb ηB hB1 hB2 hB3=>?_
  rw [hog,jpL,jls 7 (by rw [List.length_append,List.length_set,h8];omega),List.set_append_left _ _ (by rw [List.length_set,h8];omega)]
  rw [←hA2] at hA3⊢;rw [←hB2] at hB3⊢;have hV:((jd r).set 5 (.val (ηa []))).set 7 (.val (ηb []))=rnV r (ηa []) (ηb []):=rfl;rw [hV];obtain ⟨s2,hs2⟩:∃s2,(((s.setO g ((s.o g).putOwn c (.sl 8 tRn (pre++((jd r).set 5 (.val (ηa []))++l.flatMap jd))) ηA)).setO b (.loose (.sl 2 tEd (r.plan.edges.flatMap jQ)) ηa)).setO g ((s.o g).putOwn c (.sl 8 tRn (pre++(rnV r (ηa []) (ηb [])++l.flatMap jd))) ηB)).setO (b+1) (.loose (.sl 4 tTk (r.tasks.flatMap jn)) ηb)=s2:=⟨_,rfl⟩;rw [hs2]
  have q0:s2.o g=(s.o g).putOwn c (.sl 8 tRn (pre++(rnV r (ηa []) (ηb [])++l.flatMap jd))) ηB:=by
   rw [←hs2];show (if g=b+1 then _ else if g=g then _ else _)=_
   rw [if_neg (by omega),if_pos rfl]
  have q1:s2.o b=.loose (jz r.plan.edges) ηa:=by
   rw [←hs2];show (if b=b+1 then _ else if b=g then _ else if b=b then _ else _)=_
   rw [if_neg (by omega),if_neg (by omega),if_pos rfl];rfl
  have q2:s2.o (b+1)=.loose (jG r.tasks) ηb:=by
   rw [←hs2];show (if b+1=b+1 then _ else _)=_
   rw [if_pos rfl];rfl
  have q3:∀j,j≠g→j≠b→j≠b+1→s2.o j=s.o j:=fun j n1 n2 n3=>by
   rw [←hs2];show (if j=b+1 then _ else if j=g then _ else if j=b then _ else if j=g then _ else s.o j)=_
   rw [if_neg n3,if_neg n1,if_neg n2,if_neg n1]
  have qt:s2.t=s.t:=by rw [←hs2];rfl
  refine jis g c l (pre++rnV r (ηa []) (ηb [])) (b+2) s2 ηB (by rw [q0,List.append_assoc];exact jpV ho) (by omega) (fun j hj=>by rw [q3 j (by omega) (by omega) (by omega)];exact hn j (by omega)) fun rows fam η' hcr hη=>?_
  have:=hK (rnV r (ηa []) (ηb [])++rows) (fun j=>if j=0 then .loose (jz r.plan.edges) ηa else if j=1 then .loose (jG r.tasks) ηb else fam (j-2)) η' ⟨ηa,ηb,rows,rfl,hA3,hB3,rfl,rfl,hcr⟩ (by rw [hη,hB1,hA1])
  have e:(fun j=>if b+2≤j then fam (j-(b+2)) else if j=g then (s2.o g).putOwn c (.sl 8 tRn (pre++rnV r (ηa []) (ηb [])++rows)) η' else s2.o j)=(fun j=>if b≤j then (if j-b=0 then Ob.loose (jz r.plan.edges) ηa else if j-b=1 then .loose (jG r.tasks) ηb else fam (j-b-2)) else if j=g then (s.o g).putOwn c (.sl 8 tRn (pre++(rnV r (ηa []) (ηb [])++rows))) η' else s.o j):=by
   funext j
   by_cases c1:b+2≤j
   ·rw [if_pos c1,if_pos (by omega),if_neg (by omega),if_neg (by omega),show j-(b+2)=j-b-2 by omega]
   ·rw [if_neg c1]
    by_cases c2:j=b
    ·subst c2;rw [if_neg (by omega),if_pos (Nat.le_refl _),if_pos (by omega),q1]
    ·by_cases c3:j=b+1
     ·subst c3;rw [if_neg (by omega),if_pos (by omega),if_neg (by omega),if_pos (by omega),q2]
     ·by_cases c4:j=g
      ·subst c4;rw [if_pos rfl,if_neg (by omega),if_pos rfl,q0,jpL,List.append_assoc]
      ·rw [if_neg c4,if_neg (by omega),if_neg c4,q3 j c4 c2 c3]
  rw [qt,e];exact this
theorem jec {K:St→Prop} (g c:Nat):∀(l:List Rn) (pre:List D) (b:Nat) (s:St) (η:jr) (rows:List D) (fam:Nat→Ob),CutR l rows fam→(s.o g).own c=some (.sl 8 tRn (pre++rows),η)→g<b→(∀j,b≤j→s.o j=fam (j-b))→
 (∀η':jr,η' []=η []→WkK ⟨s.t,fun j=>if b≤j then .none else if j=g then (s.o g).putOwn c (.sl 8 tRn (pre++l.flatMap jd)) η' else s.o j⟩ K)→WkK s K
 |[],pre,b,s,η,_,fam,⟨rfl,hf⟩,ho,hg,hn,hK=>by
  have:=hK η rfl
  have e:(⟨s.t,fun j=>if b≤j then Ob.none else if j=g then (s.o g).putOwn c (.sl 8 tRn (pre++List.flatMap jd [])) η else s.o j⟩:St)=s:=by
   have:(fun j=>if b≤j then Ob.none else if j=g then (s.o g).putOwn c (.sl 8 tRn (pre++List.flatMap jd [])) η else s.o j)=s.o:=by
    funext j
    by_cases h1:b≤j
    ·rw [if_pos h1,hn j h1,hf]
    ·rw [if_neg h1]
     by_cases h2:j=g
     ·subst h2;rw [if_pos rfl];exact jth ho
     ·rw [if_neg h2]
   rw [this]
  rwa [e] at this
 |r::l,pre,b,s,η,_,fam,⟨η5,η7,rows,rfl,h5,h7,f0,f1,hcr⟩,ho,hg,hn,hK=>by
  have h8:(rnV r (η5 []) (η7 [])).length=8:=rfl;have hb0:s.o b=.loose (.sl 2 tEd (r.plan.edges.flatMap jQ)) η5:=by rw [hn b (Nat.le_refl b),Nat.sub_self,f0];rfl
  have hb1:s.o (b+1)=.loose (.sl 4 tTk (r.tasks.flatMap jn)) η7:=by rw [hn (b+1) (by omega),Nat.add_sub_cancel_left,f1];rfl
  refine qx g c (pre.length+5) b (η:=η) (η2:=η5) (sz:=8) (tyo:=tRn) (cs:=r.plan.edges.flatMap jQ) ho (by rw [jl6];rfl) (.inl rfl) hb0 (by omega) fun ηA hA=>?_
  rw [jls 5 (by rw [List.length_append,h8];omega),List.set_append_left _ _ (by rw [h8];omega)]
  have hog:∀(x:Ob),(((s.setO b .none).setO g x).o g)=x:=fun x=>by
   show (if g=g then x else _)=x
   rw [if_pos rfl]
  refine qx g c (pre.length+7) (b+1) (η:=ηA) (η2:=η7) (sz:=8) (tyo:=tRn) (cs:=r.tasks.flatMap jn) (by rw [hog];exact jpV ho) (by rw [jl6];rfl) (.inl rfl) (by
   show (if b+1=g then _ else if b+1=b then _ else s.o (b+1))=_
   rw [if_neg (by omega),if_neg (by omega)];exact hb1) (by omega) fun ηB hB=>?_
  rw [hog,jpL,jls 7 (by rw [List.length_append,List.length_set,h8];omega),List.set_append_left _ _ (by rw [List.length_set,h8];omega)]
  have hV:(((rnV r (η5 []) (η7 [])).set 5 (.sl 2 tEd (r.plan.edges.flatMap jQ))).set 7 (.sl 4 tTk (r.tasks.flatMap jn)))=jd r:=rfl;rw [hV];obtain ⟨s2,hs2⟩:∃s2,(((s.setO b .none).setO g ((s.o g).putOwn c (.sl 8 tRn (pre++((rnV r (η5 []) (η7 [])).set 5 (.sl 2 tEd (r.plan.edges.flatMap jQ))++rows))) ηA)).setO (b+1) .none).setO g ((s.o g).putOwn c (.sl 8 tRn (pre++(jd r++rows))) ηB)=s2:=⟨_,rfl⟩;rw [hs2]
  have q0:s2.o g=(s.o g).putOwn c (.sl 8 tRn (pre++(jd r++rows))) ηB:=by
   rw [←hs2];show (if g=g then _ else _)=_
   rw [if_pos rfl]
  have q3:∀j,j≠g→j≠b→j≠b+1→s2.o j=s.o j:=fun j n1 n2 n3=>by
   rw [←hs2];show (if j=g then _ else if j=b+1 then _ else if j=g then _ else if j=b then _ else s.o j)=_
   rw [if_neg n1,if_neg n3,if_neg n1,if_neg n2]
  have q1:s2.o b=.none:=by
   rw [←hs2];show (if b=g then _ else if b=b+1 then _ else if b=g then _ else if b=b then _ else s.o b)=_
   rw [if_neg (by omega),if_neg (by omega),if_neg (by omega),if_pos rfl]
  have q2:s2.o (b+1)=.none:=by
   rw [←hs2];show (if b+1=g then _ else if b+1=b+1 then _ else _)=_
   rw [if_neg (by omega),if_pos rfl]
  have qt:s2.t=s.t:=by rw [←hs2];rfl
  refine jec g c l (pre++jd r) (b+2) s2 ηB rows _ hcr (by rw [q0,List.append_assoc];exact jpV ho) (by omega) (fun j hj=>by rw [q3 j (by omega) (by omega) (by omega),hn j (by omega),show j-b=j-(b+2)+2 by omega]) fun η' hη=>?_
  have:=hK η' (by rw [hη,hB,hA])
  have e:(fun j=>if b+2≤j then Ob.none else if j=g then (s2.o g).putOwn c (.sl 8 tRn (pre++jd r++l.flatMap jd)) η' else s2.o j)=(fun j=>if b≤j then Ob.none else if j=g then (s.o g).putOwn c (.sl 8 tRn (pre++(r::l).flatMap jd)) η' else s.o j):=by
   funext j
   by_cases c1:b+2≤j
   ·rw [if_pos c1,if_pos (by omega)]
   ·rw [if_neg c1]
    by_cases c2:j=b
    ·subst c2;rw [if_neg (by omega),if_pos (Nat.le_refl _),q1]
    ·by_cases c3:j=b+1
     ·subst c3;rw [if_neg (by omega),if_pos (by omega),q2]
     ·by_cases c4:j=g
      ·subst c4;rw [if_pos rfl,if_neg (by omega),if_pos rfl,q0,jpL,List.append_assoc,List.flatMap_cons]
      ·rw [if_neg c4,if_neg (by omega),if_neg c4,q3 j c4 c2 c3]
  rw [qt,e];exact this
def St.ofF (T:List (Nat×AV)) (O:List (Nat×Ob)) (b:Nat) (fam:Nat→Ob):St:=⟨lkT T,fun j=>if b≤j then fam (j-b) else lkO O j⟩
theorem ofF_t (T:List (Nat×AV)) (O:List (Nat×Ob)) (b:Nat) (fam:Nat→Ob) (n:Nat):(St.ofF T O b fam).t n=lkT T n:=(rfl)
theorem ofF_o (T:List (Nat×AV)) (O:List (Nat×Ob)) (b:Nat) (fam:Nat→Ob) (n:Nat):(St.ofF T O b fam).o n=if b≤n then fam (n-b) else lkO O n:=(rfl)
attribute [go_sem] ofF_t ofF_o
theorem jmu {s:St} {T:List (Nat×AV)} {O:List (Nat×Ob)} {b:Nat} {fam:Nat→Ob} (ks:List (Option Nat)) (h:jxc s T∧jqi s ks O) (hf:∀j,b≤j→s.o j=fam (j-b)) (hk:∀k∈jqV ks,k<b) (hn:jjF (jqV ks)=true:=by decide):Wk s (St.ofF T O b fam):=fun B N w0 w a F hr=>by
 have hob:=jt6 hr.ob h.2;have hdj:=jwb (ks:=ks) (O:=O) hr.dj (jbH hn);refine ⟨fun j=>if b≤j then F j else fp F ks O j,⟨hr.below,hr.hB,hr.df,hr.sz,jwe hr.sl h.1,fun g=>?_,fun g=>?_,fun g g' hne x hx hx'=>?_⟩,fun g x hx=>?_⟩
 ·by_cases c:b≤g
  ·simp only [St.ofF,if_pos c];rw [←hf g c];exact hr.ob g
  ·simp only [St.ofF,if_neg c];exact hob g
 ·by_cases c:b≤g
  ·simp only [if_pos c];exact hr.fr g
  ·simp only [if_neg c];exact jwa hr.fr ks O g
 ·by_cases c:b≤g
  ·simp only [if_pos c] at hx
   by_cases c':b≤g'
   ·simp only [if_pos c'] at hx';exact hr.dj g g' hne x hx hx'
   ·simp only [if_neg c'] at hx'
    obtain ⟨k,h1,h2⟩:=je8 hx';exact hr.dj g k (by have:=hk k h1;omega) x hx h2
  ·simp only [if_neg c] at hx
   by_cases c':b≤g'
   ·simp only [if_pos c'] at hx'
    obtain ⟨k,h1,h2⟩:=je8 hx;exact hr.dj k g' (by have:=hk k h1;omega) x h2 hx'
   ·simp only [if_neg c'] at hx';exact hdj g g' hne x hx hx'
 ·by_cases c:b≤g
  ·simp only [if_pos c] at hx;exact ⟨g,hx⟩
  ·simp only [if_neg c] at hx
   obtain ⟨k,_,h2⟩:=je8 hx;exact ⟨k,h2⟩
theorem jmv {s:St} {b:Nat} {fam:Nat→Ob} (ρ:Nat→Nat) (hρ:∀i j,ρ i=ρ j→i=j) (hf:∀j,b≤j→s.o j=fam (j-b)):Wk s ⟨s.t,fun j=>if b≤j then fam (ρ (j-b)) else s.o j⟩:=fun B N w0 w a F hr=>by
 refine ⟨fun j=>if b≤j then F (b+ρ (j-b)) else F j,⟨hr.below,hr.hB,hr.df,hr.sz,hr.sl,fun g=>?_,fun g=>?_,fun g g' hne x hx hx'=>?_⟩,fun g x hx=>?_⟩
 ·by_cases c:b≤g
  ·simp only [if_pos c]
   have:=hr.ob (b+ρ (g-b))
   rwa [hf _ (Nat.le_add_right _ _),Nat.add_sub_cancel_left] at this
  ·simp only [if_neg c];exact hr.ob g
 ·by_cases c:b≤g
  ·simp only [if_pos c];exact hr.fr _
  ·simp only [if_neg c];exact hr.fr g
 ·by_cases c:b≤g
  ·simp only [if_pos c] at hx
   by_cases c':b≤g'
   ·simp only [if_pos c'] at hx'
    exact hr.dj _ _ (fun e=>hne (by have:=hρ _ _ (Nat.add_left_cancel e);omega)) x hx hx'
   ·simp only [if_neg c'] at hx';exact hr.dj _ _ (by omega) x hx hx'
  ·simp only [if_neg c] at hx
   by_cases c':b≤g'
   ·simp only [if_pos c'] at hx';exact hr.dj _ _ (by omega) x hx hx'
   ·simp only [if_neg c'] at hx';exact hr.dj _ _ hne x hx hx'
 ·by_cases c:b≤g
  ·simp only [if_pos c] at hx;exact ⟨_,hx⟩
  ·simp only [if_neg c] at hx;exact ⟨g,hx⟩
open Go.RowKit Go.Sort Go.Lib
abbrev fDel:FuncId:=146
theorem jlt {P:Program} (w:World) (t e ty:TypeId) (z:Value) (ht:P.underlying t=some (.slice e)) (hv:∀w,(zeroValue e).run P w=.ok z w) (h1:∀v∈z.cells.toList,v.oneCell'=true) (hs:z.cells.size=8) (b o c:Nat)
 (hc:∀j,j<8→(w.cell? ⟨b,o+j,none⟩).isSome=true) (hf:∀j,j<8→w.frozen? ⟨b,o+j,none⟩=false):
 (Builtin.clear_ #[t] ty #[.slice (some ⟨b,o,none⟩) 1 c]).run P w=.ok (.tuple #[]) (w.setCells b o z.cells.toList):=by
 have hzc:(Builtin.zeroCells z.cells 1).toList=z.cells.toList:=by
  simp only [Builtin.zeroCells,Nat.one_mul]
  apply List.ext_getElem
  ·simp
  ·intro i h1 h2
   have:i<z.cells.size:=by simpa using h2
   simp [Nat.mod_eq_of_lt this];exact getElem!_pos z.cells i this
 have hst:=run_storeCells_cells (P:=P) b o z.cells.toList 0 w (by simpa [hs] using hc) (by simpa [hs] using hf) h1
 simp only [Nat.add_zero] at hst;simp [Builtin.clear_,run_underlying ht,hv,hzc,hst]
abbrev zRnL:List Value:=[.int .i64 0,.int .i64 0,.int .i64 0,.int .i64 0,.int .i64 0,.slice none 0 0,.int .i64 0,.slice none 0 0]
theorem jyV (b n c k:Nat) (cs:List Value) (w:World) (hk:k<n) (hnc:n≤c) (hc63:c≤9223372036854775807) (hcl:cs.length=n*8)
 (hcs:∀j v,cs[j]?=some v→w.cell? ⟨b,j,none⟩=some v) (hfz:∀j,w.frozen? ⟨b,j,none⟩=false) (h1c:∀v∈cs,v.oneCell'=true):
 Calls Tryz.prog fDel #[.slice (some ⟨b,0,none⟩) n c,.int .i64 k,.int .i64 ((k:Int)+1)] w fun e w'=>
  e=.returned (.slice (some ⟨b,0,none⟩) (n-1) c)∧w'=(w.drew.setCells b (k*8) (cs.drop ((k+1)*8))).setCells b ((n-1)*8) zRnL:=by
 have mixed:Tryz.prog.follows .mixedOrders=true:=by kernel_rfl
 have t22:=Tryz.underlying35;have a22:=Tryz.isAgg35;have z22:=Tryz.sizeOf35;have u3:=Tryz.underlying3;have a3:=Tryz.isAgg3;have z3:=Tryz.sizeOf3;have u4:=Tryz.underlying4;have z23:=Tryz.sizeOf108;have hu:Tryz.prog.underlying jzo=some (.slice tRn):=slRn.1;obtain ⟨i0,zv,hi0,hz0,hzc,hzs,hzb⟩:=slRn.info;obtain ⟨news,hnews⟩:∃news,news=cs.drop ((k+1)*8):=⟨_,rfl⟩;have hlen:news.length=(n-(k+1))*8:=by rw [hnews,List.length_drop,hcl];omega
 have hget:∀t u,news[t]?=some u→w.cell? ⟨b,(k+1)*8+t,none⟩=some u:=fun t u hu=>by
  rw [hnews,List.getElem?_drop] at hu;exact hcs _ u hu
 obtain ⟨A,hA,hsrc⟩:∃A:Addr,(if c=k+1 then some (⟨b,0,none⟩:Addr) else some ⟨b,(k+1)*8,none⟩)=some A∧Hid (∀t u,news[t]?=some u→w.drew.cell? (A.add t)=some u):=by
  by_cases h:c=k+1
  ·refine ⟨⟨b,0,none⟩,by simp [h],fun t u hu=>?_⟩
   have h0:news.length=0:=by rw [hlen];omega
   rw [List.length_eq_zero_iff.1 h0] at hu;simp at hu
  ·refine ⟨⟨b,(k+1)*8,none⟩,by simp [h],fun t u hu=>?_⟩
   rw [Addr.add_lit];exact hget t u hu
 have s1:Hid (news.length=(n-(k+1))*8):=hlen;have s2:Hid (∀u∈news,u.oneCell'=true):=fun u hu=>by rw [hnews] at hu;exact h1c u (List.mem_of_mem_drop hu)
 have hsome:∀j,j<n*8→(w.cell? ⟨b,j,none⟩).isSome=true:=fun j hj=>by rw [hcs j _ (List.getElem?_eq_getElem (by omega))];rfl
 have s3:Hid (∀t,t<news.length→(w.drew.cell? ⟨b,0+k*8+t,none⟩).isSome=true∧w.drew.frozen? ⟨b,0+k*8+t,none⟩=false):=fun t ht=>by
  rw [hlen] at ht;exact ⟨hsome _ (by omega),hfz _⟩
 obtain ⟨W1,hW1⟩:∃W1,W1=w.drew.setCells b (0+k*8) news:=⟨_,rfl⟩
 have hsome1:∀j,j<n*8→(W1.cell? ⟨b,j,none⟩).isSome=true:=fun j hj=>by
  rw [hW1];exact isSome_setCells b news (0+k*8) w.drew (fun t ht=>hsome _ (by omega)) j (hsome j hj)
 have hz:∀w,(zeroValue tRn).run Tryz.prog w=.ok zv w:=fun w=>by simp [zeroValue,typeInfo,hi0,hz0]
 have hzl:zv.cells.toList=zRnL:=by rw [hzc]
 have hcl2:∀ty q,(Builtin.clear_ #[jzo] ty #[.slice (some ⟨b,(k+(n-(k+1)))*8,none⟩) 1 q]).run Tryz.prog W1=.ok (.tuple #[]) (W1.setCells b ((k+(n-(k+1)))*8) zRnL):=fun ty q=>by
  rw [←hzl];exact jlt W1 jzo tRn ty zv hu hz (by rw [hzl];decide) (by rw [hzc];rfl) b _ q (fun j hj=>hsome1 _ (by omega)) (fun j hj=>by rw [hW1,World.frozen?_setCells];exact hfz _)
 have hW:Hid (W1=w.drew.setCells b (0+k*8) news):=hW1;have hkc:k≤c:=by omega
 have hjc:k+1≤c:=by omega
 have hne:¬((k:Int)=(k:Int)+1):=by omega
 have hb1:(0:Int)≤(k:Int)+1:=by omega
 have hb2:(k:Int)≤(n:Int):=by omega
 have hb3:(k:Int)+1≤(n:Int):=by omega
 have hb4:(k:Int)≤(k:Int)+1:=by omega
 have htn:((k:Int)+1).toNat=k+1:=by omega
 have hkn:k≤n:=by omega
 have hjn:k+1≤n:=hk;have h1n:n-(k+(n-(k+1)))=1:=by omega
 clear hW1 hsome1 hget hlen hsome hcs
 go_enter Tryz.func146,Tryz.ntmps146
 go_wp2_with fail
 go_region_law_o (refine step_append_room rfl (.tmp 22) (.tmp 25) jzo rfl tRn i0 8 hu hi0 hzs b 0 k c (by simp [Act.eval,Act.put]) A (n-(k+1)) (c-(k+1)) news (by simp [Act.eval,Act.put,hA]) s1.out hsrc.out s2.out (by omega) s3.out ?_;rw [←hW.out])
 go_wp2
 go_ret
 have e1:k+(n-(k+1))=n-1:=by omega
 refine ⟨by rw [e1];rfl,?_⟩
 rw [hW.out,hnews,e1,Nat.zero_add]
def jmA:D→Value
 |.val u=>u
 |.sl _ _ _=>undef
theorem jxf:∀{ds:List D} {w:World} {own:Bool} {vs:List Value} {S:List Nat},ka ds=true→RepL w own ds vs S→vs=ds.map jmA∧S=[]
 |[],_,_,_,_,_,⟨h1,h2⟩=>⟨h1,h2⟩
 |.sl _ _ _::_,_,_,_,_,h,_=>by cases h
 |.val u::ds,w,own,_,_,h,⟨v,vs',S1,S2,rfl,rfl,⟨h1,h2⟩,h3⟩=>by
  simp only [ka,Bool.and_eq_true] at h;obtain ⟨k1,k2⟩:=jxf h.2 h3;subst h1 h2 k1 k2;exact ⟨rfl,rfl⟩
theorem d_mk (w:World) (own:Bool):∀{ds:List D},ka ds=true→RepL w own ds (ds.map jmA) []
 |[],_=>⟨rfl,rfl⟩
 |.sl _ _ _::_,h=>by cases h
 |.val u::ds,h=>by
  simp only [ka,Bool.and_eq_true] at h;exact ⟨u,ds.map jmA,[],[],rfl,rfl,⟨rfl,rfl⟩,d_mk w own h.2⟩
theorem jA8:∀{ds:List D},ka ds=true→∀v∈ds.map jmA,v.oneCell'=true
 |[],_,_,hv=>by simp at hv
 |.sl _ _ _::_,h,_,_=>by cases h
 |.val u::ds,h,v,hv=>by
  simp only [ka,Bool.and_eq_true] at h;rcases List.mem_cons.1 hv with rfl|hv
  ·exact h.1
  ·exact jA8 h.2 v hv
theorem jvd (rows:List D) (n k:Nat) (hf:ka rows=true) (hf2:ka (rows.take (k*8)++rows.drop ((k+1)*8))=true) (hl:rows.length=n*8) (hk:k<n) {o:Nat→Ob} {g:Nat} {η:jr} (ho:o g=.loose (.sl 8 tRn rows) η):
 Turns Tryz.prog fDel [.c (.v (η [])),.c (.v (.int .i64 k)),.c (.v (.int .i64 ((k:Int)+1)))] o (fun rt o'=>rt=.c (.sl 8 tRn (rows.take (k*8)++rows.drop ((k+1)*8)))∧o'=fun j=>if j=g then .none else o j):=
 ⟨⟨_,Tryz.func146,by kernel_rfl,by kernel_rfl⟩,fun B w F xs hR hxs=>by
   obtain ⟨x,xs1,rfl,rfl,_,xs2,rfl,rfl,x2,xs3,rfl,rfl,rfl⟩:=hxs;have h1:=hR.ob g;simp only at h1;rw [ho] at h1;obtain ⟨_,u,r1,e1⟩:=h1;have q1:η []=u:=e1 [];rw [q1];have hB:B≤w.heap.size:=Nat.le_trans hR.hB hR.below.size;have hF1:=hR.fr g;have hlt:∀k,∀b∈F k,b<w.heap.size:=fun k b hb=>(hR.ob k).lt b hb
   obtain ⟨vs,T,S',hrow,hrl,hS⟩:=r1;obtain ⟨rfl,rfl⟩:=jxf hf hrl;have hv1:=jA8 hf;have hvl:(rows.map jmA).length=n*8:=by rw [List.length_map,hl]
   generalize hvs:rows.map jmA=vs at*;obtain ⟨m,hrow,rfl⟩:=hrow;rcases hrow.2 with ⟨_,h0⟩|⟨b,c,cu,rfl,_,hbc,hc1,hc2,hc3,hc4⟩
   ·have:=hrow.1;omega
   have hmn:m=n:=by have:=hrow.1;omega
   subst hmn;have hFg:F g=[b]:=by rw [hS];simp [blk]
   have hbB:B≤b:=hF1.2 b (by rw [hFg];simp)
   have hcs:∀j v,vs[j]?=some v→w.cell? ⟨b,j,none⟩=some v:=fun j v hj=>by
    rw [jmo hbc,←Array.getElem?_toList];exact jli hc4 hj
   obtain ⟨_,sb2⟩:=jlq hbc;have hcul:cu.toList.length=c*8:=by simpa using hc3
   refine (jyV b m c k vs w hk hc1 (by unfold maxLen at hc2;omega) hvl hcs sb2 hv1).mono ?_
   rintro en w' ⟨rfl,rfl⟩;have hcu:w.drew.heap[b]?=some (.cells cu.toList.toArray tRn (0,0)):=by rw [Array.toArray_toList];exact hbc
   have hdl:(vs.drop ((k+1)*8)).length=(m-(k+1))*8:=by rw [List.length_drop,hvl];omega
   obtain ⟨w1,w2⟩:=qo (vs.drop ((k+1)*8)) w.drew b (k*8) cu.toList tRn hcu;obtain ⟨w3,w4⟩:=qo zRnL _ b ((m-1)*8) _ tRn w1;have s1:=kM (vs.drop ((k+1)*8)) w.drew b (k*8);have s2:=kM zRnL (w.drew.setCells b (k*8) (vs.drop ((k+1)*8))) b ((m-1)*8);have hmc:m*8≤c*8:=by omega
   have hA:kG cu.toList (k*8) (vs.drop ((k+1)*8))=cu.toList.take (k*8)++vs.drop ((k+1)*8)++cu.toList.drop (k*8+(vs.drop ((k+1)*8)).length):=kV _ _ _ (by rw [hdl,hcul];omega)
   have hAl:(kG cu.toList (k*8) (vs.drop ((k+1)*8))).length=c*8:=by
    rw [hA];simp only [List.length_append,List.length_take,List.length_drop,hcul,hvl];omega
   have hz8:zRnL.length=8:=rfl;have hBz:kG (kG cu.toList (k*8) (vs.drop ((k+1)*8))) ((m-1)*8) zRnL=(kG cu.toList (k*8) (vs.drop ((k+1)*8))).take ((m-1)*8)++zRnL++(kG cu.toList (k*8) (vs.drop ((k+1)*8))).drop ((m-1)*8+zRnL.length):=kV _ _ _ (by rw [hz8,hAl];omega)
   have hct:cu.toList.take (k*8)=vs.take (k*8):=by rw [←hc4,List.take_take,Nat.min_eq_left (by omega)]
   have hvn:(rows.take (k*8)++rows.drop ((k+1)*8)).map jmA=vs.take (k*8)++vs.drop ((k+1)*8):=by rw [List.map_append,List.map_take,List.map_drop,hvs]
   have hnl:(vs.take (k*8)++vs.drop ((k+1)*8)).length=(m-1)*8:=by rw [List.length_append,List.length_take,hdl,hvl];omega
   have htk:(kG (kG cu.toList (k*8) (vs.drop ((k+1)*8))) ((m-1)*8) zRnL).take ((m-1)*8)=vs.take (k*8)++vs.drop ((k+1)*8):=by
    rw [hBz,List.append_assoc,List.take_append_of_le_length (by rw [List.length_take,hAl];omega),List.take_take,Nat.min_self,hA,hct]
    exact List.take_left' hnl
   have hfl:(kG (kG cu.toList (k*8) (vs.drop ((k+1)*8))) ((m-1)*8) zRnL).length=c*8:=by
    rw [hBz];simp only [List.length_append,List.length_take,List.length_drop,hAl,hz8];omega
   generalize kG (kG cu.toList (k*8) (vs.drop ((k+1)*8))) ((m-1)*8) zRnL=us at*
   have hon:Only [b] w ((w.drew.setCells b (k*8) (vs.drop ((k+1)*8))).setCells b ((m-1)*8) zRnL):=⟨by rw [s2.1,s1.1];rfl,by rw [s2.2.1,s1.2.1];rfl,by rw [s2.2.2.1,s1.2.2.1];rfl,by rw [s2.2.2.2,s1.2.2.2];exact Nat.le_refl _,fun q hq hqn=>by
    have hqb:q≠b:=by simpa using hqn
    rw [w4 q hqb,w2 q hqb];rfl⟩
   have t1:=hR.setO (g:=g) (ob:=.none) (S:=[]) rfl (Fresh.nil _) (by simp)
   have t2:=t1.world' (hon.below (fun s hs=>by simp at hs;omega) hB) fun q x hx=>by
    split at hx
    ·simp at hx
    ·rename_i hq
     exact hon.block x (hlt q x hx) fun h=>hR.dj q g hq x hx (by rw [hFg];exact h)
   refine ⟨_,.c (.sl 8 tRn (rows.take (k*8)++rows.drop ((k+1)*8))),_,[b],_,rfl,t2,?_,Fresh.one _ _ hbB,fun q x hx=>?_,rfl,rfl⟩
   ·refine ⟨(rows.take (k*8)++rows.drop ((k+1)*8)).map jmA,[b],[],⟨m-1,⟨?_,.inr ⟨b,c,us.toArray,rfl,Nat.zero_le _,w3,by omega,hc2,by simpa using hfl,?_⟩⟩,rfl⟩,d_mk _ _ hf2,by simp⟩
    ·rw [hvn,hnl]
    ·rw [hvn];simpa [hnl] using htk
   ·split
    ·simp
    ·rename_i hq
     intro hx';simp at hx;subst hx;exact hR.dj q g hq x hx' (by rw [hFg];simp)⟩
end Go.Proofs.YtmnpailnelmpiaaGreat
