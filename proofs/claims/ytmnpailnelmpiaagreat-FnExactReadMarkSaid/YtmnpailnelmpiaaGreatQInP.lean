/- Parts. -/
import Derived.Test.YtmnpailnelmpiaaGreatQSub
set_option linter.unusedSimpArgs false
set_option linter.unusedVariables false
namespace Go.Proofs.YtmnpailnelmpiaaGreat
open Go.RowKit Go.Sort
section
variable {P:Program} {β N B:Nat} {s:St} {K:St→Prop} {d:Option Nat} {gd:Option (Nat×Bool)} {a:Act} {w w0:World} {F:Nat→List Nat}
def jDs (o' o:Nat→Ob):Prop:=∀g,o' g=o g∨o' g=.none
open Classical in
theorem RelF.less (h:RelF B w0 N s a w F) {o':Nat→Ob} (ho:jDs o' s.o):∃F':Nat→List Nat,RelF B w0 N ⟨s.t,o'⟩ a w F'∧∀g,∀b∈F' g,b∈F g:=by
 have hs:∀g,∀b∈(if o' g=s.o g then F g else []),b∈F g:=fun g b hb=>by
  split at hb
  ·exact hb
  ·simp at hb
 refine ⟨fun g=>if o' g=s.o g then F g else [],⟨h.below,h.hB,h.df,h.sz,h.sl,fun g=>?_,fun g=>?_,fun g g' hne b hb hb'=>h.dj g g' hne b (hs g b hb) (hs g' b hb')⟩,hs⟩
 ·show ORel B w (o' g) _
  by_cases e:o' g=s.o g
  ·rw [if_pos e,e];exact h.ob g
  ·rw [if_neg e,(ho g).resolve_left e];rfl
 ·by_cases e:o' g=s.o g
  ·rw [if_pos e];exact h.fr g
  ·rw [if_neg e];exact Fresh.nil _
def jGh (P:Program) (f:FuncId) (args:List AV) (o:Nat→Ob) (A:AV) (o':Nat→Ob):Prop:=Inl P f args o fun av o2=>av=A∧o2=o'
theorem jwP {f:FuncId} {args:List AV} {o o':Nat→Ob} {A:AV} (h:Inl P f args o fun av o2=>av=A∧jDs o' o2):jGh P f args o A o':=
 ⟨h.1,fun B w F xs h1 h2=>(h.2 B w F xs h1 h2).mono fun e w' ⟨v,av,o2,F',k1,k2,k3,k4,k5⟩=>by
  obtain ⟨F2,r,_⟩:=k2.less (o':=o') k5;exact ⟨v,av,o',F2,k1,r,k3,k4,rfl⟩⟩
theorem jP {f:Nat} {args:List X} {vs:List AV} {A:AV} {o':Nat→Ob} (h:jGh P f vs s.o A o') (ha:args.map s.ev=vs) (hk:K (St.put ⟨s.t,o'⟩ d A)):vp P β ⟨d,gd,.call f args⟩ s K:=by
 subst ha;exact jmc h fun av o2 ⟨h1,h2⟩=>by subst h1 h2;exact hk
theorem qk {g M:Nat} (h:g<M) (n:Nat) (hn:M≤n):(g=n)=False:=eq_false (by omega)
end
def jF9 (o:Nat→Ob) (g:Nat) (ob:Ob):Nat→Ob:=fun k=>if k=g then ob else o k
theorem jDC (o:Nat→Ob) (g:Nat) (ob:Ob) (k:Nat):jF9 o g ob k=if k=g then ob else o k:=(rfl)
theorem jdb {g:Nat} {o o2:Nat→Ob} {ob:Ob} (h1:o2 g=ob) (h2:∀k,k≠g→o2 k=o k):jDs (jF9 o g ob) o2:=fun k=>by
 rw [jDC];by_cases e:k=g
 ·rw [if_pos e,e];exact .inl h1.symm
 ·rw [if_neg e];exact .inl (h2 k e).symm
attribute [go_sem] jDC
def St.ofB (T:List (Nat×AV)) (O:List (Nat×Ob)) (M:Nat) (ob:Nat→Ob):St:=⟨lkT T,fun j=>if j<M then ob j else lkO O j⟩
theorem ofB_t (T:List (Nat×AV)) (O:List (Nat×Ob)) (M:Nat) (ob:Nat→Ob) (n:Nat):(St.ofB T O M ob).t n=lkT T n:=(rfl)
theorem ofB_o (T:List (Nat×AV)) (O:List (Nat×Ob)) (M:Nat) (ob:Nat→Ob) (n:Nat):(St.ofB T O M ob).o n=if n<M then ob n else lkO O n:=(rfl)
attribute [go_sem] ofB_t ofB_o
theorem jcM {s:St} {T:List (Nat×AV)} {O:List (Nat×Ob)} {M:Nat} {ob:Nat→Ob} (ks:List (Option Nat)) (h:jAW s T∧jsp s ks O) (hf:∀j,j<M→s.o j=ob j) (hk:∀k∈js2 ks,M≤k) (hn:jlj (js2 ks)=true:=by decide):Wk s (St.ofB T O M ob):=fun B N w0 w a F hr=>by
 have hob:=jwW hr.ob h.2;have hdj:=jzM (ks:=ks) (O:=O) hr.dj (jcm hn);refine ⟨fun j=>if j<M then F j else fp F ks O j,⟨hr.below,hr.hB,hr.df,hr.sz,jzP hr.sl h.1,fun g=>?_,fun g=>?_,fun g g' hne x hx hx'=>?_⟩,fun g x hx=>?_⟩
 ·by_cases c:g<M
  ·simp only [St.ofB,if_pos c];rw [←hf g c];exact hr.ob g
  ·simp only [St.ofB,if_neg c];exact hob g
 ·by_cases c:g<M
  ·simp only [if_pos c];exact hr.fr g
  ·simp only [if_neg c];exact jzL hr.fr ks O g
 ·by_cases c:g<M
  ·simp only [if_pos c] at hx
   by_cases c':g'<M
   ·simp only [if_pos c'] at hx';exact hr.dj g g' hne x hx hx'
   ·simp only [if_neg c'] at hx'
    obtain ⟨k,h1,h2⟩:=jgf hx';exact hr.dj g k (by have:=hk k h1;omega) x hx h2
  ·simp only [if_neg c] at hx
   by_cases c':g'<M
   ·simp only [if_pos c'] at hx'
    obtain ⟨k,h1,h2⟩:=jgf hx;exact hr.dj k g' (by have:=hk k h1;omega) x h2 hx'
   ·simp only [if_neg c'] at hx';exact hdj g g' hne x hx hx'
 ·by_cases c:g<M
  ·simp only [if_pos c] at hx;exact ⟨g,hx⟩
  ·simp only [if_neg c] at hx
   obtain ⟨k,_,h2⟩:=jgf hx;exact ⟨k,h2⟩
end Go.Proofs.YtmnpailnelmpiaaGreat
