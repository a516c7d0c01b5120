/- Parts. -/
import Derived.Test.YtmnpailnelmpiaaQReadV
set_option linter.unusedSimpArgs false
set_option linter.unusedVariables false
set_option maxHeartbeats 4000000
set_option maxRecDepth 100000
namespace Go.Proofs.Ytmnpailnelmpiaa
open Go.RowKit Go.Sort Go.BigFrame
section
variable {P:Program} {β:Nat} {s:St} {K:St→Prop} {d:Option Nat} {g:Option (Nat×Bool)}
theorem Inl.weak {f:FuncId} {args:List AV} {o:Nat→Ob} {R R':AV→(Nat→Ob)→Prop} (h:Inl P f args o R) (hk:∀av o',R av o'→R' av o'):Inl P f args o R':=
 ⟨h.1,fun B w F xs h1 h2=>(h.2 B w F xs h1 h2).mono fun e w' ⟨v,av,o',F',k1,k2,k3,k4⟩=>⟨v,av,o',F',k1,k2,k3,hk _ _ k4⟩⟩
theorem jge {f:Nat} {args:List X} {R:AV→(Nat→Ob)→Prop} (h:Inl P f (args.map s.ev) s.o R) (hk:∀av o',R av o'→K (St.put ⟨s.t,o'⟩ d av)):qb P β ⟨d,g,.call f args⟩ s K:=qY (h.weak hk)
theorem vq {f:Nat} {args:List X} {vs:List AV} {R:AV→(Nat→Ob)→Prop} (ha:args.map s.ev=vs) (h:Inl P f vs s.o R) (hk:∀av o',R av o'→K (St.put ⟨s.t,o'⟩ d av)):qb P β ⟨d,g,.call f args⟩ s K:=by subst ha;exact jge h hk
end
section
variable {P:Program} {β N B:Nat} {s:St} {K:St→Prop} {d:Option Nat} {gd:Option (Nat×Bool)} {a:Act} {w w0:World} {F:Nat→List Nat}
def js6 (o' o:Nat→Ob):Prop:=∀g,o' g=o g∨o' g=.none
open Classical in
theorem RelF.less (h:RelF B w0 N s a w F) {o':Nat→Ob} (ho:js6 o' s.o):∃F':Nat→List Nat,RelF B w0 N ⟨s.t,o'⟩ a w F'∧∀g,∀b∈F' g,b∈F g:=by
 have hs:∀g,∀b∈(if o' g=s.o g then F g else []),b∈F g:=fun g b hb=>by
  split at hb
  ·exact hb
  ·simp at hb
 refine ⟨fun g=>if o' g=s.o g then F g else [],⟨h.below,h.hB,h.df,h.sz,h.sl,fun g=>?_,fun g=>?_,fun g g' hne b hb hb'=>h.dj g g' hne b (hs g b hb) (hs g' b hb')⟩,hs⟩
 ·show ORel B w (o' g) _
  by_cases e:o' g=s.o g
  ·rw [if_pos e,e];exact h.ob g
  ·rw [if_neg e,(ho g).resolve_left e];rfl
 ·by_cases e:o' g=s.o g
  ·rw [if_pos e];exact h.fr g
  ·rw [if_neg e];exact Fresh.nil _
def jvv (P:Program) (f:FuncId) (args:List AV) (o:Nat→Ob) (A:AV) (o':Nat→Ob):Prop:=Inl P f args o fun av o2=>av=A∧o2=o'
theorem jnY {f:FuncId} {args:List AV} {o o':Nat→Ob} {A:AV} (h:Inl P f args o fun av o2=>av=A∧js6 o' o2):jvv P f args o A o':=
 ⟨h.1,fun B w F xs h1 h2=>(h.2 B w F xs h1 h2).mono fun e w' ⟨v,av,o2,F',k1,k2,k3,k4,k5⟩=>by
  obtain ⟨F2,r,_⟩:=k2.less (o':=o') k5;exact ⟨v,av,o',F2,k1,r,k3,k4,rfl⟩⟩
theorem jl {f:Nat} {args:List X} {vs:List AV} {A:AV} {o':Nat→Ob} (h:jvv P f vs s.o A o') (ha:args.map s.ev=vs) (hk:K (St.put ⟨s.t,o'⟩ d A)):qb P β ⟨d,gd,.call f args⟩ s K:=by
 subst ha;exact jge h fun av o2 ⟨h1,h2⟩=>by subst h1 h2;exact hk
theorem ko {g M:Nat} (h:g<M) (n:Nat) (hn:M≤n):(g=n)=False:=eq_false (by omega)
end
def jvl (o:Nat→Ob) (g:Nat) (ob:Ob):Nat→Ob:=fun k=>if k=g then ob else o k
theorem jti (o:Nat→Ob) (g:Nat) (ob:Ob) (k:Nat):jvl o g ob k=if k=g then ob else o k:=(rfl)
theorem jau {g:Nat} {o o2:Nat→Ob} {ob:Ob} (h1:o2 g=ob) (h2:∀k,k≠g→o2 k=o k):js6 (jvl o g ob) o2:=fun k=>by
 rw [jti];by_cases e:k=g
 ·rw [if_pos e,e];exact .inl h1.symm
 ·rw [if_neg e];exact .inl (h2 k e).symm
attribute [go_sem] jti
def St.ofB (T:List (Nat×AV)) (O:List (Nat×Ob)) (M:Nat) (ob:Nat→Ob):St:=⟨lkT T,fun j=>if j<M then ob j else lkO O j⟩
theorem ofB_t (T:List (Nat×AV)) (O:List (Nat×Ob)) (M:Nat) (ob:Nat→Ob) (n:Nat):(St.ofB T O M ob).t n=lkT T n:=(rfl)
theorem ofB_o (T:List (Nat×AV)) (O:List (Nat×Ob)) (M:Nat) (ob:Nat→Ob) (n:Nat):(St.ofB T O M ob).o n=if n<M then ob n else lkO O n:=(rfl)
attribute [go_sem] ofB_t ofB_o
theorem jah {s:St} {T:List (Nat×AV)} {O:List (Nat×Ob)} {M:Nat} {ob:Nat→Ob} (ks:List (Option Nat)) (h:jsH s T∧joX s ks O) (hf:∀j,j<M→s.o j=ob j) (hk:∀k∈joR ks,M≤k) (hn:jiM (joR ks)=true:=by decide):Wk s (St.ofB T O M ob):=fun B N w0 w a F hr=>by
 have hob:=jqe hr.ob h.2;have hdj:=jsD (ks:=ks) (O:=O) hr.dj (jbX hn);refine ⟨fun j=>if j<M then F j else fp F ks O j,⟨hr.below,hr.hB,hr.df,hr.sz,jsG hr.sl h.1,fun g=>?_,fun g=>?_,fun g g' hne x hx hx'=>?_⟩,fun g x hx=>?_⟩
 ·by_cases c:g<M
  ·simp only [St.ofB,if_pos c];rw [←hf g c];exact hr.ob g
  ·simp only [St.ofB,if_neg c];exact hob g
 ·by_cases c:g<M
  ·simp only [if_pos c];exact hr.fr g
  ·simp only [if_neg c];exact jsC hr.fr ks O g
 ·by_cases c:g<M
  ·simp only [if_pos c] at hx
   by_cases c':g'<M
   ·simp only [if_pos c'] at hx';exact hr.dj g g' hne x hx hx'
   ·simp only [if_neg c'] at hx'
    obtain ⟨k,h1,h2⟩:=jgt hx';exact hr.dj g k (by have:=hk k h1;omega) x hx h2
  ·simp only [if_neg c] at hx
   by_cases c':g'<M
   ·simp only [if_pos c'] at hx'
    obtain ⟨k,h1,h2⟩:=jgt hx;exact hr.dj k g' (by have:=hk k h1;omega) x h2 hx'
   ·simp only [if_neg c'] at hx';exact hdj g g' hne x hx hx'
 ·by_cases c:g<M
  ·simp only [if_pos c] at hx;exact ⟨g,hx⟩
  ·simp only [if_neg c] at hx
   obtain ⟨k,_,h2⟩:=jgt hx;exact ⟨k,h2⟩
theorem jif:∀L:List Int,(L.flatMap fun n=>[iv n]).length=L.length
 |[]=>rfl
 |a::L=>by rw [List.flatMap_cons,List.length_append,jif L];simp;omega
theorem juZ {s:St} (k c:Nat) (p:List Nat) (x:Value) (sz lo n:Nat):(∃dd,Is s (.hs k c p x sz lo n) dd)=jh8 ((s.o k).own c) fun d0 η=>η p=x∧jkF (D.get p d0) fun dd=>(dd.isSl=true∧dd.size=sz∧0<sz∧lo+n≤dd.len)∧True:=by
 have:=is_hs (s:=s) k c p x sz lo n fun _=>True
 rw [←this];simp only [and_true]
def vh:C:=iS [iA 2 (iN 0)] (.seq (iS [iA 4 (iM 0),iA 5 (iF 0 4),iA 6 (iF 0 5),iA 7 (iL 6),iA 8 (iG 7),iA 9 (iQ .eql 3 8 0)] (iD 9 (iS [iA 10 (iM 0),iA 11 (iF 0 10),iA 12 (iF 1 11),iC (.st 1 [none] (.t 12) (.c (.bool true)))] (iS [iA 2 (iN 0)] .ret)) .skip)) (iS [iA 13 (iM 0),iA 14 (iF 0 13),iA 15 (iF 0 14),iA 16 (iL 15),iA 17 (.ia 1 (.t 16) (.c (.int .i64 0))),iA 18 (iL 17),iA 3 (iM 18)] (iS [iA 19 (iM 0),iA 20 (iM 0),iA 21 (iF 0 20),iA 22 (iF 0 21),iA 23 (iL 22),iA 24 (.sl 1 (.t 23) (some (.c (.int .i64 1))) none),iA 25 (iF 0 19),iA 26 (iF 0 25),iC (.st 1 [some (1,3)] (.t 26) (.t 24))] (iS [iA 27 (iM 3),iA 2 (iM 27)] .ret))))
theorem zO:fnC Try.prog Try.f32=some (vh,[.t 2],28):=by kernel_rfl
def kn (b ty:Nat) (η:jm) (L:List Int) (s:Nat×Bool):Ob:=.box b ty [.a (.hs 87 0 [] (η []) 1 s.1 (L.length-s.1)),.a (.v (.bool s.2))]
theorem jA (L:List Int) (s:Nat×Bool) (b:Nat) (η:jm) (o:Nat→Ob) (hs:s.1≤L.length) (ho:o 88=kn b 63 η L s) (hL:o 87=.loose (jj L) η):
 jvv Try.prog 32 [Bx 88 b] o (Ni (kE L s).1) (jvl o 88 (kn b 63 η L (kE L s).2)):=by
 obtain ⟨k,bad⟩:=s;dsimp only at hs;refine jnY ?_;refine zk (β:=8000000) Try.func32 zO (by simp) ?_
 unfold vh;unfold kn at ho;by_cases hlt:k<L.length
 ·obtain ⟨x,hx⟩:=jg hlt
  have he:(((L.length-k:Nat):Int)==0)=false:=by simp;omega
  have h1:1≤L.length-k:=by omega
  have hr:kE L (k,bad)=(x,(k+1,bad)):=by simp only [kE,hx]
  have hpos:0<L.length-k:=by omega
  have hkl:k+(L.length-k)≤L.length:=by omega
  have hk1:k+1≤L.length:=by omega
  have hat:=jh hx;have hfl:(L.flatMap fun n=>[iv n]).length=L.length:=jif L
  rw [Nat.mul_one] at hat;have hsub:L.length-k-1=L.length-(k+1):=by omega
  simp only [go_sem,ho,hL,he,h1,juZ,hpos,hkl,hk1,Nat.add_zero,hat,Nat.mul_one,hfl,Nat.le_refl,hsub,jmF,jkc];rw [hr];refine ⟨rfl,jau (by simp only [go_sem,kn]) fun g g2=>?_⟩
  simp only [go_sem,eq_false g2,if_false]
 ·have hk:L.length-k=0:=by omega
  have he:(((0:Nat):Int)==0)=true:=rfl;have hr:kE L (k,bad)=(0,(k,true)):=by simp only [kE,List.getElem?_eq_none (by omega:L.length≤k)]
  have hkl:k+0≤L.length:=by omega
  rw [hk] at ho;simp only [go_sem,ho,hL,he,juZ,hkl];rw [hr];refine ⟨rfl,jau (by simp only [go_sem,kn,hk]) fun g g2=>?_⟩
  simp only [go_sem,eq_false g2,if_false]
def jcF:C:=iS [iA 2 (iN 0)] (.seq (iS [iA 5 (iM 0),iA 6 (iF 0 5),iA 7 (iF 2 6),iA 8 (iL 7)] (iD 8 (iS [iA 2 (iN 0)] .ret) .skip)) (.seq (.dreg (T.pure 0 (iA 10 (iM 0)) (T.pure 1 (iA 11 (iF 0 10)) (T.pure 2 (iA 12 (iF 0 11)) (T.pure 3 (iA 13 (iL 12)) (T.pure 4 (iA 14 (iM 0)) (T.pure 5 (iA 15 (iF 0 14)) (T.pure 6 (iA 16 (iF 1 15)) (T.pure 7 (iA 17 (iL 16)) (T.alt (iA 18 (.call 64 [.t 13,.t 17])) [] (T.pure 9 (iA 9 (iM 18)) (T.pure 10 (iA 19 (iE 9 0)) (T.pure 11 (iA 20 (iE 9 1)) (T.pure 12 (iA 3 (iM 19)) (T.pure 13 (iA 4 (iM 20)) T.done))))) T.stop)))))))))) (.seq (iS [iA 21 (iM 4),iA 22 (iQ .lss 3 21 0)] (iD 22 (iS [iA 23 (iM 0),iA 24 (iF 0 23),iA 25 (iF 2 24),iC (.st 1 [none] (.t 25) (.c (.bool true)))] (iS [iA 2 (iN 0)] .ret)) .skip)) (iS [iA 26 (iM 0),iA 27 (iM 4),iA 28 (iF 0 26),iA 29 (iF 1 28),iC (.st 1 [none] (.t 29) (.t 27))] (iS [iA 30 (iM 3),iA 2 (iM 30)] .ret)))))
theorem jd8:fnC Try.prog Try.f28=some (jcF,[.t 2],31):=by kernel_rfl
def jK (b ty:Nat) (t:ByteArray) (s:Int×Bool):Ob:=.box b ty [.a (.v (.string t)),.a (.v (.int .i64 s.1)),.a (.v (.bool s.2))]
theorem jN (t:ByteArray) (ht:t.size≤1000000000) (s:Int×Bool) (b:Nat) (o:Nat→Ob) (hs:s.1≤1000000000) (ho:o 89=jK b 56 t s):
 jvv Try.prog 28 [Bx 89 b] o (Ni (kh t s).1) (jvl o 89 (jK b 56 t (kh t s).2)):=by
 obtain ⟨k,bad⟩:=s;dsimp only at hs;refine jnY ?_;refine zk (β:=8000000) Try.func28 jd8 (by simp) ?_
 unfold jcF;unfold jK at ho;dsimp only at ho;cases bad;rotate_left
 ·have hr:kh t (k,true)=(0,(k,true)):=by simp only [kh,if_true]
  simp only [go_sem,ho];rw [hr];refine ⟨rfl,jau (by simp only [go_sem,jK,ho]) fun g g2=>?_⟩
  simp only [go_sem,eq_false g2,if_false]
 ·simp only [go_sem,ho]
  refine jb (jdJ t k ht hs) (by simp only [go_sem,ho]) fun η=>?_
  simp only [go_sem,ho];by_cases hneg:(vAt t k).2<0
  ·have hr:kh t (k,false)=(0,(k,true)):=by simp only [kh,Bool.false_eq_true,if_false,if_pos hneg]
   simp only [go_sem,hneg,ho];rw [hr];refine ⟨rfl,jau (by simp only [go_sem,jK]) fun g g2=>?_⟩
   simp only [go_sem,eq_false g2,if_false]
  ·have hr:kh t (k,false)=((vAt t k).1,((vAt t k).2,false)):=by simp only [kh,Bool.false_eq_true,if_false,if_neg hneg]
   simp only [go_sem,hneg,ho];rw [hr];refine ⟨rfl,jau (by simp only [go_sem,jK]) fun g g2=>?_⟩
   simp only [go_sem,eq_false g2,if_false]
end Go.Proofs.Ytmnpailnelmpiaa
