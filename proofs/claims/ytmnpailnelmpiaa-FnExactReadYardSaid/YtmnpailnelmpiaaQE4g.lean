/- Parts. -/
import Derived.Test.YtmnpailnelmpiaaQE4f
set_option linter.unusedSimpArgs false
set_option linter.unusedVariables false
namespace Go.Proofs.Ytmnpailnelmpiaa
open Go.RowKit Go.Sort
section
variable {P:Program} {β B N:Nat} {w w0:World} {s:St} {a:Act} {F:Nat→List Nat} {o:Oper} {K:St→Prop}
theorem OpOk.of_goes (h:RelF B w0 N s a w F) (hd:∀k,o.dst=some k→k<N) (hg:Goes P o a w (jS B w fun av os=>K ((s.addO os).put o.dst av))):
 OpOk P o a w (fun a' w'=>∃s' F',RelF B w0 N s' a' w' F'∧K s'):=by
 intro next Q hk;refine hg next Q fun v w' ⟨av,os,S,h1,h2,h3,h4,h5⟩=>?_
 have hB:B≤w.heap.size:=Nat.le_trans h.hB h.below.size
 obtain ⟨F',h6⟩:=(h.world h4).addO h2 (h3.mono hB) fun g b hb hb'=>by
  have:=(h.ob g).lt b hb';have:=h3.2 b hb;omega
 exact hk _ _ ⟨_,_,h6.put h1 hd,h5⟩
def jrc (P:Program) (o:Oper) (i:I):Prop:=∀{β B N:Nat} {w w0:World} {s:St} {a:Act} {F:Nat→List Nat} {K:St→Prop} {g:Option (Nat×Bool)},
 RelF B w0 N s a w F→(∀k,o.dst=some k→k<N)→qb P β ⟨o.dst,g,i⟩ s K→OpOk P o a w (fun a' w'=>∃s' F',RelF B w0 N s' a' w' F'∧K s')
theorem jsN {c:Call} {i:I} (ho:o.op=.call c) (hc:jhl P c=some i):jrc P o i:=by
 intro β B N w w0 s a F K g h hd hr;unfold jhl at hc;split at hc
 ·rename_i x h1 h2
  split at hc
  ·rename_i x' h3 h4
   simp at hc;subst hc;obtain ⟨rt,hg⟩:=hr;exact .of_goes h hd (go_len (str:=true) h ho h1 h2 h3 h4 hg)
  ·rename_i e x' h3 h4
   simp at hc;subst hc;obtain ⟨rt,hg⟩:=hr;exact .of_goes h hd (go_len (str:=false) h ho h1 h2 ⟨_,h3⟩ h4 hg)
  ·simp at hc
 ·rename_i x y h1 h2
  split at hc
  ·rename_i t t' h3
   split at hc
   ·rename_i e e' h4 h5
    split at hc
    ·rename_i i' zs x' y' h6 h7 h8 h9
     split at hc
     ·rename_i h10
      simp at hc;subst hc;simp at h10;obtain ⟨h11,rfl⟩:=h10;exact jux h ho h1 h2 h3 h4 h6 h7 h11 h8 h9 hd hr
     ·simp at hc
    ·simp at hc
   ·rename_i e h4 h5
    split at hc
    ·rename_i i' x' y' h6 h7 h8 h9
     split at hc
     ·rename_i h10
      split at hc
      ·rename_i h11
       simp at hc;subst hc;simp at h11;exact jr3 h ho h1 h2 h3 h4 h5 h7 h10 h11.1 h11.2 h8 h9 hd hr
      ·simp at hc
     ·simp at hc
    ·simp at hc
   ·simp at hc
  ·simp at hc
 ·rename_i x h1 h2
  split at hc
  ·rename_i t h3
   split at hc
   ·rename_i e h4
    split at hc
    ·rename_i i' zs x' h6 h7 h8
     split at hc
     ·rename_i h10
      simp at hc;subst hc;exact juu h ho h1 h2 h3 h4 h6 h7 h10 h8 hr
     ·simp at hc
    ·simp at hc
   ·simp at hc
  ·simp at hc
 ·rename_i x y h1 h2
  split at hc
  ·rename_i x' y' h3 h4
   simp at hc;subst hc;obtain ⟨rt,hg⟩:=hr;exact .of_goes h hd (go_mm (mx:=true) h ho h1 h2 h3 h4 hg)
  ·simp at hc
 ·rename_i x y h1 h2
  split at hc
  ·rename_i x' y' h3 h4
   simp at hc;subst hc;obtain ⟨rt,hg⟩:=hr;exact .of_goes h hd (go_mm (mx:=false) h ho h1 h2 h3 h4 hg)
  ·simp at hc
 ·rename_i f h1
  split at hc
  ·rename_i fn l h3 h4
   split at hc
   ·simp at hc;subst hc
    rcases hr with ⟨rt,hg⟩|ht|ht
    ·exact .of_goes h hd (go_call h ho h1 h4 hg)
    ·exact jkw h (jan (cs:=[]) ht.1 ho h1 rfl rfl) (by simpa using jeA (caps:=[]) (cs:=[]) h h4 rfl) hd ht
    ·exact jut h (jan (cs:=[]) ht.1 ho h1 rfl rfl) (by simpa using jeA (caps:=[]) (cs:=[]) h h4 rfl) hd ht
   ·simp at hc
  ·simp at hc
 ·rename_i t h1
  cases h2:qJ c.args.toList with
  |none=>rw [h2] at hc;simp at hc
  |some l=>
   rw [h2] at hc;simp at hc;subst hc;rcases hr with ⟨rt,hg⟩|⟨f,caps,h0,ht⟩
   ·exact .of_goes h hd (go_callv h ho h1 h2 hg)
   ·have hvf:=h.sl t
    rw [show s.t t=.fn f caps from h0] at hvf
    obtain ⟨cs,k1,k2⟩:=hvf;exact jkw h (jan ht.1 ho h1 k1 rfl) (jeA h h2 k2) hd ht
 ·simp at hc
theorem jgb {lo hi:Option Operand} {n:Nat} {x:X} {i:I} (hc:(match lo.map jx,hi.map jx with
        |none,none=>some (I.sl n x none none)
        |some (some a),none=>some (.sl n x (some a) none)
        |none,some (some b)=>some (.sl n x none (some b))
        |some (some a),some (some b)=>some (.sl n x (some a) (some b))
        |_,_=>none)=some i):∃lo' hi',i=.sl n x lo' hi'∧((lo=none∧lo'=none)∨∃y y',lo=some y∧lo'=some y'∧jx y=some y')∧((hi=none∧hi'=none)∨∃y y',hi=some y∧hi'=some y'∧jx y=some y'):=by
 cases lo<;>cases hi<;>simp only [Option.map_none,Option.map_some] at hc
 ·simp at hc;subst hc;exact ⟨_,_,rfl,.inl ⟨rfl,rfl⟩,.inl ⟨rfl,rfl⟩⟩
 ·split at hc<;>simp_all
 ·split at hc<;>simp_all
 ·split at hc<;>simp_all
theorem jur {i:I} (hc:qP P o.op=some i):jrc P o i:=by
 intro β B N w w0 s a F K g h hd hr;cases ho:o.op with
 |move x=>
  simp only [ho,qP] at hc;cases h1:jx x with
  |none=>simp [h1] at hc
  |some x'=>
   simp [h1] at hc;subst hc;obtain ⟨rt,hg⟩:=hr;exact .of_goes h hd (go_mov h (.inl ho) h1 hg)
 |assign x=>
  simp only [ho,qP] at hc;cases h1:jx x with
  |none=>simp [h1] at hc
  |some x'=>
   simp [h1] at hc;subst hc;obtain ⟨rt,hg⟩:=hr;exact .of_goes h hd (go_mov h (.inr ho) h1 hg)
 |pick c x y=>
  simp only [ho,qP] at hc;split at hc
  ·rename_i c' x' y' h1 h2 h3
   simp at hc;subst hc;obtain ⟨rt,hg⟩:=hr;exact .of_goes h hd (go_pick h ho h1 h2 h3 hg)
  ·simp at hc
 |alloc e=>
  simp only [ho,qP] at hc;cases h1:qm P e with
  |none=>simp [h1] at hc
  |some z=>
   simp [h1] at hc;subst hc;obtain ⟨rt,hg⟩:=hr;exact .of_goes h hd (go_alloc h ho h1 hg)
 |box e x=>
  simp only [ho,qP] at hc;split at hc
  ·rename_i n x' h1 h2
   simp at hc;subst hc;exact juw h ho h2 hd hr
  ·simp at hc
 |build t ps=>
  simp only [ho,qP] at hc;split at hc
  ·rename_i fs z h1 h2
   split at hc
   ·simp at hc
   ·rename_i h3
    simp only [Option.map_eq_some_iff] at hc;obtain ⟨ps',h4,rfl⟩:=hc;obtain ⟨rt,hg⟩:=hr;exact .of_goes h hd (go_bld h ho h1 h2 (by cases hq:(fs.toList.all fun f=>(P.info? f.type).isSome) with|true=>rfl|false=>exact absurd (by rw [hq];rfl) h3) h4 hg)
  ·simp at hc
 |buildSlice t n ps=>
  simp only [ho,qP] at hc;split at hc
  ·rename_i e h1
   split at hc
   ·rename_i size h2
    split at hc
    ·rename_i h3
     simp only [Option.map_eq_some_iff] at hc;obtain ⟨ps',h4,rfl⟩:=hc;simp only [Bool.and_eq_true,decide_eq_true_eq,beq_iff_eq] at h3;obtain ⟨⟨⟨h5,h6⟩,h7⟩,h8⟩:=h3;obtain ⟨z,hz⟩:=Option.isSome_iff_exists.1 h6;exact juv h ho h1 h2 h5 hz h7 h8 h4 hd hr
    ·simp at hc
   ·simp at hc
  ·simp at hc
 |load t x=>
  simp only [ho,qP] at hc;split at hc
  ·rename_i fs n x' h1 h2 h3
   simp at hc;subst hc;obtain ⟨rt,hg⟩:=hr;exact .of_goes h hd (go_ld h ho h1 rfl h2 h3 hg)
  ·simp at hc
  ·rename_i dsc x' hn1 hn2 h1 h2 h3
   simp at hc;subst hc;obtain ⟨rt,hg⟩:=hr;refine .of_goes h hd (go_ld h ho h1 ?_ h2 h3 hg);cases dsc<;>simp_all [jvg]
  ·simp at hc
 |store t x y=>
  simp only [ho,qP] at hc;split at hc
  ·rename_i n x' y' h1 h2 h3
   simp at hc;subst hc;exact ok_st h ho h1 h2 h3 hr
  ·simp at hc
 |binOp op t x y t'=>
  simp only [ho,qP] at hc;split at hc
  ·rename_i x' y' h1 h2
   split at hc
   ·rename_i h3
    split at hc
    ·simp at hc;subst hc
     obtain ⟨rt,hg⟩:=hr;exact .of_goes h hd (go_beq (neg:=false) h ho h3 h1 h2 hg)
    ·simp at hc;subst hc
     obtain ⟨rt,hg⟩:=hr;exact .of_goes h hd (go_beq (neg:=true) h ho h3 h1 h2 hg)
    ·simp at hc
   ·simp at hc;subst hc
    obtain ⟨rt,hg⟩:=hr;exact .of_goes h hd (go_bin h ho h1 h2 hg)
   ·simp at hc
  ·simp at hc
 |unOp op t x=>
  simp only [ho,qP] at hc;cases h1:jx x with
  |none=>simp [h1] at hc
  |some x'=>
   simp [h1] at hc;subst hc;obtain ⟨rt,hg⟩:=hr;exact .of_goes h hd (go_un h ho h1 hg)
 |convert t t' x=>
  simp only [ho,qP] at hc;split at hc
  ·rename_i k0 k x' h1 h2 h3
   simp at hc;subst hc;obtain ⟨rt,hg⟩:=hr;exact .of_goes h hd (go_num h ho h1 h2 h3 hg)
  ·rename_i e x' h1 h2 h3
   split at hc
   ·rename_i h4
    simp at hc;subst hc;obtain ⟨rt,hg⟩:=hr;exact .of_goes h hd (go_text h ho h1 h4 h2 h3 hg)
   ·simp at hc
  ·simp at hc
 |makeSlice t l c=>
  simp only [ho,qP] at hc;split at hc
  ·rename_i e l' c' h1 h2 h3
   split at hc
   ·rename_i i' z h4 h5
    split at hc
    ·rename_i h6
     simp at hc;subst hc;obtain ⟨rt,hg⟩:=hr;exact .of_goes h hd (go_mks h ho h1 h4 h5 h6 h2 h3 hg)
    ·simp at hc
   ·simp at hc
  ·simp at hc
 |slice t x lo hi m=>
  cases m with
  |some m=>simp [ho,qP] at hc
  |none=>
   simp only [ho,qP] at hc;split at hc
   ·rename_i e x' h1 h2
    split at hc
    ·rename_i n h3
     obtain ⟨lo',hi',rfl,h4,h5⟩:=jgb hc;obtain ⟨rt,hg⟩:=hr;exact .of_goes h hd (go_sl_ro h ho h1 h3 h2 h4 h5 hg)
    ·simp at hc
   ·rename_i x' h1 h2
    obtain ⟨lo',hi',rfl,h4,h5⟩:=jgb hc;obtain ⟨rt,hg⟩:=hr;exact .of_goes h hd (go_sl_str h ho h1 h2 h4 h5 hg)
   ·simp at hc
 |nilCheck x=>
  simp only [ho,qP,Option.map_eq_some_iff] at hc;obtain ⟨x',h1,rfl⟩:=hc;obtain ⟨rt,hg⟩:=hr;exact .of_goes h hd (go_nc h ho h1 hg)
 |fieldAddr t x f=>
  simp only [ho,qP] at hc;split at hc
  ·rename_i fs x' h1 h2
   split at hc
   ·rename_i fd h3
    split at hc
    ·rename_i n h4
     simp at hc;subst hc;obtain ⟨rt,hg⟩:=hr;exact .of_goes h hd (go_fa h ho h1 h3 h4 h2 hg)
    ·simp at hc
   ·simp at hc
  ·simp at hc
 |indexAddr t x j=>
  simp only [ho,qP] at hc;split at hc
  ·rename_i e x' j' h1 h2 h3
   split at hc
   ·rename_i n h4
    simp at hc;subst hc;obtain ⟨rt,hg⟩:=hr;exact .of_goes h hd (go_ia h ho h1 h4 h2 h3 hg)
   ·simp at hc
  ·simp at hc
 |index t x j=>
  simp only [ho,qP] at hc;split at hc
  ·rename_i x' j' h1 h2 h3
   simp at hc;subst hc;obtain ⟨rt,hg⟩:=hr;exact .of_goes h hd (go_sidx h ho h1 h2 h3 hg)
  ·simp at hc
 |extract x j=>
  simp only [ho,qP] at hc;cases h1:jx x with
  |none=>simp [h1] at hc
  |some x'=>
   simp [h1] at hc;subst hc;obtain ⟨rt,hg⟩:=hr;exact .of_goes h hd (go_ext h ho h1 hg)
 |makeFunc fn first caps=>
  cases fn with
  |func f=>
   simp only [ho,qP] at hc;split at hc
   ·rename_i h1
    cases h2:qJ caps.toList with
    |none=>simp [h2] at hc
    |some l=>
     simp [h2] at hc;subst hc;obtain ⟨rt,hg⟩:=hr;exact .of_goes h hd (go_mkf h ho (by simpa using h1) h2 hg)
   ·simp at hc
  |_=>simp [ho,qP] at hc
 |call c=>simp only [ho,qP] at hc;exact jsN ho hc h hd hr
 |_=>simp [ho,qP] at hc
def jj4 (N:Nat) (ops:Array Oper) (g:Option (Nat×Bool)) (g':Option (Nat×Bool)):Prop:=match g with
 |none=>g'=none
 |some (j,want)=>∃t,(ops[j]?).bind (·.dst)=some t∧t<N∧g'=some (t,want)
theorem jeo (h:RelF B w0 N s a w F) {ops:Array Oper} {g':Option (Nat×Bool)} {b:Bool} (hg:jj4 N ops o.guard g') (hw:qp s g'=some b):
 Region.wanted o (yielded ops a.tmps)=b:=by
 unfold Region.wanted;cases ho:o.guard with
 |none=>rw [ho] at hg;simp only [jj4] at hg;subst hg;simp [qp] at hw;simpa using hw
 |some p=>
  obtain ⟨j,want⟩:=p;rw [ho] at hg;obtain ⟨t,h1,h2,rfl⟩:=hg;have hv:=h.sl t;have hlt:t<a.tmps.size:=by rw [h.sz];exact h2
  have he:a.tmps.getD t undef=a.tmps[t]:=by simp [Array.getD_eq_getD_getElem?,hlt]
  rw [he] at hv;simp only [qp] at hw;simp only [yielded,h1,Option.bind_some,Array.getElem?_eq_getElem hlt];split at hw
  ·rename_i b' hb
   rw [hb] at hv;rw [show a.tmps[t]=.bool b' from hv]
   simp at hw;subst hw;cases b'<;>cases want<;>rfl
  ·rename_i u hu hb
   rw [hb] at hv;have hv':a.tmps[t]=u:=hv;rw [hv'];simp at hw;subst hw;cases u<;>simp_all
  ·simp at hw
theorem jkQ {ops:Array Oper} {i:Ins} (hc:jqw P N ops o=some i):i.d=o.dst∧qP P o.op=some i.i∧(∀k,o.dst=some k→k<N)∧jj4 N ops o.guard i.g:=by
 unfold jqw at hc;split at hc
 ·rename_i j h1 h2
  have hd:∀k,o.dst=some k→k<N:=fun k hk=>by rw [hk] at h2;simpa using h2
  cases hg:o.guard with
  |none=>rw [hg] at hc;simp at hc;subst hc;exact ⟨rfl,h1,hd,rfl⟩
  |some p=>
   obtain ⟨k,want⟩:=p;rw [hg] at hc;simp only at hc;split at hc
   ·rename_i t ht
    split at hc
    ·rename_i hlt
     simp at hc;subst hc;exact ⟨rfl,h1,hd,t,ht,hlt,rfl⟩
    ·simp at hc
   ·simp at hc
 ·simp at hc
theorem jjy {ops:Array Oper} {Q:Exit→Act→World→Prop} (hQ:∀s a w F,RelF B w0 N s a w F→K s→Q .normal a w):∀{l:List Oper} {is:List Ins} {s:St} {a:Act} {w:World} {F:Nat→List Nat},
 jfm P N ops l=some is→RelF B w0 N s a w F→jcY P β is s K→wpList P ops Q l a w
 |[],is,s,a,w,F,hc,h,hr=>by simp [jfm] at hc;subst hc;exact hQ _ _ _ _ h hr
 |o::l,is,s,a,w,F,hc,h,hr=>by
  simp only [jfm] at hc;split at hc
  ·rename_i i r h1 h2
   simp at hc;subst hc;obtain ⟨e1,e2,e3,e4⟩:=jkQ h1;simp only [jcY] at hr;unfold wpList;split at hr
   ·rename_i hw
    rw [if_pos (jeo h e4 hw)];refine .inl (jur e2 (g:=i.g) (K:=fun s'=>jcY P β r s' K) h e3 (by rw [←e1];exact hr) _ _ fun a' w' ⟨s',F',h3,h4⟩=>jjy hQ h2 h3 h4)
   ·rename_i hw
    rw [if_neg (by rw [jeo h e4 hw];simp)]
    rw [e1] at hr;exact jjy hQ h2 (h.put (u:=undef) (v:=.c (.v undef)) rfl e3) hr
   ·exact hr.elim
  ·simp at hc
end
end Go.Proofs.Ytmnpailnelmpiaa
