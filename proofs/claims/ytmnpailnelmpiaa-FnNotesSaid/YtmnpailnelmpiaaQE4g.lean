/- Parts. -/
import Derived.Test.YtmnpailnelmpiaaQCutN
set_option linter.unusedSimpArgs false
set_option linter.unusedVariables false
namespace Go.Proofs.Ytmnpailnelmpiaa
open Go.RowKit Go.Sort
section
variable {P:Program} {β B N:Nat} {w w0:World} {s:St} {a:Act} {F:Nat→List Nat} {o:Oper} {K:St→Prop}
theorem OpOk.of_goes (h:RelF B w0 N s a w F) (hd:∀k,o.dst=some k→k<N) (hg:Goes P o a w (ka B w fun av os=>K ((s.addO os).put o.dst av))):
 OpOk P o a w (fun a' w'=>∃s' F',RelF B w0 N s' a' w' F'∧K s'):=by
 intro next Q hk;refine hg next Q fun v w' ⟨av,os,S,h1,h2,h3,h4,h5⟩=>?_
 have hB:B≤w.heap.size:=Nat.le_trans h.hB h.below.size
 obtain ⟨F',h6⟩:=(h.world h4).addO h2 (h3.mono hB) fun g b hb hb'=>by
  have:=(h.ob g).lt b hb';have:=h3.2 b hb;omega
 exact hk _ _ ⟨_,_,h6.put h1 hd,h5⟩
def jwc (P:Program) (o:Oper) (i:I):Prop:=∀{β B N:Nat} {w w0:World} {s:St} {a:Act} {F:Nat→List Nat} {K:St→Prop} {g:Option (Nat×Bool)},
 RelF B w0 N s a w F→(∀k,o.dst=some k→k<N)→qC P β ⟨o.dst,g,i⟩ s K→OpOk P o a w (fun a' w'=>∃s' F',RelF B w0 N s' a' w' F'∧K s')
theorem jxR {c:Call} {i:I} (ho:o.op=.call c) (hc:jky P c=some i):jwc P o i:=by
 intro β B N w w0 s a F K g h hd hr;unfold jky at hc;split at hc
 ·rename_i x h1 h2
  split at hc
  ·rename_i x' h3 h4
   simp at hc;subst hc;obtain ⟨rt,hg⟩:=hr;exact .of_goes h hd (go_len (str:=true) h ho h1 h2 h3 h4 hg)
  ·rename_i e x' h3 h4
   simp at hc;subst hc;obtain ⟨rt,hg⟩:=hr;exact .of_goes h hd (go_len (str:=false) h ho h1 h2 ⟨_,h3⟩ h4 hg)
  ·simp at hc
 ·rename_i x y h1 h2
  split at hc
  ·rename_i t t' h3
   split at hc
   ·rename_i e e' h4 h5
    split at hc
    ·rename_i i' zs x' y' h6 h7 h8 h9
     split at hc
     ·rename_i h10
      simp at hc;subst hc;simp at h10;obtain ⟨h11,rfl⟩:=h10;exact jzm h ho h1 h2 h3 h4 h6 h7 h11 h8 h9 hd hr
     ·simp at hc
    ·simp at hc
   ·rename_i e h4 h5
    split at hc
    ·rename_i i' x' y' h6 h7 h8 h9
     split at hc
     ·rename_i h10
      split at hc
      ·rename_i h11
       simp at hc;subst hc;simp at h11;exact jxa h ho h1 h2 h3 h4 h5 h7 h10 h11.1 h11.2 h8 h9 hd hr
      ·simp at hc
     ·simp at hc
    ·simp at hc
   ·simp at hc
  ·simp at hc
 ·rename_i x h1 h2
  split at hc
  ·rename_i t h3
   split at hc
   ·rename_i e h4
    split at hc
    ·rename_i i' zs x' h6 h7 h8
     split at hc
     ·rename_i h10
      simp at hc;subst hc;exact jzj h ho h1 h2 h3 h4 h6 h7 h10 h8 hr
     ·simp at hc
    ·simp at hc
   ·simp at hc
  ·simp at hc
 ·rename_i x y h1 h2
  split at hc
  ·rename_i x' y' h3 h4
   simp at hc;subst hc;obtain ⟨rt,hg⟩:=hr;exact .of_goes h hd (go_mm (mx:=true) h ho h1 h2 h3 h4 hg)
  ·simp at hc
 ·rename_i x y h1 h2
  split at hc
  ·rename_i x' y' h3 h4
   simp at hc;subst hc;obtain ⟨rt,hg⟩:=hr;exact .of_goes h hd (go_mm (mx:=false) h ho h1 h2 h3 h4 hg)
  ·simp at hc
 ·rename_i f h1
  split at hc
  ·rename_i fn l h3 h4
   split at hc
   ·simp at hc;subst hc
    rcases hr with ⟨rt,hg⟩|ht|ht
    ·exact .of_goes h hd (go_call h ho h1 h4 hg)
    ·exact jn1 h (jbh (cs:=[]) ht.1 ho h1 rfl rfl) (by simpa using jgU (caps:=[]) (cs:=[]) h h4 rfl) hd ht
    ·exact jzi h (jbh (cs:=[]) ht.1 ho h1 rfl rfl) (by simpa using jgU (caps:=[]) (cs:=[]) h h4 rfl) hd ht
   ·simp at hc
  ·simp at hc
 ·rename_i t h1
  cases h2:vf c.args.toList with
  |none=>rw [h2] at hc;simp at hc
  |some l=>
   rw [h2] at hc;simp at hc;subst hc;rcases hr with ⟨rt,hg⟩|⟨f,caps,h0,ht⟩
   ·exact .of_goes h hd (go_callv h ho h1 h2 hg)
   ·have hvf:=h.sl t
    rw [show s.t t=.fn f caps from h0] at hvf
    obtain ⟨cs,k1,k2⟩:=hvf;exact jn1 h (jbh ht.1 ho h1 k1 rfl) (jgU h h2 k2) hd ht
 ·simp at hc
theorem jiR {lo hi:Option Operand} {n:Nat} {x:X} {i:I} (hc:(match lo.map jC,hi.map jC with
        |none,none=>some (I.sl n x none none)
        |some (some a),none=>some (.sl n x (some a) none)
        |none,some (some b)=>some (.sl n x none (some b))
        |some (some a),some (some b)=>some (.sl n x (some a) (some b))
        |_,_=>none)=some i):∃lo' hi',i=.sl n x lo' hi'∧((lo=none∧lo'=none)∨∃y y',lo=some y∧lo'=some y'∧jC y=some y')∧((hi=none∧hi'=none)∨∃y y',hi=some y∧hi'=some y'∧jC y=some y'):=by
 cases lo<;>cases hi<;>simp only [Option.map_none,Option.map_some] at hc
 ·simp at hc;subst hc;exact ⟨_,_,rfl,.inl ⟨rfl,rfl⟩,.inl ⟨rfl,rfl⟩⟩
 ·split at hc<;>simp_all
 ·split at hc<;>simp_all
 ·split at hc<;>simp_all
theorem jzg {i:I} (hc:vn P o.op=some i):jwc P o i:=by
 intro β B N w w0 s a F K g h hd hr;cases ho:o.op with
 |move x=>
  simp only [ho,vn] at hc;cases h1:jC x with
  |none=>simp [h1] at hc
  |some x'=>
   simp [h1] at hc;subst hc;obtain ⟨rt,hg⟩:=hr;exact .of_goes h hd (go_mov h (.inl ho) h1 hg)
 |assign x=>
  simp only [ho,vn] at hc;cases h1:jC x with
  |none=>simp [h1] at hc
  |some x'=>
   simp [h1] at hc;subst hc;obtain ⟨rt,hg⟩:=hr;exact .of_goes h hd (go_mov h (.inr ho) h1 hg)
 |pick c x y=>
  simp only [ho,vn] at hc;split at hc
  ·rename_i c' x' y' h1 h2 h3
   simp at hc;subst hc;obtain ⟨rt,hg⟩:=hr;exact .of_goes h hd (go_pick h ho h1 h2 h3 hg)
  ·simp at hc
 |alloc e=>
  simp only [ho,vn] at hc;cases h1:qI P e with
  |none=>simp [h1] at hc
  |some z=>
   simp [h1] at hc;subst hc;obtain ⟨rt,hg⟩:=hr;exact .of_goes h hd (go_alloc h ho h1 hg)
 |box e x=>
  simp only [ho,vn] at hc;split at hc
  ·rename_i n x' h1 h2
   simp at hc;subst hc;exact jzl h ho h2 hd hr
  ·simp at hc
 |build t ps=>
  simp only [ho,vn] at hc;split at hc
  ·rename_i fs z h1 h2
   split at hc
   ·simp at hc
   ·rename_i h3
    simp only [Option.map_eq_some_iff] at hc;obtain ⟨ps',h4,rfl⟩:=hc;obtain ⟨rt,hg⟩:=hr;exact .of_goes h hd (go_bld h ho h1 h2 (by cases hq:(fs.toList.all fun f=>(P.info? f.type).isSome) with|true=>rfl|false=>exact absurd (by rw [hq];rfl) h3) h4 hg)
  ·simp at hc
 |buildSlice t n ps=>
  simp only [ho,vn] at hc;split at hc
  ·rename_i e h1
   split at hc
   ·rename_i size h2
    split at hc
    ·rename_i h3
     simp only [Option.map_eq_some_iff] at hc;obtain ⟨ps',h4,rfl⟩:=hc;simp only [Bool.and_eq_true,decide_eq_true_eq,beq_iff_eq] at h3;obtain ⟨⟨⟨h5,h6⟩,h7⟩,h8⟩:=h3;obtain ⟨z,hz⟩:=Option.isSome_iff_exists.1 h6;exact jzk h ho h1 h2 h5 hz h7 h8 h4 hd hr
    ·simp at hc
   ·simp at hc
  ·simp at hc
 |load t x=>
  simp only [ho,vn] at hc;split at hc
  ·rename_i fs n x' h1 h2 h3
   simp at hc;subst hc;obtain ⟨rt,hg⟩:=hr;exact .of_goes h hd (go_ld h ho h1 rfl h2 h3 hg)
  ·simp at hc
  ·rename_i dsc x' hn1 hn2 h1 h2 h3
   simp at hc;subst hc;obtain ⟨rt,hg⟩:=hr;refine .of_goes h hd (go_ld h ho h1 ?_ h2 h3 hg);cases dsc<;>simp_all [jz3]
  ·simp at hc
 |store t x y=>
  simp only [ho,vn] at hc;split at hc
  ·rename_i n x' y' h1 h2 h3
   simp at hc;subst hc;exact ok_st h ho h1 h2 h3 hr
  ·simp at hc
 |binOp op t x y t'=>
  simp only [ho,vn] at hc;split at hc
  ·rename_i x' y' h1 h2
   split at hc
   ·rename_i h3
    split at hc
    ·simp at hc;subst hc
     obtain ⟨rt,hg⟩:=hr;exact .of_goes h hd (go_beq (neg:=false) h ho h3 h1 h2 hg)
    ·simp at hc;subst hc
     obtain ⟨rt,hg⟩:=hr;exact .of_goes h hd (go_beq (neg:=true) h ho h3 h1 h2 hg)
    ·simp at hc
   ·simp at hc;subst hc
    obtain ⟨rt,hg⟩:=hr;exact .of_goes h hd (go_bin h ho h1 h2 hg)
   ·simp at hc
  ·simp at hc
 |unOp op t x=>
  simp only [ho,vn] at hc;cases h1:jC x with
  |none=>simp [h1] at hc
  |some x'=>
   simp [h1] at hc;subst hc;obtain ⟨rt,hg⟩:=hr;exact .of_goes h hd (go_un h ho h1 hg)
 |convert t t' x=>
  simp only [ho,vn] at hc;split at hc
  ·rename_i k0 k x' h1 h2 h3
   simp at hc;subst hc;obtain ⟨rt,hg⟩:=hr;exact .of_goes h hd (go_num h ho h1 h2 h3 hg)
  ·rename_i e x' h1 h2 h3
   split at hc
   ·rename_i h4
    simp at hc;subst hc;obtain ⟨rt,hg⟩:=hr;exact .of_goes h hd (go_text h ho h1 h4 h2 h3 hg)
   ·simp at hc
  ·simp at hc
 |makeSlice t l c=>
  simp only [ho,vn] at hc;split at hc
  ·rename_i e l' c' h1 h2 h3
   split at hc
   ·rename_i i' z h4 h5
    split at hc
    ·rename_i h6
     simp at hc;subst hc;obtain ⟨rt,hg⟩:=hr;exact .of_goes h hd (go_mks h ho h1 h4 h5 h6 h2 h3 hg)
    ·simp at hc
   ·simp at hc
  ·simp at hc
 |slice t x lo hi m=>
  cases m with
  |some m=>simp [ho,vn] at hc
  |none=>
   simp only [ho,vn] at hc;split at hc
   ·rename_i e x' h1 h2
    split at hc
    ·rename_i n h3
     obtain ⟨lo',hi',rfl,h4,h5⟩:=jiR hc;obtain ⟨rt,hg⟩:=hr;exact .of_goes h hd (go_sl_ro h ho h1 h3 h2 h4 h5 hg)
    ·simp at hc
   ·rename_i x' h1 h2
    obtain ⟨lo',hi',rfl,h4,h5⟩:=jiR hc;obtain ⟨rt,hg⟩:=hr;exact .of_goes h hd (go_sl_str h ho h1 h2 h4 h5 hg)
   ·simp at hc
 |nilCheck x=>
  simp only [ho,vn,Option.map_eq_some_iff] at hc;obtain ⟨x',h1,rfl⟩:=hc;obtain ⟨rt,hg⟩:=hr;exact .of_goes h hd (go_nc h ho h1 hg)
 |fieldAddr t x f=>
  simp only [ho,vn] at hc;split at hc
  ·rename_i fs x' h1 h2
   split at hc
   ·rename_i fd h3
    split at hc
    ·rename_i n h4
     simp at hc;subst hc;obtain ⟨rt,hg⟩:=hr;exact .of_goes h hd (go_fa h ho h1 h3 h4 h2 hg)
    ·simp at hc
   ·simp at hc
  ·simp at hc
 |indexAddr t x j=>
  simp only [ho,vn] at hc;split at hc
  ·rename_i e x' j' h1 h2 h3
   split at hc
   ·rename_i n h4
    simp at hc;subst hc;obtain ⟨rt,hg⟩:=hr;exact .of_goes h hd (go_ia h ho h1 h4 h2 h3 hg)
   ·simp at hc
  ·simp at hc
 |index t x j=>
  simp only [ho,vn] at hc;split at hc
  ·rename_i x' j' h1 h2 h3
   simp at hc;subst hc;obtain ⟨rt,hg⟩:=hr;exact .of_goes h hd (go_sidx h ho h1 h2 h3 hg)
  ·simp at hc
 |extract x j=>
  simp only [ho,vn] at hc;cases h1:jC x with
  |none=>simp [h1] at hc
  |some x'=>
   simp [h1] at hc;subst hc;obtain ⟨rt,hg⟩:=hr;exact .of_goes h hd (go_ext h ho h1 hg)
 |makeFunc fn first caps=>
  cases fn with
  |func f=>
   simp only [ho,vn] at hc;split at hc
   ·rename_i h1
    cases h2:vf caps.toList with
    |none=>simp [h2] at hc
    |some l=>
     simp [h2] at hc;subst hc;obtain ⟨rt,hg⟩:=hr;exact .of_goes h hd (go_mkf h ho (by simpa using h1) h2 hg)
   ·simp at hc
  |_=>simp [ho,vn] at hc
 |call c=>simp only [ho,vn] at hc;exact jxR ho hc h hd hr
 |_=>simp [ho,vn] at hc
def jnt (N:Nat) (ops:Array Oper) (g:Option (Nat×Bool)) (g':Option (Nat×Bool)):Prop:=match g with
 |none=>g'=none
 |some (j,want)=>∃t,(ops[j]?).bind (·.dst)=some t∧t<N∧g'=some (t,want)
theorem jgG (h:RelF B w0 N s a w F) {ops:Array Oper} {g':Option (Nat×Bool)} {b:Bool} (hg:jnt N ops o.guard g') (hw:qN s g'=some b):
 Region.wanted o (yielded ops a.tmps)=b:=by
 unfold Region.wanted;cases ho:o.guard with
 |none=>rw [ho] at hg;simp only [jnt] at hg;subst hg;simp [qN] at hw;simpa using hw
 |some p=>
  obtain ⟨j,want⟩:=p;rw [ho] at hg;obtain ⟨t,h1,h2,rfl⟩:=hg;have hv:=h.sl t;have hlt:t<a.tmps.size:=by rw [h.sz];exact h2
  have he:a.tmps.getD t undef=a.tmps[t]:=by simp [Array.getD_eq_getD_getElem?,hlt]
  rw [he] at hv;simp only [qN] at hw;simp only [yielded,h1,Option.bind_some,Array.getElem?_eq_getElem hlt];split at hw
  ·rename_i b' hb
   rw [hb] at hv;rw [show a.tmps[t]=.bool b' from hv]
   simp at hw;subst hw;cases b'<;>cases want<;>rfl
  ·rename_i u hu hb
   rw [hb] at hv;have hv':a.tmps[t]=u:=hv;rw [hv'];simp at hw;subst hw;cases u<;>simp_all
  ·simp at hw
theorem joA {ops:Array Oper} {i:Ins} (hc:jvd P N ops o=some i):i.d=o.dst∧vn P o.op=some i.i∧(∀k,o.dst=some k→k<N)∧jnt N ops o.guard i.g:=by
 unfold jvd at hc;split at hc
 ·rename_i j h1 h2
  have hd:∀k,o.dst=some k→k<N:=fun k hk=>by rw [hk] at h2;simpa using h2
  cases hg:o.guard with
  |none=>rw [hg] at hc;simp at hc;subst hc;exact ⟨rfl,h1,hd,rfl⟩
  |some p=>
   obtain ⟨k,want⟩:=p;rw [hg] at hc;simp only at hc;split at hc
   ·rename_i t ht
    split at hc
    ·rename_i hlt
     simp at hc;subst hc;exact ⟨rfl,h1,hd,t,ht,hlt,rfl⟩
    ·simp at hc
   ·simp at hc
 ·simp at hc
theorem jm3 {ops:Array Oper} {Q:Exit→Act→World→Prop} (hQ:∀s a w F,RelF B w0 N s a w F→K s→Q .normal a w):∀{l:List Oper} {is:List Ins} {s:St} {a:Act} {w:World} {F:Nat→List Nat},
 jhR P N ops l=some is→RelF B w0 N s a w F→jeF P β is s K→wpList P ops Q l a w
 |[],is,s,a,w,F,hc,h,hr=>by simp [jhR] at hc;subst hc;exact hQ _ _ _ _ h hr
 |o::l,is,s,a,w,F,hc,h,hr=>by
  simp only [jhR] at hc;split at hc
  ·rename_i i r h1 h2
   simp at hc;subst hc;obtain ⟨e1,e2,e3,e4⟩:=joA h1;simp only [jeF] at hr;unfold wpList;split at hr
   ·rename_i hw
    rw [if_pos (jgG h e4 hw)];refine .inl (jzg e2 (g:=i.g) (K:=fun s'=>jeF P β r s' K) h e3 (by rw [←e1];exact hr) _ _ fun a' w' ⟨s',F',h3,h4⟩=>jm3 hQ h2 h3 h4)
   ·rename_i hw
    rw [if_neg (by rw [jgG h e4 hw];simp)]
    rw [e1] at hr;exact jm3 hQ h2 (h.put (u:=undef) (v:=.c (.v undef)) rfl e3) hr
   ·exact hr.elim
  ·simp at hc
end
section
variable {P:Program} {β:Nat} {s s2:St}
theorem jos {x:X} (h:∀n,x=.t n→s2.t n=s.t n):s2.ev x=s.ev x:=by
 cases x with
 |t n=>exact h n rfl
 |c v=>rfl
 |f n=>rfl
theorem qY {a:A0} {d:D} (ho:∀g∈a.ids,s2.o g=s.o g) (h:Is s a d):Is s2 a d:=by
 cases a with
 |h g c p x=>simp only [Is] at h⊢;rw [ho g (by simp [A0.ids])];exact h
 |hs g c p x sz lo n=>simp only [Is] at h⊢;rw [ho g (by simp [A0.ids])];exact h
 |_=>exact h
theorem jlC:∀{l:List A0} {ds:List D},(∀a∈l,∀g∈a.ids,s2.o g=s.o g)→IsL s l ds→IsL s2 l ds
 |[],[],_,_=>trivial
 |[],_::_,_,h=>h.elim
 |_::_,[],_,h=>h.elim
 |a::l,d::ds,ho,⟨h1,h2⟩=>⟨qY (ho a (by simp)) h1,jlC (fun b hb=>ho b (by simp [hb])) h2⟩
theorem jdd {g b:Nat}:∀{l:List Cell} {c:Nat} {ds:List D},Ptr.go s g b l c ds→Ptr.go s2 g b l c ds
 |[],_,[],_=>trivial
 |[],_,_::_,h=>h.elim
 |.a _::_,_,[],h=>h.elim
 |.own _ _::_,_,[],h=>h.elim
 |.a x::l,c,d::ds,⟨h1,h2⟩=>⟨h1,jdd h2⟩
 |.own d' η::l,c,d::ds,⟨h1,h2⟩=>⟨h1,jdd h2⟩
theorem jli {a:A0} {ds:List D} (ho:∀g∈a.ids,s2.o g=s.o g) (h:Ptr s a ds):Ptr s2 a ds:=by
 cases a with
 |bp g c b=>
  obtain ⟨ty,cs,h1,l,h2,h3⟩:=h;exact ⟨ty,cs,by rw [ho g (by simp [A0.ids])];exact h1,l,h2,jdd h3⟩
 |_=>exact h
theorem ji4:∀{l:List A0} {ds:List (List D)},(∀a∈l,∀g∈a.ids,s2.o g=s.o g)→jz4 s l ds→jz4 s2 l ds
 |[],[],_,_=>trivial
 |[],_::_,_,h=>h.elim
 |_::_,[],_,h=>h.elim
 |a::l,d::ds,ho,⟨h1,h2⟩=>⟨jli (ho a (by simp)) h1,ji4 (fun b hb=>ho b (by simp [hb])) h2⟩
theorem jty {a:AV} {v:View} (ho:s2.o=s.o) (h:jnu s a v):jnu s2 a v:=by
 cases a with
 |c x=>cases v with
  |c d=>exact qY (fun g _=>by rw [ho]) h
  |ptr ds=>exact jli (fun g _=>by rw [ho]) h
  |_=>exact h.elim
 |agg l=>cases v with
  |agg ds=>exact jlC (fun _ _ g _=>by rw [ho]) h
  |_=>exact h.elim
 |fn f l=>cases v with
  |fn f' ds=>exact ⟨h.1,ji4 (fun _ _ g _=>by rw [ho]) h.2⟩
  |_=>exact h.elim
 |_=>cases v<;>exact h.elim
theorem jfH:∀{l:List AV} {vs:List View},s2.o=s.o→zn s l vs→zn s2 l vs
 |[],[],_,_=>trivial
 |[],_::_,_,h=>h.elim
 |_::_,[],_,h=>h.elim
 |_::_,_::_,ho,⟨h1,h2⟩=>⟨jty ho h1,jfH ho h2⟩
theorem jjf:∀{ps:List (Nat×Nat×X)} {cs:List A0},(∀x∈ps.map (·.2.2),s2.ev x=s.ev x)→jgg s2 cs ps=jgg s cs ps
 |[],_,_=>rfl
 |(off,size,x)::ps,cs,h=>by
  have h1:s2.ev x=s.ev x:=h x (by simp)
  simp only [jgg,h1];split
  ·split
   ·exact jjf fun y hy=>h y (by simp at hy⊢;exact .inr hy)
   ·rfl
  ·rfl
theorem jmb:∀{ps:List (Nat×Nat×X)},(∀x∈ps.map (·.2.2),s2.ev x=s.ev x)→jqf s2 ps=jqf s ps
 |[],_=>rfl
 |(off,size,x)::ps,h=>by
  have h1:s2.ev x=s.ev x:=h x (by simp)
  have h2:jqf s2 ps=jqf s ps:=jmb fun y hy=>h y (by simp at hy⊢;exact .inr hy)
  simp only [jqf,h1,h2]
theorem jjm:∀{l:List X},(∀x∈l,s2.ev x=s.ev x)→jcx s2 l=jcx s l
 |[],_=>rfl
 |x::l,h=>by
  have h1:s2.ev x=s.ev x:=h x (by simp)
  have h2:jcx s2 l=jcx s l:=jjm fun y hy=>h y (by simp [hy])
  simp only [jcx,h1,h2]
theorem zl {x:Option X} {d n:Nat} (h:∀y,x=some y→s2.ev y=s.ev y) (hb:jeC s x d n):jeC s2 x d n:=by
 cases x with
 |none=>exact hb
 |some y=>obtain ⟨k,h1⟩:=hb;exact ⟨k,by rw [h y rfl];exact h1⟩
theorem jbs {l:List X} (h:∀x∈l,s2.ev x=s.ev x):l.map s2.ev=l.map s.ev:=List.map_congr_left h
theorem jlL {d:Nat} {rt:RT} {st:jtE} {i:I} {av:AV} {os:List (Nat×Ob)} (hx:∀x∈i.xs,s2.ev x=s.ev x) (ho:∀k∈i.looks s,jof s s2 k) (hn:i.pureB=false→s2.o=s.o) (h:Gen P s d rt st i av os):Gen P s2 d rt st i av os:=by
 cases i with
 |mov x=>simp only [Gen] at h⊢;rw [hx x (by simp [I.xs])];exact h
 |pick c a b=>simp only [Gen] at h⊢;rw [hx c (by simp [I.xs]),hx a (by simp [I.xs]),hx b (by simp [I.xs])];exact h
 |box ty n x=>exact h
 |alloc ty zs=>exact h
 |bld zs ps=>simp only [Gen] at h⊢;rw [jjf (s:=s) (s2:=s2) fun x hx'=>hx x (by simpa [I.xs] using hx')];exact h
 |bsl e size n ks ps=>exact h
 |ld agg n x=>
  simp only [Gen] at h⊢;obtain ⟨l,h1,h2⟩:=h;refine ⟨l,?_,h2⟩;rw [hx x (by simp [I.xs])]
  have ho':∀k∈(s.ev x).looks n,jof s s2 k:=ho;cases hv:s.ev x with
  |c a=>
   rw [hv] at h1 ho';cases a with
   |bp g c b=>
    have h3:jrc g c n (s2.o g) (s.o g):=ho' (.cs g c n) (by simp [AV.looks,A0.looks])
    obtain ⟨ty,cs,k1,k2,k3⟩:=h1;rw [k1] at h3;cases h4:s2.o g with
    |box b' ty' cs'=>
     rw [h4] at h3;obtain ⟨rfl,rfl,e3,e4⟩:=h3;exact ⟨_,_,h4,by omega,by rw [e4];exact k3⟩
    |none=>rw [h4] at h3;cases h3
    |loose d η=>rw [h4] at h3;cases h3
   |ep g c p k y=>
    have h3:s2.o g=s.o g:=ho' (.ob g) (by simp [AV.looks,A0.looks])
    simp only [vQ] at h1⊢;rw [h3];exact h1
   |_=>exact h1
  |_=>rw [hv] at h1;exact h1
 |st n ks a x=>exact h
 |fa off x=>simp only [Gen] at h⊢;rw [hx x (by simp [I.xs])];exact h
 |ia size x i=>
  simp only [Gen] at h⊢;have ho':∀g∈(s.ev x).ids,s2.o g=s.o g:=fun g hg=>ho (.ob g) (List.mem_map.2 ⟨g,hg,rfl⟩)
  rw [hx x (by simp [I.xs]),hx i (by simp [I.xs])]
  obtain ⟨k,n,h1,h2,h3,h4⟩:=h;refine ⟨k,n,h1,h2,?_,h4⟩;cases hv:s.ev x with
  |c a=>
   rw [hv] at h3 ho';cases a with
   |h g c p y=>obtain ⟨⟨dd,k1,k2⟩,k3⟩:=h3;exact ⟨⟨dd,qY ho' (by exact k1),k2⟩,k3⟩
   |hs g c p y sz lo m=>obtain ⟨⟨dd,k1⟩,k3⟩:=h3;exact ⟨⟨dd,qY ho' (by exact k1)⟩,k3⟩
   |_=>exact h3
  |_=>rw [hv] at h3;exact h3
 |sidx x i=>simp only [Gen] at h⊢;rw [hx x (by simp [I.xs]),hx i (by simp [I.xs])];exact h
 |bin op ty x y=>simp only [Gen] at h⊢;rw [hx x (by simp [I.xs]),hx y (by simp [I.xs])];exact h
 |beq neg x y=>simp only [Gen] at h⊢;rw [hx x (by simp [I.xs]),hx y (by simp [I.xs])];exact h
 |un op x=>simp only [Gen] at h⊢;rw [hx x (by simp [I.xs])];exact h
 |cv c e x=>
  simp only [Gen] at h⊢;have ho':∀g∈(s.ev x).ids,s2.o g=s.o g:=fun g hg=>ho (.ob g) (List.mem_map.2 ⟨g,hg,rfl⟩)
  rw [hx x (by simp [I.xs])]
  cases c with
  |text=>
   obtain ⟨⟨a,ty,bs,h1,h2,h3⟩,h4⟩:=h;rw [h1] at ho';exact ⟨⟨a,ty,bs,h1,qY ho' h2,h3⟩,h4⟩
  |_=>exact h
 |len str x=>
  simp only [Gen] at h⊢;have ho':∀g∈(s.ev x).ids,s2.o g=s.o g:=fun g hg=>ho (.ob g) (List.mem_map.2 ⟨g,hg,rfl⟩)
  obtain ⟨n,h1,h2⟩:=h;refine ⟨n,?_,h2⟩;rw [hx x (by simp [I.xs])]
  cases hv:s.ev x with
  |c a=>
   rw [hv] at h1 ho';cases a with
   |h g c p y=>
    cases str with
    |true=>exact h1
    |false=>obtain ⟨dd,k1,k2⟩:=h1;exact ⟨dd,qY ho' (by exact k1),k2⟩
   |hs g c p y sz lo m=>
    cases str with
    |true=>exact h1
    |false=>obtain ⟨⟨dd,k1⟩,k2⟩:=h1;exact ⟨⟨dd,qY ho' (by exact k1)⟩,k2⟩
   |v u=>cases str<;>cases u<;>first|exact h1|(rename_i a l c;cases a<;>cases l<;>cases c<;>exact h1)
   |_=>cases str<;>exact h1
  |_=>rw [hv] at h1;cases str<;>exact h1
 |app e size bytes x y=>exact h
 |apps e x y=>exact h
 |clr size zs x=>exact h
 |mm mx x y=>simp only [Gen] at h⊢;rw [hx x (by simp [I.xs]),hx y (by simp [I.xs])];exact h
 |mks e size bytes zs l c=>simp only [Gen] at h⊢;rw [hx l (by simp [I.xs]),hx c (by simp [I.xs])];exact h
 |sl size x lo hi=>
  simp only [Gen] at h⊢;have ho':∀g∈(s.ev x).ids,s2.o g=s.o g:=fun g hg=>ho (.ob g) (List.mem_map.2 ⟨g,hg,rfl⟩)
  have hlo:∀y,lo=some y→s2.ev y=s.ev y:=fun y hy=>hx y (by simp [I.xs,hy])
  have hhi:∀y,hi=some y→s2.ev y=s.ev y:=fun y hy=>hx y (by simp [I.xs,hy])
  rw [hx x (by simp [I.xs])]
  obtain ⟨l,hh,h1,h2,h3,h4⟩:=h;refine ⟨l,hh,zl hlo h1,h2,?_,h4⟩;cases hv:s.ev x with
  |c a=>
   rw [hv] at h3 ho';cases a with
   |v u=>
    cases u with
    |string b=>exact ⟨h3.1,zl hhi h3.2.1,h3.2.2⟩
    |_=>exact h3
   |ro dd=>exact ⟨h3.1,h3.2.1,h3.2.2.1,zl hhi h3.2.2.2.1,h3.2.2.2.2⟩
   |h g c p y=>obtain ⟨k0,⟨dd,k1,k2,k3,k4⟩,k5⟩:=h3;exact ⟨k0,⟨dd,qY ho' (by exact k1),k2,zl hhi k3,k4⟩,k5⟩
   |hs g c p y sz lo m=>obtain ⟨⟨dd,k1⟩,k2,k3,k4⟩:=h3;exact ⟨⟨dd,qY ho' (by exact k1)⟩,k2,zl hhi k3,k4⟩
   |_=>exact h3
  |_=>rw [hv] at h3;exact h3
 |ext x i=>simp only [Gen] at h⊢;rw [hx x (by simp [I.xs])];exact h
 |mkf f caps=>simp only [Gen] at h⊢;rw [jjm (s:=s) (s2:=s2) fun x hx'=>hx x (by simpa [I.xs] using hx')];exact h
 |call f args=>
  simp only [Gen] at h⊢;rw [jbs (s:=s) (s2:=s2) fun x hx'=>hx x (by simpa [I.xs] using hx')]
  obtain ⟨vs,h1,h2⟩:=h;exact ⟨vs,jfH (hn rfl) h1,h2⟩
 |callv x args=>
  simp only [Gen] at h⊢;rw [jbs (s:=s) (s2:=s2) (l:=args) fun y hy=>hx y (by simp [I.xs,hy]),hx x (by simp [I.xs])]
  obtain ⟨f,caps,vs,h0,h1,h2⟩:=h;exact ⟨f,caps,vs,h0,jfH (hn rfl) h1,h2⟩
theorem jm2 {i:I} (hx:∀x∈i.xs,s2.ev x=s.ev x):i.looks s2=i.looks s:=by
 cases i<;>first|rfl|(simp only [I.looks];rw [hx _ (by simp [I.xs])])
theorem juO {d d':Nat} {rt rt':RT} {st st':jtE} {i:I} {av:AV} {os:List (Nat×Ob)} (hp:i.pureB=true) (h:Gen P s d rt st i av os):Gen P s d' rt' st' i av []∧os=[]:=by
 cases i<;>first|cases hp|skip
 case mov=>obtain ⟨h1,rfl⟩:=h;exact ⟨⟨h1,rfl⟩,rfl⟩
 case pick=>obtain ⟨t,h1,h2,rfl⟩:=h;exact ⟨⟨t,h1,h2,rfl⟩,rfl⟩
 case bld=>obtain ⟨t,h1,h2,rfl⟩:=h;exact ⟨⟨t,h1,h2,rfl⟩,rfl⟩
 case ld=>obtain ⟨t,h1,h2,rfl⟩:=h;exact ⟨⟨t,h1,h2,rfl⟩,rfl⟩
 case fa=>obtain ⟨h1,rfl⟩:=h;exact ⟨⟨h1,rfl⟩,rfl⟩
 case ia=>obtain ⟨k,n,h1,h2,h3,rfl⟩:=h;exact ⟨⟨k,n,h1,h2,h3,rfl⟩,rfl⟩
 case sidx=>obtain ⟨b,k,n,u,h1,h2,h3,h4,h5,rfl⟩:=h;exact ⟨⟨b,k,n,u,h1,h2,h3,h4,h5,rfl⟩,rfl⟩
 case bin=>obtain ⟨h1,rfl⟩:=h;exact ⟨⟨h1,rfl⟩,rfl⟩
 case beq=>obtain ⟨a,b,h1,h2,h3,rfl⟩:=h;exact ⟨⟨a,b,h1,h2,h3,rfl⟩,rfl⟩
 case un=>obtain ⟨h1,rfl⟩:=h;exact ⟨⟨h1,rfl⟩,rfl⟩
 case cv=>obtain ⟨h1,rfl⟩:=h;exact ⟨⟨h1,rfl⟩,rfl⟩
 case len=>obtain ⟨n,h1,h2,rfl⟩:=h;exact ⟨⟨n,h1,h2,rfl⟩,rfl⟩
 case mm=>obtain ⟨k,k',a,b,h1,h2,h3,rfl⟩:=h;exact ⟨⟨k,k',a,b,h1,h2,h3,rfl⟩,rfl⟩
 case sl=>obtain ⟨l,hh,h1,h2,h3,rfl⟩:=h;exact ⟨⟨l,hh,h1,h2,h3,rfl⟩,rfl⟩
 case ext=>obtain ⟨l,b,az,h1,h2,h3,rfl⟩:=h;exact ⟨⟨l,b,az,h1,h2,h3,rfl⟩,rfl⟩
 case mkf=>obtain ⟨l,h1,h2,rfl⟩:=h;exact ⟨⟨l,h1,h2,rfl⟩,rfl⟩
theorem jg7 {i:Ins} (hp:i.i.pureB=true) {K:St→Prop}:qC P β i s K=(∃rt,∀st,∃av os,Gen P s (β+i.d.getD 0) rt st i.i av os∧K ((s.addO os).put i.d av)):=by
 obtain ⟨d,g,i⟩:=i;cases i<;>first|rfl|cases hp
theorem Turns.mono {f:FuncId} {args:List AV} {o:Nat→Ob} {R R':RT→(Nat→Ob)→Prop} (h:∀rt o',R rt o'→R' rt o') (ht:Turns P f args o R):Turns P f args o R':=
 ⟨ht.1,fun B w F xs h1 h2=>(ht.2 B w F xs h1 h2).mono fun e w' ⟨v,rt,o',S,F',k1,k2,k3,k4,k5,k6⟩=>⟨v,rt,o',S,F',k1,k2,k3,k4,k5,h _ _ k6⟩⟩
theorem Inl.mono {f:FuncId} {args:List AV} {o:Nat→Ob} {R R':AV→(Nat→Ob)→Prop} (h:∀av o',R av o'→R' av o') (ht:Inl P f args o R):Inl P f args o R':=
 ⟨ht.1,fun B w F xs h1 h2=>(ht.2 B w F xs h1 h2).mono fun e w' ⟨v,av,o',F',k1,k2,k3,k4⟩=>⟨v,av,o',F',k1,k2,k3,h _ _ k4⟩⟩
theorem jre {i:Ins} {d:Option Nat} {v:AV} {K K':St→Prop} (hd:∀k,d=some k→(∀x∈i.i.xs,x≠.t k)∧i.d≠some k) (h:∀s2:St,(∀n,i.d≠some n→s2.t n=s.t n)→K (s2.put d v)→K' s2) (hr:qC P β i (s.put d v) K):qC P β i s K':=by
 obtain ⟨id,ig,i⟩:=i;simp only at hd
 have hev:∀x∈i.xs,(s.put d v).ev x=s.ev x:=fun x hx=>by
  cases d with
  |none=>rfl
  |some k=>
   refine jos fun n hn=>?_
   have:=(hd k rfl).1 x hx;show (if n=k then v else s.t n)=s.t n
   rw [if_neg fun e=>this (by rw [hn,e])]
 have ho:(s.put d v).o=s.o:=by cases d<;>rfl
 have hend:∀(s1:St) (os:List (Nat×Ob)) (av:AV),s1.t=s.t→K ((((s1.put d v).addO os)).put id av)→K' ((s1.addO os).put id av):=fun s1 os av h1 hk=>by
  have e1:∀(os:List (Nat×Ob)) (s1:St),(s1.put d v).addO os=(s1.addO os).put d v:=by
   intro os
   induction os with
   |nil=>intro s1;rfl
   |cons p os ih=>
    intro s1;obtain ⟨g,ob⟩:=p;show ((s1.put d v).setO g ob).addO os=((s1.setO g ob).addO os).put d v;rw [←ih]
    congr 1
    cases d<;>rfl
  have e2:∀s1:St,(s1.put d v).put id av=(s1.put id av).put d v:=fun s1=>by
   cases d with
   |none=>rfl
   |some k=>
    cases id with
    |none=>rfl
    |some j=>
     have hne:j≠k:=fun e=>(hd k rfl).2 (by rw [e])
     simp only [St.put,St.mk.injEq,and_true]
     funext n
     by_cases h1:n=j<;>by_cases h2:n=k<;>simp_all
  have e3:∀(os:List (Nat×Ob)) (s1:St),(s1.addO os).t=s1.t:=by
   intro os
   induction os with
   |nil=>intro s1;rfl
   |cons p os ih=>intro s1;obtain ⟨g,ob⟩:=p;show ((s1.setO g ob).addO os).t=_;rw [ih];rfl
  rw [e1,e2] at hk;refine h _ (fun n hn=>?_) hk
  cases id with
  |none=>show (s1.addO os).t n=_;rw [e3,h1]
  |some j=>
   show (if n=j then av else (s1.addO os).t n)=_
   rw [if_neg fun e=>hn (by rw [e]),e3,h1]
 have hgen:∀j:I,(∀x∈j.xs,(s.put d v).ev x=s.ev x)→(∃rt,∀st,∃av os,Gen P (s.put d v) (β+id.getD 0) rt st j av os∧K (((s.put d v).addO os).put id av))→
  ∃rt,∀st,∃av os,Gen P s (β+id.getD 0) rt st j av os∧K' ((s.addO os).put id av):=fun j hj ⟨rt,hg⟩=>⟨rt,fun st=>by
  obtain ⟨av,os,h1,h2⟩:=hg st;exact ⟨av,os,jlL (fun x hx=>(hj x hx).symm) (fun g _=>jsf) (fun _=>ho.symm) h1,hend s os av rfl h2⟩⟩
 have htake:∀{l:List A0} {s1:St} {R R':List Cell→St→Prop},s1.t=s.t→(∀cs s2,s2.t=s.t→R cs (s2.put d v)→R' cs s2)→kM (s1.put d v) l R→kM s1 l R':=by
  intro l
  induction l with
  |nil=>intro s1 R R' h1 h2 hk;exact h2 _ _ h1 hk
  |cons x l ih=>
   intro s1 R R' h1 h2 hk;have plain:∀a:A0,kM (s1.put d v) l (fun cs s'=>R (.a a::cs) s')→kM s1 l (fun cs s'=>R' (.a a::cs) s'):=fun a hk=>ih h1 (fun cs s2 h3=>h2 _ s2 h3) hk
   cases x with
   |h g c p x=>
    obtain ⟨k1,d0,η,k2,k3,k4⟩:=hk;have ho1:(s1.put d v).o=s1.o:=by cases d<;>rfl
    have hrm:(s1.put d v).rm g c=(s1.rm g c).put d v:=by cases d<;>rfl
    rw [ho1] at k2;rw [hrm] at k4;exact ⟨k1,d0,η,k2,k3,ih (by exact h1) (fun cs s2 h3=>h2 _ s2 h3) k4⟩
   |_=>exact ⟨hk.1,plain _ hk.2⟩
 have hdest:∀{e size:Nat} {a:AV} {s1:St} {R R':List D→St→Prop},s1.t=s.t→(∀cs s2,s2.t=s.t→R cs (s2.put d v)→R' cs s2)→jfI (s1.put d v) e size a R→jfI s1 e size a R':=by
  intro e size a s1 R R' h1 h2 hk;unfold jfI at hk⊢;split
  ·exact h2 _ _ h1 hk
  ·have ho1:(s1.put d v).o=s1.o:=by cases d<;>rfl
   rw [ho1] at hk;have hrm:∀g c,(s1.put d v).rm g c=(s1.rm g c).put d v:=fun g c=>by cases d<;>rfl
   have hst:∀g ob,(s1.put d v).setO g ob=(s1.setO g ob).put d v:=fun g ob=>by cases d<;>rfl
   rcases hk with ⟨k1,cs,η,k2,k3,k4⟩|⟨k,k1,sz,tyo,ds0,cs,η,k2,k3,k4,k5⟩
   ·rw [hrm] at k4
    exact .inl ⟨k1,cs,η,k2,k3,h2 _ _ h1 k4⟩
   ·refine .inr ⟨k,k1,sz,tyo,ds0,cs,η,k2,k3,k4,fun η' hη=>?_⟩
    have k6:=k5 η' hη;rw [hst] at k6;exact h2 _ _ h1 k6
  ·simp_all
 have hsrc:∀{size:Nat} {a:AV} {s1:St} {R R':List D→St→Prop},s1.t=s.t→(∀cs s2,s2.t=s.t→R cs (s2.put d v)→R' cs s2)→jtF (s1.put d v) size a R→jtF s1 size a R':=by
  intro size a s1 R R' h1 h2 hk;have ho1:(s1.put d v).o=s1.o:=by cases d<;>rfl
  unfold jtF at hk⊢;split
  ·exact h2 _ _ h1 hk
  ·obtain ⟨k1,k2,k3,k4⟩:=hk;exact ⟨k1,k2,k3,h2 _ _ h1 k4⟩
  ·obtain ⟨dd,k1,k2,k3,k4⟩:=hk;exact ⟨dd,qY (fun g _=>by rw [ho1]) k1,k2,k3,h2 _ _ h1 k4⟩
  ·obtain ⟨dd,k1,k2,k3⟩:=hk
   refine ⟨dd,qY (fun g _=>by rw [ho1]) k1,k2,?_⟩
   have hrm:∀g c,(s1.put d v).rm g c=(s1.rm g c).put d v:=fun g c=>by cases d<;>rfl
   split
   ·rw [if_pos (by assumption)] at k3;exact h2 _ _ h1 k3
   ·rw [if_neg (by assumption),hrm] at k3;exact ⟨k3.1,k3.2.1,h2 _ _ (by exact h1) k3.2.2⟩
  ·simp_all
 cases i with
 |box ty n x=>
  obtain ⟨l,h1,h2,h3⟩:=hr;rw [hev x (by simp [I.xs])] at h1
  exact ⟨l,h1,h2,htake rfl (fun cs s2 h4 h5 b=>hend s2 _ _ h4 (h5 b)) h3⟩
 |bsl e size n ks ps=>
  obtain ⟨l,h1,h3⟩:=hr;rw [jmb (s:=s) fun x hx=>hev x (by simpa [I.xs] using hx)] at h1
  exact ⟨l,h1,htake rfl (fun cs s2 h4 ⟨ds,h5,h6⟩=>⟨ds,h5,fun η=>hend s2 _ _ h4 (h6 η)⟩) h3⟩
 |st n ks a x=>
  obtain ⟨h0,l,h1,h2,h3⟩:=hr;simp only at h0;subst h0;rw [hev x (by simp [I.xs])] at h1
  rw [hev a (by simp [I.xs])] at h3
  refine ⟨rfl,l,h1,h2,htake rfl (fun cs s2 h4 h5=>?_) h3⟩
  have ho2:(s2.put d v).o=s2.o:=by cases d<;>rfl
  have hfin:∀g ob,K ((s2.put d v).setO g ob)→K' (s2.setO g ob):=fun g ob hk=>hend s2 [(g,ob)] (.unk) h4 hk
  split at h5
  ·obtain ⟨ty,ds,k1,k2,k3⟩:=h5
   rw [ho2] at k1;exact ⟨ty,ds,k1,k2,hfin _ _ k3⟩
  ·obtain ⟨k0,ds,k1,d0,η,dd,k2,k3,k4,k5,k6,k7⟩:=h5
   rw [ho2] at k2 k7;exact ⟨k0,ds,k1,d0,η,dd,k2,k3,k4,k5,k6,jnE (fun η' hk=>hfin _ _ hk) k7⟩
  ·exact h5.elim
 |app e size bytes x y=>
  have hr':=hr;simp only [qC] at hr'⊢;rw [hev x (by simp [I.xs]),hev y (by simp [I.xs])] at hr'
  exact hsrc rfl (fun ys s1 h1 hk=>hdest h1 (fun xs s2 h2 ⟨k1,k2,k3⟩=>⟨k1,k2,fun η=>hend s2 _ _ h2 (k3 η)⟩) hk) hr'
 |apps e x y=>
  obtain ⟨b,h1,h2⟩:=hr;rw [hev y (by simp [I.xs])] at h1
  rw [hev x (by simp [I.xs])] at h2
  exact ⟨b,h1,hdest rfl (fun xs s2 h2 ⟨k1,k3⟩=>⟨k1,fun η=>hend s2 _ _ h2 (k3 η)⟩) h2⟩
 |clr size zs x=>
  obtain ⟨h0,h3⟩:=hr;simp only at h0;subst h0;rw [hev x (by simp [I.xs])] at h3
  refine ⟨rfl,?_⟩;split at h3
  ·exact hend s [] .unk rfl h3
  ·obtain ⟨k0,k1,d0,η,dd,k2,k3,k4,k5,k6,k7,k8⟩:=h3
   rw [ho] at k2 k8;exact ⟨k0,k1,d0,η,dd,k2,k3,k4,k5,k6,k7,jnE (fun η' hk=>hend s [(_,_)] .unk rfl hk) k8⟩
  ·exact h3.elim
 |call f args=>
  rcases hr with hg|ht|ht
  ·exact .inl (hgen _ hev hg)
  ·right;left
   rw [jbs (s:=s) fun x hx=>hev x (by simpa [I.xs] using hx),ho] at ht
   refine ht.mono fun rt o' hR η=>?_
   have:=hR η;exact hend ⟨s.t,o'⟩ _ _ rfl (by cases d<;>exact this)
  ·right;right
   rw [jbs (s:=s) fun x hx=>hev x (by simpa [I.xs] using hx),ho] at ht
   refine ht.mono fun av o' hR=>?_
   exact hend ⟨s.t,o'⟩ [] av rfl (by cases d<;>exact hR)
 |callv x args=>
  rcases hr with hg|⟨f,caps,h0,ht⟩
  ·exact .inl (hgen _ hev hg)
  ·right
   rw [hev x (by simp [I.xs])] at h0
   rw [jbs (s:=s) (l:=args) fun y hy=>hev y (by simp [I.xs,hy]),ho] at ht
   refine ⟨f,caps,h0,ht.mono fun rt o' hR η=>?_⟩
   have:=hR η;exact hend ⟨s.t,o'⟩ _ _ rfl (by cases d<;>exact this)
 |_=>exact hgen _ hev hr
theorem jdE {i:Ins} {K K':St→Prop} (h:∀s,K s→K' s) (hr:qC P β i s K):qC P β i s K':=
 jre (d:=none) (v:=.unk) (fun k hk=>by cases hk) (fun s2 _ hk=>h s2 hk) hr
end
inductive Reach (ops:Array Oper):Nat→Nat→Prop where
 |one {j i:Nat} {o:Oper} {e:Edge} (hj:ops[j]?=some o) (he:e∈o.after) (hb:Region.binds .any e=true) (hi:e.on=i):Reach ops j i
 |more {j i:Nat} {o:Oper} {e:Edge} (hj:ops[j]?=some o) (he:e∈o.after) (hb:Region.binds .any e=true) (hi:Reach ops e.on i):Reach ops j i
theorem Reach.trans {ops:Array Oper} {j i k:Nat} (h:Reach ops j i) (h2:Reach ops i k):Reach ops j k:=by
 induction h with
 |one hj he hb hi=>subst hi;exact .more hj he hb h2
 |more hj he hb _ ih=>exact .more hj he hb (ih h2)
theorem jh9 {ops:Array Oper} {j0:Nat}:∀{n:Nat} {seen todo:List Nat},(∀x∈seen,Reach ops j0 x)→(∀x∈todo,x=j0∨Reach ops j0 x)→∀x∈jx9 ops n seen todo,Reach ops j0 x
 |0,_,_,h,_,x,hx=>h x (by simpa [jx9] using hx)
 |n+1,_,[],h,_,x,hx=>h x (by simpa [jx9] using hx)
 |n+1,seen,j::todo,h,h2,x,hx=>by
  simp only [jx9] at hx;split at hx
  ·rename_i o ho
   have hnew:∀y∈(o.after.toList.filter fun e=>Region.binds .any e&&!seen.contains e.on).map (·.on),Reach ops j0 y:=by
    intro y hy;obtain ⟨e,he,rfl⟩:=List.mem_map.1 hy;obtain ⟨he1,he2⟩:=List.mem_filter.1 he
    have hb:Region.binds .any e=true:=by
     cases hq:Region.binds .any e with
     |true=>rfl
     |false=>rw [hq] at he2;simp at he2
    have h1:Reach ops j e.on:=.one ho (by simpa using he1) hb rfl
    rcases h2 j (by simp) with rfl|h3
    ·exact h1
    ·exact h3.trans h1
   refine jh9 (n:=n) ?_ ?_ x hx
   ·intro y hy
    rcases List.mem_append.1 hy with hy|hy
    ·exact hnew y hy
    ·exact h y hy
   ·intro y hy
    rcases List.mem_append.1 hy with hy|hy
    ·exact .inr (hnew y hy)
    ·exact h2 y (by simp [hy])
  ·exact jh9 (n:=n) h (fun y hy=>h2 y (by simp [hy])) x hx
theorem jms {ops:Array Oper} {n j i:Nat} (h:jkL ops n j i=true):Reach ops j i:=by
 unfold jkL at h;rw [List.contains_iff_mem] at h;exact jh9 (by simp) (by simp) i h
def Closed (ops:Array Oper) (listed:Array Bool):Prop:=∀(k:Nat) (o:Oper),ops[k]?=some o→listed.getD k false=true→∀e∈o.after,Region.binds .any e=true→listed.getD e.on false=true
theorem Closed.reach {ops:Array Oper} {listed:Array Bool} (h:Closed ops listed):∀{j i:Nat},Reach ops j i→(∀(o:Oper),ops[j]?=some o→∀e∈o.after,Region.binds .any e=true→listed.getD e.on false=true)→listed.getD i false=true:=by
 intro j i hr
 induction hr with
 |one hj he hb hi=>intro hl;subst hi;exact hl _ hj _ he hb
 |more hj he hb _ ih=>intro hl;exact ih fun o ho e' he' hb'=>h _ o ho (hl _ hj _ he hb) e' he' hb'
theorem Closed.add {ops:Array Oper} {listed:Array Bool} {j:Nat} (h:Closed ops listed) (hj:j∈Region.ready .any ops listed):Closed ops (listed.setIfInBounds j true):=by
 intro k o ho hk e he hb;obtain ⟨_,oj,hoj,hall⟩:=mem_ready.1 hj;by_cases hkj:k=j
 ·subst hkj
  rw [ho] at hoj;cases hoj;exact getD_set_true (hall e he hb)
 ·rw [getD_set_ne false (Ne.symm hkj)] at hk
  exact getD_set_true (h k o ho hk e he hb)
theorem jxH {listed:Array Bool} {i:Nat} (h:listed.getD i true=false):listed.getD i false=false:=by
 rcases Nat.lt_or_ge i listed.size with h'|h'
 ·simpa [h'] using h
 ·simp [Array.getElem?_eq_none h'] at h
section
variable {P:Program} {β N:Nat} {ops:Array Oper} {is:List Ins} {Q:St→Prop}
def jgi (P:Program) (β:Nat) (is:List Ins) (j:Nat) (K:St→Prop) (s:St):Prop:=match is[j]? with
 |none=>False
 |some i=>match qN s i.g with
  |some true=>qC P β i s K
  |some false=>K (s.put i.d (.c (.v undef)))
  |none=>False
def jxy (ops:Array Oper) (j:Nat) (l:List (Nat×List Lk)) (s s':St):Prop:=∀p∈l,¬Reach ops j p.1→∀k∈p.2,jof s s' k
def jsT (P:Program) (β:Nat) (ops:Array Oper) (is:List Ins) (Q:St→Prop):Nat→List (Nat×List Lk)→Array Bool→St→Prop
 |0,_,listed,s=>Region.ready .any ops listed=[]∧Q s
 |f+1,l,listed,s=>(Region.ready .any ops listed=[]→Q s)∧∀j∈Region.ready .any ops listed,jgi P β is j (fun s'=>jxy ops j l s s'∧jsT P β ops is Q f l (listed.setIfInBounds j true) s') s
theorem jjh {j:Nat} {K K':St→Prop} {s:St} (h:∀s,K s→K' s) (hs:jgi P β is j K s):jgi P β is j K' s:=by
 unfold jgi at hs⊢;split
 ·simp_all
 ·rename_i i hi
  simp only [hi] at hs;split
  ·rename_i hw;simp only [hw] at hs;exact jdE h hs
  ·rename_i hw;simp only [hw] at hs;exact h _ hs
  ·rename_i hw;simp only [hw] at hs
theorem jhQ:∀{l:List Oper} {is:List Ins},jhR P N ops l=some is→is.length=l.length∧∀(j:Nat) (o:Oper),l[j]?=some o→∃i,is[j]?=some i∧jvd P N ops o=some i
 |[],is,h=>by simp [jhR] at h;subst h;simp
 |o::l,is,h=>by
  simp only [jhR] at h;split at h
  ·rename_i i r h1 h2
   simp at h;subst h;obtain ⟨h3,h4⟩:=jhQ h2;refine ⟨by simp [h3],fun j o' ho=>?_⟩
   cases j with
   |zero=>simp at ho;subst ho;exact ⟨i,rfl,h1⟩
   |succ j=>exact h4 j o' (by simpa using ho)
  ·simp at h
theorem jtB {B:Nat} {w0:World} {Q':Exit→Act→World→Prop} (hc:jhR P N ops ops.toList=some is) (hQ:∀s a w F,RelF B w0 N s a w F→Q s→Q' .normal a w):∀(f:Nat) (l:List (Nat×List Lk)) (listed:Array Bool) (s:St) (a:Act) (w:World) (F:Nat→List Nat),
 RelF B w0 N s a w F→jsT P β ops is Q f l listed s→wpAny P .any ops Q' f listed a w
 |0,_,_,s,a,w,F,h,hs=>⟨hs.1,hQ _ _ _ _ h hs.2⟩
 |f+1,l,listed,s,a,w,F,h,hs=>by
  refine ⟨fun h0=>hQ _ _ _ _ h (hs.1 h0),fun j hj=>?_⟩
  have hst:=hs.2 j hj;obtain ⟨_,o,ho,_⟩:=mem_ready.1 hj;obtain ⟨i,hi,hci⟩:=(jhQ hc).2 j o (by simpa using ho)
  obtain ⟨e1,e2,e3,e4⟩:=joA hci;unfold jgi at hst;simp only [hi] at hst;unfold wpOp;simp only [ho];split at hst
  ·rename_i hw
   rw [if_pos (jgG h e4 hw)];refine .inl (jzg e2 (g:=i.g) (β:=β) (K:=fun s'=>jxy ops j l s s'∧jsT P β ops is Q f l (listed.setIfInBounds j true) s') h e3 (by rw [←e1];exact hst) _ _ fun a' w' ⟨s',F',h3,h4⟩=>jtB hc hQ f l _ _ _ _ _ h3 h4.2)
  ·rename_i hw
   rw [if_neg (by rw [jgG h e4 hw];simp)]
   rw [e1] at hst;exact jtB hc hQ f l _ _ _ _ _ (h.put (u:=undef) (v:=.c (.v undef)) rfl e3) hst.2
  ·exact hst.elim
theorem joJ {p:Nat×List Lk}:∀(f:Nat) (l:List (Nat×List Lk)) (listed:Array Bool) (s:St),jsT P β ops is Q f (p::l) listed s→jsT P β ops is Q f l listed s
 |0,_,_,_,h=>h
 |f+1,l,listed,s,h=>⟨h.1,fun j hj=>jjh (fun s' ⟨h1,h2⟩=>⟨fun q hq=>h1 q (by simp [hq]),joJ f l _ s' h2⟩) (h.2 j hj)⟩
theorem jtA {i:Nat}:∀(f:Nat) (l:List (Nat×List Lk)) (listed:Array Bool) (s:St),jsT P β ops is Q f l listed s→jsT P β ops is Q f ((i,[])::l) listed s
 |0,_,_,_,h=>h
 |f+1,l,listed,s,h=>⟨h.1,fun j hj=>jjh (fun s' ⟨h1,h2⟩=>⟨fun q hq hr g hg=>by
   rcases List.mem_cons.1 hq with rfl|hq
   ·simp at hg
   ·exact h1 q hq hr g hg,jtA f l _ s' h2⟩) (h.2 j hj)⟩
def EY (P:Program) (x:Ins) (s:St) (v:AV) (ids:List Lk):Prop:=
 (qN s x.g=some true∧x.i.pureB=true∧ids=x.i.looks s∧∀d rt st,Gen P s d rt st x.i v [])∨(qN s x.g=some false∧v=.c (.v undef)∧ids=[])
theorem EY.run {x:Ins} {s:St} {v:AV} {ids:List Lk} {i:Nat} {K:St→Prop} (his:is[i]?=some x) (h:EY P x s v ids) (hk:K (s.put x.d v)):jgi P β is i K s:=by
 unfold jgi;simp only [his];rcases h with ⟨h1,h2,_,h3⟩|⟨h1,rfl,_⟩
 ·simp only [h1]
  rw [jg7 h2];exact ⟨.c (.val undef),fun st=>⟨v,[],h3 _ _ _,hk⟩⟩
 ·simp only [h1];exact hk
theorem jiJ {s s2:St} {g:Option (Nat×Bool)} (h:∀t w,g=some (t,w)→s2.t t=s.t t):qN s2 g=qN s g:=by
 cases g with
 |none=>rfl
 |some p=>obtain ⟨t,w⟩:=p;simp only [qN,h t w rfl]
theorem EY.stable {x:Ins} {s s2:St} {v:AV} {ids:List Lk} (h:EY P x s v ids) (ht:∀n∈x.uses,s2.t n=s.t n) (ho:∀k∈ids,jof s s2 k):EY P x s2 v ids:=by
 have hev:∀y∈x.i.xs,s2.ev y=s.ev y:=fun y hy=>jos fun n hn=>ht n (by
  subst hn;exact List.mem_append_left _ (List.mem_filterMap.2 ⟨_,hy,rfl⟩))
 have hw:qN s2 x.g=qN s x.g:=jiJ fun t w hg=>ht t (by simp [Ins.uses,hg])
 rcases h with ⟨h1,h2,h3,h4⟩|⟨h1,h2,h3⟩
 ·refine .inl ⟨by rw [hw];exact h1,h2,by rw [jm2 hev];exact h3,fun d rt st=>jlL hev (fun g hg=>ho g (by rw [h3];exact hg)) (fun hp=>by rw [h2] at hp;cases hp) (h4 d rt st)⟩
 ·exact .inr ⟨by rw [hw];exact h1,h2,h3⟩
theorem jqo {x y:Ins} (h:jjr x y=true):(∀d,x.d=some d→d∉y.uses∧y.d≠some d)∧∀d,y.d=some d→d∉x.uses:=by
 simp only [jjr,Bool.and_eq_true] at h;refine ⟨fun d hd=>?_,fun d hd=>?_⟩
 ·have:=h.1;rw [hd] at this;simpa using this
 ·have:=h.2;rw [hd] at this;simpa using this
theorem jsS {j:Nat} {x y:Ins} {s:St} {v:AV} {K K':St→Prop} (hy:is[j]?=some y) (hap:jjr x y=true) (h:∀s2:St,(∀n∈x.uses,s2.t n=s.t n)→K (s2.put x.d v)→K' s2) (hs:jgi P β is j K (s.put x.d v)):jgi P β is j K' s:=by
 obtain ⟨h1,h2⟩:=jqo hap
 have hw:qN (s.put x.d v) y.g=qN s y.g:=jiJ fun t w hg=>by
  cases hd:x.d with
  |none=>rfl
  |some d=>
   have hne:t≠d:=fun e=>(h1 d hd).1 (by simp [Ins.uses,hg,e])
   show (if t=d then v else s.t t)=_
   rw [if_neg hne]
 unfold jgi at hs⊢;simp only [hy,hw] at hs⊢;split at hs
 ·refine jre (fun k hk=>⟨fun z hz e=>(h1 k hk).1 ?_,(h1 k hk).2⟩) (fun s2 ht hk=>h s2 (fun n hn=>ht n fun e=>h2 n e hn) hk) hs
  subst e;exact List.mem_append_left _ (List.mem_filterMap.2 ⟨_,hz,rfl⟩)
 ·refine h _ (fun n hn=>?_) ?_
  ·cases hd:y.d with
   |none=>rfl
   |some d=>
    show (if n=d then _ else s.t n)=_
    rw [if_neg fun (e:n=d)=>h2 d hd (e▸hn)]
  ·have e:(s.put x.d v).put y.d (.c (.v undef))=(s.put y.d (.c (.v undef))).put x.d v:=by
    cases hd:x.d with
    |none=>rfl
    |some k=>
     cases hd2:y.d with
     |none=>rfl
     |some m=>
      have hne:m≠k:=fun e=>(h1 k hd).2 (by rw [hd2,e])
      simp only [St.put,St.mk.injEq,and_true]
      funext n
      by_cases h1:n=m<;>by_cases h2:n=k<;>simp_all
   rw [←e];exact hs
 ·exact hs
theorem jmn {i:Nat} {x:Ins} {v:AV} {ids:List Lk} (hlen:is.length=ops.size) (his:is[i]?=some x):∀(f:Nat) (l:List (Nat×List Lk)) (listed:Array Bool) (s:St),Closed ops listed→
 (∀(j:Nat) (oj:Oper) (y:Ins),ops[j]?=some oj→is[j]?=some y→j≠i→listed.getD j true=false→(∀e∈oj.after,Region.binds .any e=true→e.on≠i)→jjr x y=true)→
 i∈Region.ready .any ops listed→EY P x s v ids→jsT P β ops is Q f ((i,ids)::l) (listed.setIfInBounds i true) (s.put x.d v)→jsT P β ops is Q (f+1) l listed s:=by
 intro f
 induction f with
 |zero=>
  intro l listed s _ _ hr hy H;refine ⟨fun h=>(by rw [h] at hr;cases hr),fun j hj=>?_⟩
  by_cases hji:j=i
  ·subst hji
   exact hy.run his ⟨fun p _ _ g _=>jke,H⟩
  ·have:=ready_mono hj hji
   rw [H.1] at this;cases this
 |succ f ih=>
  intro l listed s hcl hfree hr hy H;refine ⟨fun h=>(by rw [h] at hr;cases hr),fun j hj=>?_⟩
  by_cases hji:j=i
  ·subst hji
   exact hy.run his ⟨fun p _ _ g _=>jke,joJ _ _ _ _ H⟩
  ·have h1:=H.2 j (ready_mono hj hji)
   obtain ⟨hjun,oj,hoj,hall⟩:=mem_ready.1 hj;have hiun:=(mem_ready.1 hr).1
   have hnr:¬Reach ops j i:=fun hh=>by
    have:=hcl.reach hh fun o ho e he hb=>by rw [hoj] at ho;cases ho;exact hall e he hb
    rw [jxH hiun] at this;cases this
   have hnot:∀e∈oj.after,Region.binds .any e=true→e.on≠i:=fun e he hb heq=>hnr (.one hoj he hb heq)
   have hjlt:j<is.length:=by rw [hlen];exact (Array.getElem?_eq_some_iff.1 hoj).1
   obtain ⟨y,hyj⟩:∃y,is[j]?=some y:=⟨is[j],List.getElem?_eq_getElem hjlt⟩;refine jsS hyj (hfree j oj y hoj hyj hji hjun hnot) (fun s2 ht ⟨k1,k2⟩=>?_) h1
   refine ⟨fun p hp hnp g hg=>?_,?_⟩
   ·have:=k1 p (by simp [hp]) hnp g hg
    exact kept_put2.1 this
   ·have hyk:EY P x s2 v ids:=hy.stable ht fun g hg=>by
     have:=k1 (i,ids) (by simp) hnr g hg
     exact kept_put2.1 this
    refine ih l (listed.setIfInBounds j true) s2 (hcl.add hj) (fun k ok z hk hz hki hun hno=>?_) (ready_mono hr (Ne.symm hji)) hyk ?_
    ·refine hfree k ok z hk hz hki ?_ hno
     by_cases hjk:j=k
     ·subst hjk;exact hjun
     ·rw [getD_set_ne true hjk] at hun;exact hun
    ·rw [Array.setIfInBounds_comm _ _ hji]
     exact k2
theorem jsz {i:Nat} {x:Ins} {listed:Array Bool} (his:is[i]?=some x) (h:jxJ ops is listed i=true):x.i.pureB=true∧∀(j:Nat) (oj:Oper) (y:Ins),ops[j]?=some oj→is[j]?=some y→j≠i→listed.getD j true=false→(∀e∈oj.after,Region.binds .any e=true→e.on≠i)→jjr x y=true:=by
 simp only [jxJ,his,Bool.and_eq_true,List.all_eq_true,List.mem_range] at h;refine ⟨h.1,fun j oj y hj hy hne hun hno=>?_⟩
 have h1:=h.2 j (Array.getElem?_eq_some_iff.1 hj).1;simp only [hj,hy,Bool.or_eq_true,beq_iff_eq,hne,false_or,hun,Bool.false_eq_true] at h1;rcases h1 with h1|h1
 ·obtain ⟨e,he,hb⟩:=Array.any_eq_true'.1 h1
  simp only [Bool.and_eq_true,beq_iff_eq] at hb;exact absurd hb.2 (hno e he hb.1)
 ·exact h1
theorem jlz {s s':St}:∀{l:List Lk},jm6 s s' l→∀g∈l,jof s s' g
 |[],_,g,hg=>by simp at hg
 |k::l,h,g,hg=>by
  rcases List.mem_cons.1 hg with rfl|hg
  ·exact h.1
  ·exact jlz h.2 g hg
theorem jly {s s':St} {chk:List Nat}:∀{l:List (Nat×List Lk)},jkf s s' chk l→∀p∈l,p.1∈chk→∀g∈p.2,jof s s' g
 |[],_,p,hp,_=>by simp at hp
 |(q,ids)::l,h,p,hp,hc=>by
  rcases List.mem_cons.1 hp with rfl|hp
  ·have:=h.1
   rw [if_pos (by simpa using hc)] at this
   exact jlz this
  ·exact jly h.2 p hp hc
theorem zJ (hlen:is.length=ops.size):∀(f:Nat) (pures:List Nat) (listed:Array Bool) (t:T) (l:List (Nat×List Lk)) (s:St),mkT ops is f pures listed=some t→(∀p∈l,p.1∈pures)→Closed ops listed→vc P β t l s Q→jsT P β ops is Q f l listed s
 |0,pures,listed,t,l,s,h,_,_,hr=>by
  simp only [mkT] at h;split at h
  ·rename_i he
   simp at h;subst h;exact ⟨by simpa using he,hr⟩
  ·simp at h
 |f+1,pures,listed,t,l,s,h,hl,hcl,hr=>by
  simp only [mkT] at h;split at h
  ·rename_i he
   simp at h;subst h;have he':Region.ready .any ops listed=[]:=by simpa using he
   exact ⟨fun _=>hr,fun j hj=>by rw [he'] at hj;cases hj⟩
  ·rename_i hne
   split at h
   ·rename_i i hfi
    have hmem:=List.mem_of_find?_eq_some hfi;have hfree:=List.find?_some hfi;split at h
    ·rename_i x t' his ht
     simp at h;subst h;obtain ⟨hp,hfr⟩:=jsz his hfree;simp only [vc] at hr;split at hr
     ·rename_i hw
      rw [jg7 hp] at hr;obtain ⟨rt,hg⟩:=hr;obtain ⟨av,os,h1,h2⟩:=hg ⟨0,fun _ _=>undef⟩
      have h3:=fun d rt st=>juO (d':=d) (rt':=rt) (st':=st) hp h1
      obtain rfl:=(h3 0 rt ⟨0,fun _ _=>undef⟩).2
      exact jmn hlen his f l listed s hcl hfr hmem (.inl ⟨hw,hp,rfl,fun d rt st=>(h3 d rt st).1⟩) (zJ hlen f _ _ _ _ _ ht (fun p hp'=>by
       rcases List.mem_cons.1 hp' with rfl|hp'
       ·simp
       ·simp [hl p hp']) (hcl.add hmem) h2)
     ·rename_i hw
      exact jmn hlen his f l listed s hcl hfr hmem (.inr ⟨hw,rfl,rfl⟩) (jtA _ _ _ _ (zJ hlen f _ _ _ _ _ ht (fun p hp'=>by simp [hl p hp']) (hcl.add hmem) hr))
     ·exact hr.elim
    ·simp at h
   ·rename_i hnf
    refine ⟨fun h0=>absurd (by simpa using h0) hne,?_⟩
    have key:∀(r:List Nat) (t:T),(∀j∈r,j∈Region.ready .any ops listed)→(r.foldr (fun j acc=>match is[j]?,mkT ops is f pures (listed.setIfInBounds j true),acc with
     |some x,some t,some rest=>some (.alt x (pures.filter fun p=>!jkL ops ops.size j p) t rest)
     |_,_,_=>none) (some .stop))=some t→vc P β t l s Q→∀j∈r,jgi P β is j (fun s'=>jxy ops j l s s'∧jsT P β ops is Q f l (listed.setIfInBounds j true) s') s:=by
     intro r
     induction r with
     |nil=>intro _ _ _ _ j hj;cases hj
     |cons k r ih=>
      intro t hsub h hr j hj;simp only [List.foldr_cons] at h;split at h
      ·rename_i x t' rest hx ht hrest
       simp at h;subst h;obtain ⟨hr1,hr2⟩:=hr;rcases List.mem_cons.1 hj with rfl|hj
       ·have hjr:=hsub j (by simp)
        unfold jgi;simp only [hx];split at hr1
        ·rename_i hw
         simp only [hw];refine jdE (fun s' ⟨k1,k2⟩=>⟨fun p hp hnp g hg=>?_,zJ hlen f _ _ _ _ _ ht hl (hcl.add hjr) k2⟩) hr1
         refine jly k1 p hp (List.mem_filter.2 ⟨hl p hp,?_⟩) g hg;cases hwt:jkL ops ops.size j p.1 with
         |false=>rfl
         |true=>exact absurd (jms hwt) hnp
        ·rename_i hw
         simp only [hw];exact ⟨fun p _ _ g _=>jke,zJ hlen f _ _ _ _ _ ht hl (hcl.add hjr) hr1⟩
        ·exact hr1.elim
       ·exact ih rest (fun k hk=>hsub k (by simp [hk])) hrest hr2 j hj
      ·simp at h
    exact key _ t (fun j hj=>hj) h hr
theorem jxQ {B:Nat} {w0 w:World} {s:St} {a:Act} {F:Nat→List Nat} {id:Nat} {t:T} {Q':Exit→Act→World→Prop} (h:RelF B w0 N s a w F) (hc:jvc P N ops=some t) (hr:vc P β t [] s Q) (hQ:∀s a w F,RelF B w0 N s a w F→Q s→Q' .normal a w):
 (Code.region id ops true).wp P Q' a w:=by
 unfold jvc at hc;split at hc
 ·rename_i hm
  split at hc
  ·rename_i is hcl
   have hlen:=(jhQ hcl).1;simp only [Array.length_toList] at hlen;refine wp_region_any hm (jtB hcl hQ ops.size [] _ s a _ F (h.world (w':=w.drew) (jsU w)) (zJ hlen _ _ _ _ _ _ hc (by simp) (fun k o ho hk=>?_) hr))
   exfalso;have hlt:=(Array.getElem?_eq_some_iff.1 ho).1;simp [hlt] at hk
  ·simp at hc
 ·simp at hc
end
end Go.Proofs.Ytmnpailnelmpiaa
