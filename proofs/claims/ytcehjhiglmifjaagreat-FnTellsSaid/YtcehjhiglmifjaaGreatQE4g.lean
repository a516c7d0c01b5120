/- Parts. -/
import Derived.Test.YtcehjhiglmifjaaGreatQE4bd
import Derived.LoopN
set_option linter.all false
namespace Go.Proofs.YtcehjhiglmifjaaGreat
open Go.RowKit Go.Sort
section
variable {P:Program} {β B N:Nat} {w w0:World} {s:St} {a:Act} {F:Nat->List Nat} {o:Oper} {K:St->Prop}
theorem OpOk.of_goes (h:RelF B w0 N s a w F) (hd:∀k,o.dst=some k->k<N) (hg:Goes P o a w (kE B w λav os=>K ((s.addO os).put o.dst av))):
 OpOk P o a w (λa' w'=>∃s' F',RelF B w0 N s' a' w' F'/\K s'):=by
 intro next Q hk;refine hg next Q λv w' ⟨av,os,S,h1,h2,h3,h4,h5⟩=>?_
 have hB:B<=w.heap.size:=aNX h.hB h.below.size
 obtain ⟨F',h6⟩:=(h.world h4).addO h2 (h3.mono hB) λg b hb bA=>by
  have:=(h.ob g).lt b bA;have:=h3.2 b hb;omega
 exact hk _ _ ⟨_,_,h6.put h1 hd,h5⟩
def jzf (P:Program) (o:Oper) (i:I):Prop:=∀{β B N:Nat} {w w0:World} {s:St} {a:Act} {F:Nat->List Nat} {K:St->Prop} {g:Option (Nat×Bool)},
 RelF B w0 N s a w F->(∀k,o.dst=some k->k<N)->vv P β ⟨o.dst,g,i⟩ s K->OpOk P o a w (λa' w'=>∃s' F',RelF B w0 N s' a' w' F'/\K s')
theorem jAF {c:Call} {i:I} (ho:o.op=.call c) (hc:jns P c=some i):jzf P o i:=by
 intro β B N w w0 s a F K g h hd hr;unfold jns at hc;split at hc
 ·rename_i x h1 h2
  split at hc
  ·rename_i x' h3 h4
   simp at hc;subst hc;obtain ⟨rt,hg⟩:=hr;exact .of_goes h hd (go_len (str:=true) h ho h1 h2 h3 h4 hg)
  ·rename_i e x' h3 h4
   simp at hc;subst hc;obtain ⟨rt,hg⟩:=hr;exact .of_goes h hd (go_len (str:=false) h ho h1 h2 ⟨_,h3⟩ h4 hg)
  ·simp at hc
 ·rename_i x y h1 h2
  split at hc
  ·rename_i t t' h3
   split at hc
   ·rename_i e e' h4 h5
    split at hc
    ·rename_i i' zs x' y' h6 h7 h8 h9
     split at hc
     ·rename_i hU
      simp at hc;subst hc;simp at hU;obtain ⟨nX,rfl⟩:=hU;exact jCi h ho h1 h2 h3 h4 h6 h7 nX h8 h9 hd hr
     ·simp at hc
    ·simp at hc
   ·rename_i e h4 h5
    split at hc
    ·rename_i i' x' y' h6 h7 h8 h9
     split at hc
     ·rename_i hU
      split at hc
      ·rename_i nX
       simp at hc;subst hc;simp at nX;exact jz5 h ho h1 h2 h3 h4 h5 h7 hU nX.1 nX.2 h8 h9 hd hr
      ·simp at hc
     ·simp at hc
    ·simp at hc
   ·simp at hc
  ·simp at hc
 ·rename_i x h1 h2
  split at hc
  ·rename_i t h3
   split at hc
   ·rename_i e h4
    split at hc
    ·rename_i i' zs x' h6 h7 h8
     split at hc
     ·rename_i hU
      simp at hc;subst hc;exact jCf h ho h1 h2 h3 h4 h6 h7 hU h8 hr
     ·simp at hc
    ·simp at hc
   ·simp at hc
  ·simp at hc
 ·rename_i x y h1 h2
  split at hc
  ·rename_i x' y' h3 h4
   simp at hc;subst hc;obtain ⟨rt,hg⟩:=hr;exact .of_goes h hd (go_mm (mx:=true) h ho h1 h2 h3 h4 hg)
  ·simp at hc
 ·rename_i x y h1 h2
  split at hc
  ·rename_i x' y' h3 h4
   simp at hc;subst hc;obtain ⟨rt,hg⟩:=hr;exact .of_goes h hd (go_mm (mx:=false) h ho h1 h2 h3 h4 hg)
  ·simp at hc
 ·rename_i f h1
  split at hc
  ·rename_i fn l h3 h4
   split at hc
   ·simp at hc;subst hc
    rcases hr with ⟨rt,hg⟩|ht|ht
    ·exact .of_goes h hd (go_call h ho h1 h4 hg)
    ·exact jrn h (jcS (cs:=[]) ht.1 ho h1 rfl rfl) (by simpa using jjs (caps:=[]) (cs:=[]) h h4 rfl) hd ht
    ·exact jCe h (jcS (cs:=[]) ht.1 ho h1 rfl rfl) (by simpa using jjs (caps:=[]) (cs:=[]) h h4 rfl) hd ht
   ·simp at hc
  ·simp at hc
 ·rename_i t h1
  cases h2:zD c.args.toList with
  |none=>rw [h2] at hc;simp at hc
  |some l=>
   rw [h2] at hc;simp at hc;subst hc;rcases hr with ⟨rt,hg⟩|⟨f,caps,h0,ht⟩
   ·exact .of_goes h hd (go_callv h ho h1 h2 hg)
   ·have wK:=h.sl t
    rw [show s.t t=.fn f caps from h0] at wK
    obtain ⟨cs,k1,k2⟩:=wK;exact jrn h (jcS ht.1 ho h1 k1 rfl) (jjs h h2 k2) hd ht
 ·simp at hc
theorem jly {lo hi:Option Operand} {n:Nat} {x:X} {i:I} (hc:(match lo.map jQ,hi.map jQ with
        |none,none=>some (I.sl n x none none)
        |some (some a),none=>some (.sl n x (some a) none)
        |none,some (some b)=>some (.sl n x none (some b))
        |some (some a),some (some b)=>some (.sl n x (some a) (some b))
        |_,_=>none)=some i):∃lo' nE,i=.sl n x lo' nE/\((lo=none/\lo'=none)\/∃y y',lo=some y/\lo'=some y'/\jQ y=some y')/\((hi=none/\nE=none)\/∃y y',hi=some y/\nE=some y'/\jQ y=some y'):=by
 cases lo<;>cases hi<;>simp only [Option.map_none,Option.map_some] at hc
 ·simp at hc;subst hc;exact ⟨_,_,rfl,.inl ⟨rfl,rfl⟩,.inl ⟨rfl,rfl⟩⟩
 ·split at hc<;>simp_all
 ·split at hc<;>simp_all
 ·split at hc<;>simp_all
theorem jCc {i:I} (hc:zA P o.op=some i):jzf P o i:=by
 intro β B N w w0 s a F K g h hd hr;cases ho:o.op with
 |move x=>
  simp only [ho,zA] at hc;cases h1:jQ x with
  |none=>simp [h1] at hc
  |some x'=>
   simp [h1] at hc;subst hc;obtain ⟨rt,hg⟩:=hr;exact .of_goes h hd (go_mov h (.inl ho) h1 hg)
 |assign x=>
  simp only [ho,zA] at hc;cases h1:jQ x with
  |none=>simp [h1] at hc
  |some x'=>
   simp [h1] at hc;subst hc;obtain ⟨rt,hg⟩:=hr;exact .of_goes h hd (go_mov h (.inr ho) h1 hg)
 |pick c x y=>
  simp only [ho,zA] at hc;split at hc
  ·rename_i c' x' y' h1 h2 h3
   simp at hc;subst hc;obtain ⟨rt,hg⟩:=hr;exact .of_goes h hd (go_pick h ho h1 h2 h3 hg)
  ·simp at hc
 |alloc e=>
  simp only [ho,zA] at hc;cases h1:vJ P e with
  |none=>simp [h1] at hc
  |some z=>
   simp [h1] at hc;subst hc;obtain ⟨rt,hg⟩:=hr;exact .of_goes h hd (go_alloc h ho h1 hg)
 |box e x=>
  simp only [ho,zA] at hc;split at hc
  ·rename_i n x' h1 h2
   simp at hc;subst hc;exact jCh h ho h2 hd hr
  ·simp at hc
 |build t ps=>
  simp only [ho,zA] at hc;split at hc
  ·rename_i fs z h1 h2
   split at hc
   ·simp at hc
   ·rename_i h3
    simp only [Option.map_eq_some_iff] at hc;obtain ⟨ps',h4,rfl⟩:=hc;obtain ⟨rt,hg⟩:=hr;exact .of_goes h hd (go_bld h ho h1 h2 (by cases hq:(fs.toList.all λf=>(P.info? f.type).isSome) with|true=>rfl|false=>exact absurd (by rw [hq];rfl) h3) h4 hg)
  ·simp at hc
 |buildSlice t n ps=>
  simp only [ho,zA] at hc;split at hc
  ·rename_i e h1
   split at hc
   ·rename_i size h2
    split at hc
    ·rename_i h3
     simp only [Option.map_eq_some_iff] at hc;obtain ⟨ps',h4,rfl⟩:=hc;simp only [aMY,aNC,aOO] at h3;obtain ⟨⟨⟨h5,h6⟩,h7⟩,h8⟩:=h3;obtain ⟨z,hz⟩:=Option.isSome_iff_exists.1 h6;exact jCg h ho h1 h2 h5 hz h7 h8 h4 hd hr
    ·simp at hc
   ·simp at hc
  ·simp at hc
 |load t x=>
  simp only [ho,zA] at hc;split at hc
  ·rename_i fs n x' h1 h2 h3
   simp at hc;subst hc;obtain ⟨rt,hg⟩:=hr;exact .of_goes h hd (go_ld h ho h1 rfl h2 h3 hg)
  ·simp at hc
  ·rename_i dsc x' d8 rC h1 h2 h3
   simp at hc;subst hc;obtain ⟨rt,hg⟩:=hr;refine .of_goes h hd (go_ld h ho h1 ?_ h2 h3 hg);cases dsc<;>simp_all [jA1]
  ·simp at hc
 |store t x y=>
  simp only [ho,zA] at hc;split at hc
  ·rename_i n x' y' h1 h2 h3
   simp at hc;subst hc;exact ok_st h ho h1 h2 h3 hr
  ·simp at hc
 |binOp op t x y t'=>
  simp only [ho,zA] at hc;split at hc
  ·rename_i x' y' h1 h2
   split at hc
   ·rename_i h3
    split at hc
    ·simp at hc;subst hc
     obtain ⟨rt,hg⟩:=hr;exact .of_goes h hd (go_beq (neg:=false) h ho h3 h1 h2 hg)
    ·simp at hc;subst hc
     obtain ⟨rt,hg⟩:=hr;exact .of_goes h hd (go_beq (neg:=true) h ho h3 h1 h2 hg)
    ·simp at hc
   ·simp at hc;subst hc
    obtain ⟨rt,hg⟩:=hr;exact .of_goes h hd (go_bin h ho h1 h2 hg)
   ·simp at hc
  ·simp at hc
 |unOp op t x=>
  simp only [ho,zA] at hc;cases h1:jQ x with
  |none=>simp [h1] at hc
  |some x'=>
   simp [h1] at hc;subst hc;obtain ⟨rt,hg⟩:=hr;exact .of_goes h hd (go_un h ho h1 hg)
 |convert t t' x=>
  simp only [ho,zA] at hc;split at hc
  ·rename_i k0 k x' h1 h2 h3
   simp at hc;subst hc;obtain ⟨rt,hg⟩:=hr;exact .of_goes h hd (go_num h ho h1 h2 h3 hg)
  ·rename_i e x' h1 h2 h3
   split at hc
   ·rename_i h4
    simp at hc;subst hc;obtain ⟨rt,hg⟩:=hr;exact .of_goes h hd (go_text h ho h1 h4 h2 h3 hg)
   ·simp at hc
  ·simp at hc
 |makeSlice t l c=>
  simp only [ho,zA] at hc;split at hc
  ·rename_i e l' c' h1 h2 h3
   split at hc
   ·rename_i i' z h4 h5
    split at hc
    ·rename_i h6
     simp at hc;subst hc;obtain ⟨rt,hg⟩:=hr;exact .of_goes h hd (go_mks h ho h1 h4 h5 h6 h2 h3 hg)
    ·simp at hc
   ·simp at hc
  ·simp at hc
 |slice t x lo hi m=>
  cases m with
  |some m=>simp [ho,zA] at hc
  |none=>
   simp only [ho,zA] at hc;split at hc
   ·rename_i e x' h1 h2
    split at hc
    ·rename_i n h3
     obtain ⟨lo',nE,rfl,h4,h5⟩:=jly hc;obtain ⟨rt,hg⟩:=hr;exact .of_goes h hd (go_sl_ro h ho h1 h3 h2 h4 h5 hg)
    ·simp at hc
   ·rename_i x' h1 h2
    obtain ⟨lo',nE,rfl,h4,h5⟩:=jly hc;obtain ⟨rt,hg⟩:=hr;exact .of_goes h hd (go_sl_str h ho h1 h2 h4 h5 hg)
   ·simp at hc
 |nilCheck x=>
  simp only [ho,zA,Option.map_eq_some_iff] at hc;obtain ⟨x',h1,rfl⟩:=hc;obtain ⟨rt,hg⟩:=hr;exact .of_goes h hd (go_nc h ho h1 hg)
 |fieldAddr t x f=>
  simp only [ho,zA] at hc;split at hc
  ·rename_i fs x' h1 h2
   split at hc
   ·rename_i fd h3
    split at hc
    ·rename_i n h4
     simp at hc;subst hc;obtain ⟨rt,hg⟩:=hr;exact .of_goes h hd (go_fa h ho h1 h3 h4 h2 hg)
    ·simp at hc
   ·simp at hc
  ·simp at hc
 |indexAddr t x j=>
  simp only [ho,zA] at hc;split at hc
  ·rename_i e x' j' h1 h2 h3
   split at hc
   ·rename_i n h4
    simp at hc;subst hc;obtain ⟨rt,hg⟩:=hr;exact .of_goes h hd (go_ia h ho h1 h4 h2 h3 hg)
   ·simp at hc
  ·simp at hc
 |index t x j=>
  simp only [ho,zA] at hc;split at hc
  ·rename_i x' j' h1 h2 h3
   simp at hc;subst hc;obtain ⟨rt,hg⟩:=hr;exact .of_goes h hd (go_sidx h ho h1 h2 h3 hg)
  ·simp at hc
 |extract x j=>
  simp only [ho,zA] at hc;cases h1:jQ x with
  |none=>simp [h1] at hc
  |some x'=>
   simp [h1] at hc;subst hc;obtain ⟨rt,hg⟩:=hr;exact .of_goes h hd (go_ext h ho h1 hg)
 |field t x f=>
  simp only [ho,zA] at hc;split at hc
  ·rename_i fs x' h1 h2
   split at hc
   ·rename_i fd h3
    split at hc
    ·rename_i n h4 h5
     simp at hc;subst hc;obtain ⟨rt,hg⟩:=hr;exact .of_goes h hd (go_fld h ho h1 h3 h4 rfl h5 h2 hg)
    ·simp at hc
    ·rename_i dsc h4 h5 h6 h7
     simp at hc;subst hc;obtain ⟨rt,hg⟩:=hr;exact .of_goes h hd (go_fld h ho h1 h3 h6 (by cases dsc<;>first|rfl|simp_all) h7 h2 hg)
    ·simp at hc
   ·simp at hc
  ·simp at hc
 |makeFunc fn first caps=>
  cases fn with
  |func f=>
   simp only [ho,zA] at hc;split at hc
   ·rename_i h1
    cases h2:zD caps.toList with
    |none=>simp [h2] at hc
    |some l=>
     simp [h2] at hc;subst hc;obtain ⟨rt,hg⟩:=hr;exact .of_goes h hd (go_mkf h ho (by simpa using h1) h2 hg)
   ·simp at hc
  |_=>simp [ho,zA] at hc
 |call c=>simp only [ho,zA] at hc;exact jAF ho hc h hd hr
 |_=>simp [ho,zA] at hc
def jqL (N:Nat) (ops:Array Oper) (g:Option (Nat×Bool)) (g':Option (Nat×Bool)):Prop:=match g with
 |none=>g'=none
 |some (j,want)=>∃t,(ops[j]?).bind (·.dst)=some t/\t<N/\g'=some (t,want)
theorem ji6 (h:RelF B w0 N s a w F) {ops:Array Oper} {g':Option (Nat×Bool)} {b:Bool} (hg:jqL N ops o.guard g') (hw:zf s g'=some b):
 Region.wanted o (yielded ops a.tmps)=b:=by
 unfold Region.wanted;cases ho:o.guard with
 |none=>rw [ho] at hg;simp only [jqL] at hg;subst hg;simp [zf] at hw;simpa using hw
 |some p=>
  obtain ⟨j,want⟩:=p;rw [ho] at hg;obtain ⟨t,h1,h2,rfl⟩:=hg;have hv:=h.sl t;have aB:t<a.tmps.size:=by rw [h.sz];exact h2
  have he:a.tmps.getD t undef=a.tmps[t]:=by simp [Array.getD_eq_getD_getElem?,aB]
  rw [he] at hv;simp only [zf] at hw;simp only [yielded,h1,Option.bind_some,Array.getElem?_eq_getElem aB];split at hw
  ·rename_i b' hb
   rw [hb] at hv;rw [show a.tmps[t]=.bool b' from hv]
   simp at hw;subst hw;cases b'<;>cases want<;>rfl
  ·rename_i u hu hb
   rw [hb] at hv;have rV:a.tmps[t]=u:=hv;rw [rV];simp at hw;subst hw;cases u<;>simp_all
  ·simp at hw
theorem jrV {ops:Array Oper} {i:Ins} (hc:jyh P N ops o=some i):i.d=o.dst/\zA P o.op=some i.i/\(∀k,o.dst=some k->k<N)/\jqL N ops o.guard i.g:=by
 unfold jyh at hc;split at hc
 ·rename_i j h1 h2
  have hd:∀k,o.dst=some k->k<N:=λk hk=>by rw [hk] at h2;simpa using h2
  cases hg:o.guard with
  |none=>rw [hg] at hc;simp at hc;subst hc;exact ⟨rfl,h1,hd,rfl⟩
  |some p=>
   obtain ⟨k,want⟩:=p;rw [hg] at hc;simp only at hc;split at hc
   ·rename_i t ht
    split at hc
    ·rename_i aB
     simp at hc;subst hc;exact ⟨rfl,h1,hd,t,ht,aB,rfl⟩
    ·simp at hc
   ·simp at hc
 ·simp at hc
theorem jqc {ops:Array Oper} {Q:Exit->Act->World->Prop} (hQ:∀s a w F,RelF B w0 N s a w F->K s->Q .normal a w):∀{l:List Oper} {is:List Ins} {s:St} {a:Act} {w:World} {F:Nat->List Nat},
 jkl P N ops l=some is->RelF B w0 N s a w F->jg5 P β is s K->wpList P ops Q l a w
 |[],is,s,a,w,F,hc,h,hr=>by simp [jkl] at hc;subst hc;exact hQ _ _ _ _ h hr
 |o::l,is,s,a,w,F,hc,h,hr=>by
  simp only [jkl] at hc;split at hc
  ·rename_i i r h1 h2
   simp at hc;subst hc;obtain ⟨e1,e2,e3,e4⟩:=jrV h1;simp only [jg5] at hr;unfold wpList;split at hr
   ·rename_i hw
    rw [if_pos (ji6 h e4 hw)];refine .inl (jCc e2 (g:=i.g) (K:=λs'=>jg5 P β r s' K) h e3 (by rw [<-e1];exact hr) _ _ λa' w' ⟨s',F',h3,h4⟩=>jqc hQ h2 h3 h4)
   ·rename_i hw
    rw [if_neg (by rw [ji6 h e4 hw];simp)]
    rw [e1] at hr;exact jqc hQ h2 (h.put (u:=undef) (v:=.c (.v undef)) rfl e3) hr
   ·exact hr.elim
  ·simp at hc
end
section
variable {P:Program} {β:Nat} {s s2:St}
theorem jrK {x:X} (h:∀n,x=.t n->s2.t n=s.t n):s2.ev x=s.ev x:=by
 cases x with
 |t n=>exact h n rfl
 |c v=>rfl
 |f n=>rfl
theorem zu {a:A0} {d:D} (ho:∀g∈a.ids,s2.o g=s.o g) (h:Is s a d):Is s2 a d:=by
 cases a with
 |h g c p x=>simp only [Is] at h⊢;rw [ho g (by simp [A0.ids])];exact h
 |hs g c p x sz lo n=>simp only [Is] at h⊢;rw [ho g (by simp [A0.ids])];exact h
 |_=>exact h
theorem joL:∀{l:List A0} {ds:List D},(∀a∈l,∀g∈a.ids,s2.o g=s.o g)->IsL s l ds->IsL s2 l ds
 |[],[],_,_=>trivial
 |[],_::_,_,h=>h.elim
 |_::_,[],_,h=>h.elim
 |a::l,d::ds,ho,⟨h1,h2⟩=>⟨zu (ho a (by simp)) h1,joL (λb hb=>ho b (by simp [hb])) h2⟩
theorem je6 {g b:Nat}:∀{l:List Cell} {c:Nat} {ds:List D},Ptr.go s g b l c ds->Ptr.go s2 g b l c ds
 |[],_,[],_=>trivial
 |[],_,_::_,h=>h.elim
 |.a _::_,_,[],h=>h.elim
 |.own _ _::_,_,[],h=>h.elim
 |.a x::l,c,d::ds,⟨h1,h2⟩=>⟨h1,je6 h2⟩
 |.own d' η::l,c,d::ds,⟨h1,h2⟩=>⟨h1,je6 h2⟩
theorem joc {a:A0} {ds:List D} (ho:∀g∈a.ids,s2.o g=s.o g) (h:Ptr s a ds):Ptr s2 a ds:=by
 cases a with
 |bp g c b=>
  obtain ⟨ty,cs,h1,l,h2,h3⟩:=h;exact ⟨ty,cs,by rw [ho g (by simp [A0.ids])];exact h1,l,h2,je6 h3⟩
 |_=>exact h
theorem jlK:∀{l:List A0} {ds:List (List D)},(∀a∈l,∀g∈a.ids,s2.o g=s.o g)->jyv s l ds->jyv s2 l ds
 |[],[],_,_=>trivial
 |[],_::_,_,h=>h.elim
 |_::_,[],_,h=>h.elim
 |a::l,d::ds,ho,⟨h1,h2⟩=>⟨joc (ho a (by simp)) h1,jlK (λb hb=>ho b (by simp [hb])) h2⟩
theorem jwz {a:AV} {v:View} (ho:s2.o=s.o) (h:jlo s a v):jlo s2 a v:=by
 cases a with
 |c x=>cases v with
  |c d=>exact zu (λg _=>by rw [ho]) h
  |ptr ds=>exact joc (λg _=>by rw [ho]) h
  |_=>exact h.elim
 |agg l=>cases v with
  |agg ds=>exact joL (λ_ _ g _=>by rw [ho]) h
  |_=>exact h.elim
 |fn f l=>cases v with
  |fn f' ds=>exact ⟨h.1,jlK (λ_ _ g _=>by rw [ho]) h.2⟩
  |_=>exact h.elim
 |_=>cases v<;>exact h.elim
theorem jh0:∀{l:List AV} {vs:List View},s2.o=s.o->zS s l vs->zS s2 l vs
 |[],[],_,_=>trivial
 |[],_::_,_,h=>h.elim
 |_::_,[],_,h=>h.elim
 |_::_,_::_,ho,⟨h1,h2⟩=>⟨jwz ho h1,jh0 ho h2⟩
theorem jl5:∀{ps:List (Nat×Nat×X)} {cs:List A0},(∀x∈ps.map (·.2.2),s2.ev x=s.ev x)->jiy s2 cs ps=jiy s cs ps
 |[],_,_=>rfl
 |(off,size,x)::ps,cs,h=>by
  have h1:s2.ev x=s.ev x:=h x (by simp)
  simp only [jiy,h1];split
  ·split
   ·exact jl5 λy hy=>h y (by simp at hy⊢;exact .inr hy)
   ·rfl
  ·rfl
theorem jpg:∀{ps:List (Nat×Nat×X)},(∀x∈ps.map (·.2.2),s2.ev x=s.ev x)->jtB s2 ps=jtB s ps
 |[],_=>rfl
 |(off,size,x)::ps,h=>by
  have h1:s2.ev x=s.ev x:=h x (by simp)
  have h2:jtB s2 ps=jtB s ps:=jpg λy hy=>h y (by simp at hy⊢;exact .inr hy)
  simp only [jtB,h1,h2]
theorem jmc:∀{l:List X},(∀x∈l,s2.ev x=s.ev x)->jcn s2 l=jcn s l
 |[],_=>rfl
 |x::l,h=>by
  have h1:s2.ev x=s.ev x:=h x (by simp)
  have h2:jcn s2 l=jcn s l:=jmc λy hy=>h y (by simp [hy])
  simp only [jcn,h1,h2]
theorem jaY {x:Option X} {d n:Nat} (h:∀y,x=some y->s2.ev y=s.ev y) (hb:jgZ s x d n):jgZ s2 x d n:=by
 cases x with
 |none=>exact hb
 |some y=>obtain ⟨k,h1⟩:=hb;exact ⟨k,by rw [h y rfl];exact h1⟩
theorem jc1 {l:List X} (h:∀x∈l,s2.ev x=s.ev x):l.map s2.ev=l.map s.ev:=List.map_congr_left h
theorem joS {d:Nat} {rt:RT} {st:jwE} {i:I} {av:AV} {os:List (Nat×Ob)} (hx:∀x∈i.xs,s2.ev x=s.ev x) (ho:∀k∈i.looks s,jry s s2 k) (hn:i.pureB=false->s2.o=s.o) (h:Gen P s d rt st i av os):Gen P s2 d rt st i av os:=by
 cases i with
 |mov x=>simp only [Gen] at h⊢;rw [hx x (by simp [I.xs])];exact h
 |pick c a b=>simp only [Gen] at h⊢;rw [hx c (by simp [I.xs]),hx a (by simp [I.xs]),hx b (by simp [I.xs])];exact h
 |box ty n x=>exact h
 |alloc ty zs=>exact h
 |bld zs ps=>simp only [Gen] at h⊢;rw [jl5 (s:=s) (s2:=s2) λx bQ=>hx x (by simpa [I.xs] using bQ)];exact h
 |bsl e size n ks ps=>exact h
 |ld agg n x=>
  simp only [Gen] at h⊢;obtain ⟨l,h1,h2⟩:=h;refine ⟨l,?_,h2⟩;rw [hx x (by simp [I.xs])]
  have fQ:∀k∈(s.ev x).looks n,jry s s2 k:=ho;cases hv:s.ev x with
  |c a=>
   rw [hv] at h1 fQ;cases a with
   |bp g c b=>
    have h3:jsz g c n (s2.o g) (s.o g):=fQ (.cs g c n) (by simp [AV.looks,A0.looks])
    obtain ⟨ty,cs,k1,k2,k3⟩:=h1;rw [k1] at h3;cases h4:s2.o g with
    |box b' ty' cs'=>
     rw [h4] at h3;obtain ⟨rfl,rfl,e3,e4⟩:=h3;exact ⟨_,_,h4,by omega,by rw [e4];exact k3⟩
    |none=>rw [h4] at h3;cases h3
    |loose d η=>rw [h4] at h3;cases h3
   |ep g c p k y=>
    have h3:s2.o g=s.o g:=fQ (.ob g) (by simp [AV.looks,A0.looks])
    simp only [jav] at h1⊢;rw [h3];exact h1
   |_=>exact h1
  |_=>rw [hv] at h1;exact h1
 |st n ks a x=>exact h
 |fa off x=>simp only [Gen] at h⊢;rw [hx x (by simp [I.xs])];exact h
 |ia size x i=>
  simp only [Gen] at h⊢;have fQ:∀g∈(s.ev x).ids,s2.o g=s.o g:=λg hg=>ho (.ob g) (aOB.2 ⟨g,hg,rfl⟩)
  rw [hx x (by simp [I.xs]),hx i (by simp [I.xs])]
  obtain ⟨k,n,h1,h2,h3,h4⟩:=h;refine ⟨k,n,h1,h2,?_,h4⟩;cases hv:s.ev x with
  |c a=>
   rw [hv] at h3 fQ;cases a with
   |h g c p y=>obtain ⟨⟨dd,k1,k2⟩,k3⟩:=h3;exact ⟨⟨dd,zu fQ (by exact k1),k2⟩,k3⟩
   |hs g c p y sz lo m=>obtain ⟨⟨dd,k1⟩,k3⟩:=h3;exact ⟨⟨dd,zu fQ (by exact k1)⟩,k3⟩
   |_=>exact h3
  |_=>rw [hv] at h3;exact h3
 |sidx x i=>simp only [Gen] at h⊢;rw [hx x (by simp [I.xs]),hx i (by simp [I.xs])];exact h
 |bin op ty x y=>simp only [Gen] at h⊢;rw [hx x (by simp [I.xs]),hx y (by simp [I.xs])];exact h
 |beq neg x y=>simp only [Gen] at h⊢;rw [hx x (by simp [I.xs]),hx y (by simp [I.xs])];exact h
 |un op x=>simp only [Gen] at h⊢;rw [hx x (by simp [I.xs])];exact h
 |cv c e x=>
  simp only [Gen] at h⊢;have fQ:∀g∈(s.ev x).ids,s2.o g=s.o g:=λg hg=>ho (.ob g) (aOB.2 ⟨g,hg,rfl⟩)
  rw [hx x (by simp [I.xs])]
  cases c with
  |text=>
   obtain ⟨⟨a,ty,bs,h1,h2,h3⟩,h4⟩:=h;rw [h1] at fQ;exact ⟨⟨a,ty,bs,h1,zu fQ h2,h3⟩,h4⟩
  |_=>exact h
 |len str x=>
  simp only [Gen] at h⊢;have fQ:∀g∈(s.ev x).ids,s2.o g=s.o g:=λg hg=>ho (.ob g) (aOB.2 ⟨g,hg,rfl⟩)
  obtain ⟨n,h1,h2⟩:=h;refine ⟨n,?_,h2⟩;rw [hx x (by simp [I.xs])]
  cases hv:s.ev x with
  |c a=>
   rw [hv] at h1 fQ;cases a with
   |h g c p y=>
    cases str with
    |true=>exact h1
    |false=>obtain ⟨dd,k1,k2⟩:=h1;exact ⟨dd,zu fQ (by exact k1),k2⟩
   |hs g c p y sz lo m=>
    cases str with
    |true=>exact h1
    |false=>obtain ⟨⟨dd,k1⟩,k2⟩:=h1;exact ⟨⟨dd,zu fQ (by exact k1)⟩,k2⟩
   |v u=>cases str<;>cases u<;>first|exact h1|(rename_i a l c;cases a<;>cases l<;>cases c<;>exact h1)
   |_=>cases str<;>exact h1
  |_=>rw [hv] at h1;cases str<;>exact h1
 |app e size bytes x y=>exact h
 |apps e x y=>exact h
 |clr size zs x=>exact h
 |mm mx x y=>simp only [Gen] at h⊢;rw [hx x (by simp [I.xs]),hx y (by simp [I.xs])];exact h
 |mks e size bytes zs l c=>simp only [Gen] at h⊢;rw [hx l (by simp [I.xs]),hx c (by simp [I.xs])];exact h
 |sl size x lo hi=>
  simp only [Gen] at h⊢;have fQ:∀g∈(s.ev x).ids,s2.o g=s.o g:=λg hg=>ho (.ob g) (aOB.2 ⟨g,hg,rfl⟩)
  have sF:∀y,lo=some y->s2.ev y=s.ev y:=λy hy=>hx y (by simp [I.xs,hy])
  have oV:∀y,hi=some y->s2.ev y=s.ev y:=λy hy=>hx y (by simp [I.xs,hy])
  rw [hx x (by simp [I.xs])]
  obtain ⟨l,hh,h1,h2,h3,h4⟩:=h;refine ⟨l,hh,jaY sF h1,h2,?_,h4⟩;cases hv:s.ev x with
  |c a=>
   rw [hv] at h3 fQ;cases a with
   |v u=>
    cases u with
    |string b=>exact ⟨h3.1,jaY oV h3.2.1,h3.2.2⟩
    |_=>exact h3
   |ro dd=>exact ⟨h3.1,h3.2.1,h3.2.2.1,jaY oV h3.2.2.2.1,h3.2.2.2.2⟩
   |h g c p y=>obtain ⟨k0,⟨dd,k1,k2,k3,k4⟩,k5⟩:=h3;exact ⟨k0,⟨dd,zu fQ (by exact k1),k2,jaY oV k3,k4⟩,k5⟩
   |hs g c p y sz lo m=>obtain ⟨⟨dd,k1⟩,k2,k3,k4⟩:=h3;exact ⟨⟨dd,zu fQ (by exact k1)⟩,k2,jaY oV k3,k4⟩
   |_=>exact h3
  |_=>rw [hv] at h3;exact h3
 |ext x i=>simp only [Gen] at h⊢;rw [hx x (by simp [I.xs])];exact h
 |fld agg off n x=>simp only [Gen] at h⊢;rw [hx x (by simp [I.xs])];exact h
 |mkf f caps=>simp only [Gen] at h⊢;rw [jmc (s:=s) (s2:=s2) λx bQ=>hx x (by simpa [I.xs] using bQ)];exact h
 |call f args=>
  simp only [Gen] at h⊢;rw [jc1 (s:=s) (s2:=s2) λx bQ=>hx x (by simpa [I.xs] using bQ)]
  obtain ⟨vs,h1,h2⟩:=h;exact ⟨vs,jh0 (hn rfl) h1,h2⟩
 |callv x args=>
  simp only [Gen] at h⊢;rw [jc1 (s:=s) (s2:=s2) (l:=args) λy hy=>hx y (by simp [I.xs,hy]),hx x (by simp [I.xs])]
  obtain ⟨f,caps,vs,h0,h1,h2⟩:=h;exact ⟨f,caps,vs,h0,jh0 (hn rfl) h1,h2⟩
theorem jqb {i:I} (hx:∀x∈i.xs,s2.ev x=s.ev x):i.looks s2=i.looks s:=by
 cases i<;>first|rfl|(simp only [I.looks];rw [hx _ (by simp [I.xs])])
theorem jxR {d d':Nat} {rt rt':RT} {st st':jwE} {i:I} {av:AV} {os:List (Nat×Ob)} (hp:i.pureB=true) (h:Gen P s d rt st i av os):Gen P s d' rt' st' i av []/\os=[]:=by
 cases i<;>first|cases hp|skip
 case mov=>obtain ⟨h1,rfl⟩:=h;exact ⟨⟨h1,rfl⟩,rfl⟩
 case pick=>obtain ⟨t,h1,h2,rfl⟩:=h;exact ⟨⟨t,h1,h2,rfl⟩,rfl⟩
 case bld=>obtain ⟨t,h1,h2,rfl⟩:=h;exact ⟨⟨t,h1,h2,rfl⟩,rfl⟩
 case ld=>obtain ⟨t,h1,h2,rfl⟩:=h;exact ⟨⟨t,h1,h2,rfl⟩,rfl⟩
 case fa=>obtain ⟨h1,rfl⟩:=h;exact ⟨⟨h1,rfl⟩,rfl⟩
 case ia=>obtain ⟨k,n,h1,h2,h3,rfl⟩:=h;exact ⟨⟨k,n,h1,h2,h3,rfl⟩,rfl⟩
 case sidx=>obtain ⟨b,k,n,u,h1,h2,h3,h4,h5,rfl⟩:=h;exact ⟨⟨b,k,n,u,h1,h2,h3,h4,h5,rfl⟩,rfl⟩
 case bin=>obtain ⟨h1,rfl⟩:=h;exact ⟨⟨h1,rfl⟩,rfl⟩
 case beq=>obtain ⟨a,b,h1,h2,h3,rfl⟩:=h;exact ⟨⟨a,b,h1,h2,h3,rfl⟩,rfl⟩
 case un=>obtain ⟨h1,rfl⟩:=h;exact ⟨⟨h1,rfl⟩,rfl⟩
 case cv=>obtain ⟨h1,rfl⟩:=h;exact ⟨⟨h1,rfl⟩,rfl⟩
 case len=>obtain ⟨n,h1,h2,rfl⟩:=h;exact ⟨⟨n,h1,h2,rfl⟩,rfl⟩
 case mm=>obtain ⟨k,k',a,b,h1,h2,h3,rfl⟩:=h;exact ⟨⟨k,k',a,b,h1,h2,h3,rfl⟩,rfl⟩
 case sl=>obtain ⟨l,hh,h1,h2,h3,rfl⟩:=h;exact ⟨⟨l,hh,h1,h2,h3,rfl⟩,rfl⟩
 case ext=>obtain ⟨l,b,az,h1,h2,h3,rfl⟩:=h;exact ⟨⟨l,b,az,h1,h2,h3,rfl⟩,rfl⟩
 case fld=>obtain ⟨l,h1,h2,h3,rfl⟩:=h;exact ⟨⟨l,h1,h2,h3,rfl⟩,rfl⟩
 case mkf=>obtain ⟨l,h1,h2,rfl⟩:=h;exact ⟨⟨l,h1,h2,rfl⟩,rfl⟩
theorem jjH {i:Ins} (hp:i.i.pureB=true) {K:St->Prop}:vv P β i s K=(∃rt,∀st,∃av os,Gen P s (β+i.d.getD 0) rt st i.i av os/\K ((s.addO os).put i.d av)):=by
 obtain ⟨d,g,i⟩:=i;cases i<;>first|rfl|cases hp
theorem Turns.mono {f:FuncId} {args:List AV} {o:Nat->Ob} {R R':RT->(Nat->Ob)->Prop} (h:∀rt o',R rt o'->R' rt o') (ht:Turns P f args o R):Turns P f args o R':=
 ⟨ht.1,λB w F xs h1 h2=>(ht.2 B w F xs h1 h2).mono λe w' ⟨v,rt,o',S,F',k1,k2,k3,k4,k5,k6⟩=>⟨v,rt,o',S,F',k1,k2,k3,k4,k5,h _ _ k6⟩⟩
theorem Inl.mono {f:FuncId} {args:List AV} {o:Nat->Ob} {R R':AV->(Nat->Ob)->Prop} (h:∀av o',R av o'->R' av o') (ht:Inl P f args o R):Inl P f args o R':=
 ⟨ht.1,λB w F xs h1 h2=>(ht.2 B w F xs h1 h2).mono λe w' ⟨v,av,o',F',k1,k2,k3,k4⟩=>⟨v,av,o',F',k1,k2,k3,h _ _ k4⟩⟩
theorem juA {i:Ins} {d:Option Nat} {v:AV} {K K':St->Prop} (hd:∀k,d=some k->(∀x∈i.i.xs,x≠.t k)/\i.d≠some k) (h:∀s2:St,(∀n,i.d≠some n->s2.t n=s.t n)->K (s2.put d v)->K' s2) (hr:vv P β i (s.put d v) K):vv P β i s K':=by
 obtain ⟨id,ig,i⟩:=i;simp only at hd
 have fX:∀x∈i.xs,(s.put d v).ev x=s.ev x:=λx hx=>by
  cases d with
  |none=>rfl
  |some k=>
   refine jrK λn hn=>?_
   have:=(hd k rfl).1 x hx;show (if n=k then v else s.t n)=s.t n
   rw [if_neg λe=>this (by rw [hn,e])]
 have ho:(s.put d v).o=s.o:=by cases d<;>rfl
 have cG:∀(s1:St) (os:List (Nat×Ob)) (av:AV),s1.t=s.t->K ((((s1.put d v).addO os)).put id av)->K' ((s1.addO os).put id av):=λs1 os av h1 hk=>by
  have e1:∀(os:List (Nat×Ob)) (s1:St),(s1.put d v).addO os=(s1.addO os).put d v:=by
   intro os
   induction os with
   |nil=>intro s1;rfl
   |cons p os ih=>
    intro s1;obtain ⟨g,ob⟩:=p;show ((s1.put d v).setO g ob).addO os=((s1.setO g ob).addO os).put d v;rw [<-ih]
    congr 1
    cases d<;>rfl
  have e2:∀s1:St,(s1.put d v).put id av=(s1.put id av).put d v:=λs1=>by
   cases d with
   |none=>rfl
   |some k=>
    cases id with
    |none=>rfl
    |some j=>
     have aR:j≠k:=λe=>(hd k rfl).2 (by rw [e])
     simp only [St.put,St.mk.injEq,and_true]
     funext n
     by_cases h1:n=j<;>by_cases h2:n=k<;>simp_all
  have e3:∀(os:List (Nat×Ob)) (s1:St),(s1.addO os).t=s1.t:=by
   intro os
   induction os with
   |nil=>intro s1;rfl
   |cons p os ih=>intro s1;obtain ⟨g,ob⟩:=p;show ((s1.setO g ob).addO os).t=_;rw [ih];rfl
  rw [e1,e2] at hk;refine h _ (λn hn=>?_) hk
  cases id with
  |none=>show (s1.addO os).t n=_;rw [e3,h1]
  |some j=>
   show (if n=j then av else (s1.addO os).t n)=_
   rw [if_neg λe=>hn (by rw [e]),e3,h1]
 have tT:∀j:I,(∀x∈j.xs,(s.put d v).ev x=s.ev x)->(∃rt,∀st,∃av os,Gen P (s.put d v) (β+id.getD 0) rt st j av os/\K (((s.put d v).addO os).put id av))->
  ∃rt,∀st,∃av os,Gen P s (β+id.getD 0) rt st j av os/\K' ((s.addO os).put id av):=λj hj ⟨rt,hg⟩=>⟨rt,λst=>by
  obtain ⟨av,os,h1,h2⟩:=hg st;exact ⟨av,os,joS (λx hx=>(hj x hx).symm) (λg _=>jvq) (λ_=>ho.symm) h1,cG s os av rfl h2⟩⟩
 have gP:∀{l:List A0} {s1:St} {R R':List Cell->St->Prop},s1.t=s.t->(∀cs s2,s2.t=s.t->R cs (s2.put d v)->R' cs s2)->qM (s1.put d v) l R->qM s1 l R':=by
  intro l
  induction l with
  |nil=>intro s1 R R' h1 h2 hk;exact h2 _ _ h1 hk
  |cons x l ih=>
   intro s1 R R' h1 h2 hk;have plain:∀a:A0,qM (s1.put d v) l (λcs s'=>R (.a a::cs) s')->qM s1 l (λcs s'=>R' (.a a::cs) s'):=λa hk=>ih h1 (λcs s2 h3=>h2 _ s2 h3) hk
   cases x with
   |h g c p x=>
    obtain ⟨k1,d0,η,k2,k3,k4⟩:=hk;have q9:(s1.put d v).o=s1.o:=by cases d<;>rfl
    have pW:(s1.put d v).rm g c=(s1.rm g c).put d v:=by cases d<;>rfl
    rw [q9] at k2;rw [pW] at k4;exact ⟨k1,d0,η,k2,k3,ih (by exact h1) (λcs s2 h3=>h2 _ s2 h3) k4⟩
   |_=>exact ⟨hk.1,plain _ hk.2⟩
 have sL:∀{e size:Nat} {a:AV} {s1:St} {R R':List D->St->Prop},s1.t=s.t->(∀cs s2,s2.t=s.t->R cs (s2.put d v)->R' cs s2)->ji5 (s1.put d v) e size a R->ji5 s1 e size a R':=by
  intro e size a s1 R R' h1 h2 hk;unfold ji5 at hk⊢;split
  ·exact h2 _ _ h1 hk
  ·have q9:(s1.put d v).o=s1.o:=by cases d<;>rfl
   rw [q9] at hk;have pW:∀g c,(s1.put d v).rm g c=(s1.rm g c).put d v:=λg c=>by cases d<;>rfl
   have aJ:∀g ob,(s1.put d v).setO g ob=(s1.setO g ob).put d v:=λg ob=>by cases d<;>rfl
   rcases hk with ⟨k1,cs,η,k2,k3,k4⟩|⟨k,k1,sz,tyo,ds0,cs,η,k2,k3,k4,k5⟩
   ·rw [pW] at k4
    exact .inl ⟨k1,cs,η,k2,k3,h2 _ _ h1 k4⟩
   ·refine .inr ⟨k,k1,sz,tyo,ds0,cs,η,k2,k3,k4,λaH hη=>?_⟩
    have k6:=k5 aH hη;rw [aJ] at k6;exact h2 _ _ h1 k6
  ·simp_all
 have lF:∀{size:Nat} {a:AV} {s1:St} {R R':List D->St->Prop},s1.t=s.t->(∀cs s2,s2.t=s.t->R cs (s2.put d v)->R' cs s2)->jwF (s1.put d v) size a R->jwF s1 size a R':=by
  intro size a s1 R R' h1 h2 hk;have q9:(s1.put d v).o=s1.o:=by cases d<;>rfl
  unfold jwF at hk⊢;split
  ·exact h2 _ _ h1 hk
  ·obtain ⟨k1,k2,k3,k4⟩:=hk;exact ⟨k1,k2,k3,h2 _ _ h1 k4⟩
  ·obtain ⟨dd,k1,k2,k3,k4⟩:=hk;exact ⟨dd,zu (λg _=>by rw [q9]) k1,k2,k3,h2 _ _ h1 k4⟩
  ·obtain ⟨dd,k1,k2,k3⟩:=hk
   refine ⟨dd,zu (λg _=>by rw [q9]) k1,k2,?_⟩
   have pW:∀g c,(s1.put d v).rm g c=(s1.rm g c).put d v:=λg c=>by cases d<;>rfl
   split
   ·rw [if_pos (by assumption)] at k3;exact h2 _ _ h1 k3
   ·rw [if_neg (by assumption),pW] at k3;exact ⟨k3.1,k3.2.1,h2 _ _ (by exact h1) k3.2.2⟩
  ·simp_all
 cases i with
 |box ty n x=>
  obtain ⟨l,h1,h2,h3⟩:=hr;rw [fX x (by simp [I.xs])] at h1
  exact ⟨l,h1,h2,gP rfl (λcs s2 h4 h5 b=>cG s2 _ _ h4 (h5 b)) h3⟩
 |bsl e size n ks ps=>
  obtain ⟨l,h1,h3⟩:=hr;rw [jpg (s:=s) λx hx=>fX x (by simpa [I.xs] using hx)] at h1
  exact ⟨l,h1,gP rfl (λcs s2 h4 ⟨ds,h5,h6⟩=>⟨ds,h5,λη=>cG s2 _ _ h4 (h6 η)⟩) h3⟩
 |st n ks a x=>
  obtain ⟨h0,l,h1,h2,h3⟩:=hr;simp only at h0;subst h0;rw [fX x (by simp [I.xs])] at h1
  rw [fX a (by simp [I.xs])] at h3
  refine ⟨rfl,l,h1,h2,gP rfl (λcs s2 h4 h5=>?_) h3⟩
  have sA:(s2.put d v).o=s2.o:=by cases d<;>rfl
  have fS:∀g ob,K ((s2.put d v).setO g ob)->K' (s2.setO g ob):=λg ob hk=>cG s2 [(g,ob)] (.unk) h4 hk
  split at h5
  ·obtain ⟨ty,ds,k1,k2,k3⟩:=h5
   rw [sA] at k1;exact ⟨ty,ds,k1,k2,fS _ _ k3⟩
  ·obtain ⟨k0,ds,k1,d0,η,dd,k2,k3,k4,k5,k6,k7⟩:=h5
   rw [sA] at k2 k7;exact ⟨k0,ds,k1,d0,η,dd,k2,k3,k4,k5,k6,jqY (λaH hk=>fS _ _ hk) k7⟩
  ·exact h5.elim
 |app e size bytes x y=>
  have bE:=hr;simp only [vv] at bE⊢;rw [fX x (by simp [I.xs]),fX y (by simp [I.xs])] at bE
  exact lF rfl (λys s1 h1 hk=>sL h1 (λxs s2 h2 ⟨k1,k2,k3⟩=>⟨k1,k2,λη=>cG s2 _ _ h2 (k3 η)⟩) hk) bE
 |apps e x y=>
  obtain ⟨b,h1,h2⟩:=hr;rw [fX y (by simp [I.xs])] at h1
  rw [fX x (by simp [I.xs])] at h2
  exact ⟨b,h1,sL rfl (λxs s2 h2 ⟨k1,k3⟩=>⟨k1,λη=>cG s2 _ _ h2 (k3 η)⟩) h2⟩
 |clr size zs x=>
  obtain ⟨h0,h3⟩:=hr;simp only at h0;subst h0;rw [fX x (by simp [I.xs])] at h3
  refine ⟨rfl,?_⟩;split at h3
  ·exact cG s [] .unk rfl h3
  ·obtain ⟨k0,k1,d0,η,dd,k2,k3,k4,k5,k6,k7,k8⟩:=h3
   rw [ho] at k2 k8;exact ⟨k0,k1,d0,η,dd,k2,k3,k4,k5,k6,k7,jqY (λaH hk=>cG s [(_,_)] .unk rfl hk) k8⟩
  ·exact h3.elim
 |call f args=>
  rcases hr with hg|ht|ht
  ·exact .inl (tT _ fX hg)
  ·right;left
   rw [jc1 (s:=s) λx hx=>fX x (by simpa [I.xs] using hx),ho] at ht
   refine ht.mono λrt o' hR η=>?_
   have:=hR η;exact cG ⟨s.t,o'⟩ _ _ rfl (by cases d<;>exact this)
  ·right;right
   rw [jc1 (s:=s) λx hx=>fX x (by simpa [I.xs] using hx),ho] at ht
   refine ht.mono λav o' hR=>?_
   exact cG ⟨s.t,o'⟩ [] av rfl (by cases d<;>exact hR)
 |callv x args=>
  rcases hr with hg|⟨f,caps,h0,ht⟩
  ·exact .inl (tT _ fX hg)
  ·right
   rw [fX x (by simp [I.xs])] at h0
   rw [jc1 (s:=s) (l:=args) λy hy=>fX y (by simp [I.xs,hy]),ho] at ht
   refine ⟨f,caps,h0,ht.mono λrt o' hR η=>?_⟩
   have:=hR η;exact cG ⟨s.t,o'⟩ _ _ rfl (by cases d<;>exact this)
 |_=>exact tT _ fX hr
theorem jfG {i:Ins} {K K':St->Prop} (h:∀s,K s->K' s) (hr:vv P β i s K):vv P β i s K':=
 juA (d:=none) (v:=.unk) (λk hk=>by cases hk) (λs2 _ hk=>h s2 hk) hr
end
inductive Reach (ops:Array Oper):Nat->Nat->Prop where
 |one {j i:Nat} {o:Oper} {e:Edge} (hj:ops[j]?=some o) (he:e∈o.after) (hb:Region.binds .any e=true) (hi:e.on=i):Reach ops j i
 |more {j i:Nat} {o:Oper} {e:Edge} (hj:ops[j]?=some o) (he:e∈o.after) (hb:Region.binds .any e=true) (hi:Reach ops e.on i):Reach ops j i
theorem Reach.trans {ops:Array Oper} {j i k:Nat} (h:Reach ops j i) (h2:Reach ops i k):Reach ops j k:=by
 induction h with
 |one hj he hb hi=>subst hi;exact .more hj he hb h2
 |more hj he hb _ ih=>exact .more hj he hb (ih h2)
theorem jkK {ops:Array Oper} {j0:Nat}:∀{n:Nat} {seen todo:List Nat},(∀x∈seen,Reach ops j0 x)->(∀x∈todo,x=j0\/Reach ops j0 x)->∀x∈jAY ops n seen todo,Reach ops j0 x
 |0,_,_,h,_,x,hx=>h x (by simpa [jAY] using hx)
 |n+1,_,[],h,_,x,hx=>h x (by simpa [jAY] using hx)
 |n+1,seen,j::todo,h,h2,x,hx=>by
  simp only [jAY] at hx;split at hx
  ·rename_i o ho
   have cA:∀y∈(o.after.toList.filter λe=>Region.binds .any e&&!seen.contains e.on).map (·.on),Reach ops j0 y:=by
    intro y hy;obtain ⟨e,he,rfl⟩:=aOB.1 hy;obtain ⟨mT,cB⟩:=aOD.1 he
    have hb:Region.binds .any e=true:=by
     cases hq:Region.binds .any e with
     |true=>rfl
     |false=>rw [hq] at cB;simp at cB
    have h1:Reach ops j e.on:=.one ho (by simpa using mT) hb rfl
    rcases h2 j (by simp) with rfl|h3
    ·exact h1
    ·exact h3.trans h1
   refine jkK (n:=n) ?_ ?_ x hx
   ·intro y hy
    rcases aMN.1 hy with hy|hy
    ·exact cA y hy
    ·exact h y hy
   ·intro y hy
    rcases aMN.1 hy with hy|hy
    ·exact .inr (cA y hy)
    ·exact h2 y (by simp [hy])
  ·exact jkK (n:=n) h (λy hy=>h2 y (by simp [hy])) x hx
theorem jpC {ops:Array Oper} {n j i:Nat} (h:jnI ops n j i=true):Reach ops j i:=by
 unfold jnI at h;rw [List.contains_iff_mem] at h;exact jkK (by simp) (by simp) i h
def Closed (ops:Array Oper) (listed:Array Bool):Prop:=∀(k:Nat) (o:Oper),ops[k]?=some o->listed.getD k false=true->∀e∈o.after,Region.binds .any e=true->listed.getD e.on false=true
theorem Closed.reach {ops:Array Oper} {listed:Array Bool} (h:Closed ops listed):∀{j i:Nat},Reach ops j i->(∀(o:Oper),ops[j]?=some o->∀e∈o.after,Region.binds .any e=true->listed.getD e.on false=true)->listed.getD i false=true:=by
 intro j i hr
 induction hr with
 |one hj he hb hi=>intro hl;subst hi;exact hl _ hj _ he hb
 |more hj he hb _ ih=>intro hl;exact ih λo ho e' fE bA=>h _ o ho (hl _ hj _ he hb) e' fE bA
theorem Closed.add {ops:Array Oper} {listed:Array Bool} {j:Nat} (h:Closed ops listed) (hj:j∈Region.ready .any ops listed):Closed ops (listed.setIfInBounds j true):=by
 intro k o ho hk e he hb;obtain ⟨_,oj,tM,cK⟩:=mem_ready.1 hj;by_cases hkj:k=j
 ·subst hkj
  rw [ho] at tM;cases tM;exact getD_set_true (cK e he hb)
 ·rw [getD_set_ne false (Ne.symm hkj)] at hk
  exact getD_set_true (h k o ho hk e he hb)
theorem jAv {listed:Array Bool} {i:Nat} (h:listed.getD i true=false):listed.getD i false=false:=by
 rcases Nat.lt_or_ge i listed.size with h'|h'
 ·simpa [h'] using h
 ·simp [Array.getElem?_eq_none h'] at h
section
variable {P:Program} {β N:Nat} {ops:Array Oper} {is:List Ins} {Q:St->Prop}
def jiA (P:Program) (β:Nat) (is:List Ins) (j:Nat) (K:St->Prop) (s:St):Prop:=match is[j]? with
 |none=>False
 |some i=>match zf s i.g with
  |some true=>vv P β i s K
  |some false=>K (s.put i.d (.c (.v undef)))
  |none=>False
def jAj (ops:Array Oper) (j:Nat) (l:List (Nat×List Lk)) (s s':St):Prop:=∀p∈l,¬Reach ops j p.1->∀k∈p.2,jry s s' k
def jvX (P:Program) (β:Nat) (ops:Array Oper) (is:List Ins) (Q:St->Prop):Nat->List (Nat×List Lk)->Array Bool->St->Prop
 |0,_,listed,s=>Region.ready .any ops listed=[]/\Q s
 |f+1,l,listed,s=>(Region.ready .any ops listed=[]->Q s)/\∀j∈Region.ready .any ops listed,jiA P β is j (λs'=>jAj ops j l s s'/\jvX P β ops is Q f l (listed.setIfInBounds j true) s') s
theorem jl7 {j:Nat} {K K':St->Prop} {s:St} (h:∀s,K s->K' s) (hs:jiA P β is j K s):jiA P β is j K' s:=by
 unfold jiA at hs⊢;split
 ·simp_all
 ·rename_i i hi
  simp only [hi] at hs;split
  ·rename_i hw;simp only [hw] at hs;exact jfG h hs
  ·rename_i hw;simp only [hw] at hs;exact h _ hs
  ·rename_i hw;simp only [hw] at hs
theorem jkk:∀{l:List Oper} {is:List Ins},jkl P N ops l=some is->is.length=l.length/\∀(j:Nat) (o:Oper),l[j]?=some o->∃i,is[j]?=some i/\jyh P N ops o=some i
 |[],is,h=>by simp [jkl] at h;subst h;simp
 |o::l,is,h=>by
  simp only [jkl] at h;split at h
  ·rename_i i r h1 h2
   simp at h;subst h;obtain ⟨h3,h4⟩:=jkk h2;refine ⟨by simp [h3],λj o' ho=>?_⟩
   cases j with
   |zero=>simp at ho;subst ho;exact ⟨i,rfl,h1⟩
   |succ j=>exact h4 j o' (by simpa using ho)
  ·simp at h
theorem jwB {B:Nat} {w0:World} {Q':Exit->Act->World->Prop} (hc:jkl P N ops ops.toList=some is) (hQ:∀s a w F,RelF B w0 N s a w F->Q s->Q' .normal a w):∀(f:Nat) (l:List (Nat×List Lk)) (listed:Array Bool) (s:St) (a:Act) (w:World) (F:Nat->List Nat),
 RelF B w0 N s a w F->jvX P β ops is Q f l listed s->wpAny P .any ops Q' f listed a w
 |0,_,_,s,a,w,F,h,hs=>⟨hs.1,hQ _ _ _ _ h hs.2⟩
 |f+1,l,listed,s,a,w,F,h,hs=>by
  refine ⟨λh0=>hQ _ _ _ _ h (hs.1 h0),λj hj=>?_⟩
  have aJ:=hs.2 j hj;obtain ⟨_,o,ho,_⟩:=mem_ready.1 hj;obtain ⟨i,hi,hci⟩:=(jkk hc).2 j o (by simpa using ho)
  obtain ⟨e1,e2,e3,e4⟩:=jrV hci;unfold jiA at aJ;simp only [hi] at aJ;unfold wpOp;simp only [ho];split at aJ
  ·rename_i hw
   rw [if_pos (ji6 h e4 hw)];refine .inl (jCc e2 (g:=i.g) (β:=β) (K:=λs'=>jAj ops j l s s'/\jvX P β ops is Q f l (listed.setIfInBounds j true) s') h e3 (by rw [<-e1];exact aJ) _ _ λa' w' ⟨s',F',h3,h4⟩=>jwB hc hQ f l _ _ _ _ _ h3 h4.2)
  ·rename_i hw
   rw [if_neg (by rw [ji6 h e4 hw];simp)]
   rw [e1] at aJ;exact jwB hc hQ f l _ _ _ _ _ (h.put (u:=undef) (v:=.c (.v undef)) rfl e3) aJ.2
  ·exact aJ.elim
theorem jr8 {p:Nat×List Lk}:∀(f:Nat) (l:List (Nat×List Lk)) (listed:Array Bool) (s:St),jvX P β ops is Q f (p::l) listed s->jvX P β ops is Q f l listed s
 |0,_,_,_,h=>h
 |f+1,l,listed,s,h=>⟨h.1,λj hj=>jl7 (λs' ⟨h1,h2⟩=>⟨λq hq=>h1 q (by simp [hq]),jr8 f l _ s' h2⟩) (h.2 j hj)⟩
theorem jwA {i:Nat}:∀(f:Nat) (l:List (Nat×List Lk)) (listed:Array Bool) (s:St),jvX P β ops is Q f l listed s->jvX P β ops is Q f ((i,[])::l) listed s
 |0,_,_,_,h=>h
 |f+1,l,listed,s,h=>⟨h.1,λj hj=>jl7 (λs' ⟨h1,h2⟩=>⟨λq hq hr g hg=>by
   rcases aNB.1 hq with rfl|hq
   ·simp at hg
   ·exact h1 q hq hr g hg,jwA f l _ s' h2⟩) (h.2 j hj)⟩
def EY (P:Program) (x:Ins) (s:St) (v:AV) (ids:List Lk):Prop:=
 (zf s x.g=some true/\x.i.pureB=true/\ids=x.i.looks s/\∀d rt st,Gen P s d rt st x.i v [])\/(zf s x.g=some false/\v=.c (.v undef)/\ids=[])
theorem EY.run {x:Ins} {s:St} {v:AV} {ids:List Lk} {i:Nat} {K:St->Prop} (pN:is[i]?=some x) (h:EY P x s v ids) (hk:K (s.put x.d v)):jiA P β is i K s:=by
 unfold jiA;simp only [pN];rcases h with ⟨h1,h2,_,h3⟩|⟨h1,rfl,_⟩
 ·simp only [h1]
  rw [jjH h2];exact ⟨.c (.val undef),λst=>⟨v,[],h3 _ _ _,hk⟩⟩
 ·simp only [h1];exact hk
theorem jlp {s s2:St} {g:Option (Nat×Bool)} (h:∀t w,g=some (t,w)->s2.t t=s.t t):zf s2 g=zf s g:=by
 cases g with
 |none=>rfl
 |some p=>obtain ⟨t,w⟩:=p;simp only [zf,h t w rfl]
theorem EY.stable {x:Ins} {s s2:St} {v:AV} {ids:List Lk} (h:EY P x s v ids) (ht:∀n∈x.uses,s2.t n=s.t n) (ho:∀k∈ids,jry s s2 k):EY P x s2 v ids:=by
 have fX:∀y∈x.i.xs,s2.ev y=s.ev y:=λy hy=>jrK λn hn=>ht n (by
  subst hn;exact List.mem_append_left _ (List.mem_filterMap.2 ⟨_,hy,rfl⟩))
 have hw:zf s2 x.g=zf s x.g:=jlp λt w hg=>ht t (by simp [Ins.uses,hg])
 rcases h with ⟨h1,h2,h3,h4⟩|⟨h1,h2,h3⟩
 ·refine .inl ⟨by rw [hw];exact h1,h2,by rw [jqb fX];exact h3,λd rt st=>joS fX (λg hg=>ho g (by rw [h3];exact hg)) (λhp=>by rw [h2] at hp;cases hp) (h4 d rt st)⟩
 ·exact .inr ⟨by rw [hw];exact h1,h2,h3⟩
theorem jtJ {x y:Ins} (h:jmj x y=true):(∀d,x.d=some d->d∉y.uses/\y.d≠some d)/\∀d,y.d=some d->d∉x.uses:=by
 simp only [jmj,aMY] at h;refine ⟨λd hd=>?_,λd hd=>?_⟩
 ·have:=h.1;rw [hd] at this;simpa using this
 ·have:=h.2;rw [hd] at this;simpa using this
theorem jvW {j:Nat} {x y:Ins} {s:St} {v:AV} {K K':St->Prop} (hy:is[j]?=some y) (hap:jmj x y=true) (h:∀s2:St,(∀n∈x.uses,s2.t n=s.t n)->K (s2.put x.d v)->K' s2) (hs:jiA P β is j K (s.put x.d v)):jiA P β is j K' s:=by
 obtain ⟨h1,h2⟩:=jtJ hap
 have hw:zf (s.put x.d v) y.g=zf s y.g:=jlp λt w hg=>by
  cases hd:x.d with
  |none=>rfl
  |some d=>
   have aR:t≠d:=λe=>(h1 d hd).1 (by simp [Ins.uses,hg,e])
   show (if t=d then v else s.t t)=_
   rw [if_neg aR]
 unfold jiA at hs⊢;simp only [hy,hw] at hs⊢;split at hs
 ·refine juA (λk hk=>⟨λz hz e=>(h1 k hk).1 ?_,(h1 k hk).2⟩) (λs2 ht hk=>h s2 (λn hn=>ht n λe=>h2 n e hn) hk) hs
  subst e;exact List.mem_append_left _ (List.mem_filterMap.2 ⟨_,hz,rfl⟩)
 ·refine h _ (λn hn=>?_) ?_
  ·cases hd:y.d with
   |none=>rfl
   |some d=>
    show (if n=d then _ else s.t n)=_
    rw [if_neg λ(e:n=d)=>h2 d hd (e▸hn)]
  ·have e:(s.put x.d v).put y.d (.c (.v undef))=(s.put y.d (.c (.v undef))).put x.d v:=by
    cases hd:x.d with
    |none=>rfl
    |some k=>
     cases gC:y.d with
     |none=>rfl
     |some m=>
      have aR:m≠k:=λe=>(h1 k hd).2 (by rw [gC,e])
      simp only [St.put,St.mk.injEq,and_true]
      funext n
      by_cases h1:n=m<;>by_cases h2:n=k<;>simp_all
   rw [<-e];exact hs
 ·exact hs
theorem jpu {i:Nat} {x:Ins} {v:AV} {ids:List Lk} (aD:is.length=ops.size) (pN:is[i]?=some x):∀(f:Nat) (l:List (Nat×List Lk)) (listed:Array Bool) (s:St),Closed ops listed->
 (∀(j:Nat) (oj:Oper) (y:Ins),ops[j]?=some oj->is[j]?=some y->j≠i->listed.getD j true=false->(∀e∈oj.after,Region.binds .any e=true->e.on≠i)->jmj x y=true)->
 i∈Region.ready .any ops listed->EY P x s v ids->jvX P β ops is Q f ((i,ids)::l) (listed.setIfInBounds i true) (s.put x.d v)->jvX P β ops is Q (f+1) l listed s:=by
 intro f
 induction f with
 |zero=>
  intro l listed s _ _ hr hy H;refine ⟨λh=>(by rw [h] at hr;cases hr),λj hj=>?_⟩
  by_cases rD:j=i
  ·subst rD
   exact hy.run pN ⟨λp _ _ g _=>jm9,H⟩
  ·have:=ready_mono hj rD
   rw [H.1] at this;cases this
 |succ f ih=>
  intro l listed s dG mS hr hy H;refine ⟨λh=>(by rw [h] at hr;cases hr),λj hj=>?_⟩
  by_cases rD:j=i
  ·subst rD
   exact hy.run pN ⟨λp _ _ g _=>jm9,jr8 _ _ _ _ H⟩
  ·have h1:=H.2 j (ready_mono hj rD)
   obtain ⟨xH,oj,tM,cK⟩:=mem_ready.1 hj;have aCC:=(mem_ready.1 hr).1
   have hnr:¬Reach ops j i:=λhh=>by
    have:=dG.reach hh λo ho e he hb=>by rw [tM] at ho;cases ho;exact cK e he hb
    rw [jAv aCC] at this;cases this
   have rA:∀e∈oj.after,Region.binds .any e=true->e.on≠i:=λe he hb fD=>hnr (.one tM he hb fD)
   have aCA:j<is.length:=by rw [aD];exact (Array.getElem?_eq_some_iff.1 tM).1
   obtain ⟨y,hyj⟩:∃y,is[j]?=some y:=⟨is[j],aMK aCA⟩;refine jvW hyj (mS j oj y tM hyj rD xH rA) (λs2 ht ⟨k1,k2⟩=>?_) h1
   refine ⟨λp hp hnp g hg=>?_,?_⟩
   ·have:=k1 p (by simp [hp]) hnp g hg
    exact kept_put2.1 this
   ·have eE:EY P x s2 v ids:=hy.stable ht λg hg=>by
     have:=k1 (i,ids) (by simp) hnr g hg
     exact kept_put2.1 this
    refine ih l (listed.setIfInBounds j true) s2 (dG.add hj) (λk ok z hk hz hki yR d7=>?_) (ready_mono hr (Ne.symm rD)) eE ?_
    ·refine mS k ok z hk hz hki ?_ d7
     by_cases mP:j=k
     ·subst mP;exact xH
     ·rw [getD_set_ne true mP] at yR;exact yR
    ·rw [Array.setIfInBounds_comm _ _ rD]
     exact k2
theorem jvH {i:Nat} {x:Ins} {listed:Array Bool} (pN:is[i]?=some x) (h:jAx ops is listed i=true):x.i.pureB=true/\∀(j:Nat) (oj:Oper) (y:Ins),ops[j]?=some oj->is[j]?=some y->j≠i->listed.getD j true=false->(∀e∈oj.after,Region.binds .any e=true->e.on≠i)->jmj x y=true:=by
 simp only [jAx,pN,aMY,List.all_eq_true,aPJ] at h;refine ⟨h.1,λj oj y hj hy aR yR d7=>?_⟩
 have h1:=h.2 j (Array.getElem?_eq_some_iff.1 hj).1;simp only [hj,hy,Bool.or_eq_true,aOO,aR,false_or,yR,aOZ] at h1;rcases h1 with h1|h1
 ·obtain ⟨e,he,hb⟩:=Array.any_eq_true'.1 h1
  simp only [aMY,aOO] at hb;exact absurd hb.2 (d7 e he hb.1)
 ·exact h1
theorem joI {s s':St}:∀{l:List Lk},jqe s s' l->∀g∈l,jry s s' g
 |[],_,g,hg=>by simp at hg
 |k::l,h,g,hg=>by
  rcases aNB.1 hg with rfl|hg
  ·exact h.1
  ·exact joI h.2 g hg
theorem joH {s s':St} {chk:List Nat}:∀{l:List (Nat×List Lk)},jnb s s' chk l->∀p∈l,p.1∈chk->∀g∈p.2,jry s s' g
 |[],_,p,hp,_=>by simp at hp
 |(q,ids)::l,h,p,hp,hc=>by
  rcases aNB.1 hp with rfl|hp
  ·have:=h.1
   rw [if_pos (by simpa using hc)] at this
   exact joI this
  ·exact joH h.2 p hp hc
theorem jbx (aD:is.length=ops.size):∀(f:Nat) (pures:List Nat) (listed:Array Bool) (t:T) (l:List (Nat×List Lk)) (s:St),mkT ops is f pures listed=some t->(∀p∈l,p.1∈pures)->Closed ops listed->zz P β t l s Q->jvX P β ops is Q f l listed s
 |0,pures,listed,t,l,s,h,_,_,hr=>by
  simp only [mkT] at h;split at h
  ·rename_i he
   simp at h;subst h;exact ⟨by simpa using he,hr⟩
  ·simp at h
 |f+1,pures,listed,t,l,s,h,hl,dG,hr=>by
  simp only [mkT] at h;split at h
  ·rename_i he
   simp at h;subst h;have fE:Region.ready .any ops listed=[]:=by simpa using he
   exact ⟨λ_=>hr,λj hj=>by rw [fE] at hj;cases hj⟩
  ·rename_i aR
   split at h
   ·rename_i i hfi
    have gY:=List.mem_of_find?_eq_some hfi;have mS:=List.find?_some hfi;split at h
    ·rename_i x t' pN ht
     simp at h;subst h;obtain ⟨hp,gB⟩:=jvH pN mS;simp only [zz] at hr;split at hr
     ·rename_i hw
      rw [jjH hp] at hr;obtain ⟨rt,hg⟩:=hr;obtain ⟨av,os,h1,h2⟩:=hg ⟨0,λ_ _=>undef⟩
      have h3:=λd rt st=>jxR (d':=d) (rt':=rt) (st':=st) hp h1
      obtain rfl:=(h3 0 rt ⟨0,λ_ _=>undef⟩).2
      exact jpu aD pN f l listed s dG gB gY (.inl ⟨hw,hp,rfl,λd rt st=>(h3 d rt st).1⟩) (jbx aD f _ _ _ _ _ ht (λp nA=>by
       rcases aNB.1 nA with rfl|nA
       ·simp
       ·simp [hl p nA]) (dG.add gY) h2)
     ·rename_i hw
      exact jpu aD pN f l listed s dG gB gY (.inr ⟨hw,rfl,rfl⟩) (jwA _ _ _ _ (jbx aD f _ _ _ _ _ ht (λp nA=>by simp [hl p nA]) (dG.add gY) hr))
     ·exact hr.elim
    ·simp at h
   ·rename_i hnf
    refine ⟨λh0=>absurd (by simpa using h0) aR,?_⟩
    have key:∀(r:List Nat) (t:T),(∀j∈r,j∈Region.ready .any ops listed)->(r.foldr (λj acc=>match is[j]?,mkT ops is f pures (listed.setIfInBounds j true),acc with
     |some x,some t,some rest=>some (.alt x (pures.filter λp=>!jnI ops ops.size j p) t rest)
     |_,_,_=>none) (some .stop))=some t->zz P β t l s Q->∀j∈r,jiA P β is j (λs'=>jAj ops j l s s'/\jvX P β ops is Q f l (listed.setIfInBounds j true) s') s:=by
     intro r
     induction r with
     |nil=>intro _ _ _ _ j hj;cases hj
     |cons k r ih=>
      intro t bB h hr j hj;simp only [List.foldr_cons] at h;split at h
      ·rename_i x t' rest hx ht wR
       simp at h;subst h;obtain ⟨dE,cL⟩:=hr;rcases aNB.1 hj with rfl|hj
       ·have hjr:=bB j (by simp)
        unfold jiA;simp only [hx];split at dE
        ·rename_i hw
         simp only [hw];refine jfG (λs' ⟨k1,k2⟩=>⟨λp hp hnp g hg=>?_,jbx aD f _ _ _ _ _ ht hl (dG.add hjr) k2⟩) dE
         refine joH k1 p hp (aOD.2 ⟨hl p hp,?_⟩) g hg;cases lU:jnI ops ops.size j p.1 with
         |false=>rfl
         |true=>exact absurd (jpC lU) hnp
        ·rename_i hw
         simp only [hw];exact ⟨λp _ _ g _=>jm9,jbx aD f _ _ _ _ _ ht hl (dG.add hjr) dE⟩
        ·exact dE.elim
       ·exact ih rest (λk hk=>bB k (by simp [hk])) wR cL j hj
      ·simp at h
    exact key _ t (λj hj=>hj) h hr
theorem jAC {B:Nat} {w0 w:World} {s:St} {a:Act} {F:Nat->List Nat} {id:Nat} {t:T} {Q':Exit->Act->World->Prop} (h:RelF B w0 N s a w F) (hc:jyg P N ops=some t) (hr:zz P β t [] s Q) (hQ:∀s a w F,RelF B w0 N s a w F->Q s->Q' .normal a w):
 (Code.region id ops true).wp P Q' a w:=by
 unfold jyg at hc;split at hc
 ·rename_i hm
  split at hc
  ·rename_i is dG
   have aD:=(jkk dG).1;simp only [Array.length_toList] at aD;refine wp_region_any hm (jwB dG hQ ops.size [] _ s a _ F (h.world (w':=w.drew) (jvY w)) (jbx aD _ _ _ _ _ _ hc (by simp) (λk o ho hk=>?_) hr))
   exfalso;have aB:=(Array.getElem?_eq_some_iff.1 ho).1;simp [aB] at hk
  ·simp at hc
 ·simp at hc
end
def Ex.to:Ex->Exit
 |.normal=>.normal
 |.exit id=>.exit id
 |.ret=>.ret
section
variable {P:Program} {β B N:Nat} {w w0:World} {s:St} {a:Act} {F:Nat->List Nat}
theorem vl {c:Code} {c0:C} (h:comp P N c=some c0):match c0 with
 |.skip=>c=.skip
 |.reg is=>∃id ops,c=.region id ops false/\jkl P N ops ops.toList=some is
 |.dreg t=>∃id ops,c=.region id ops true/\jyg P N ops=some t
 |.seq a b=>∃x y,c=.seq x y/\comp P N x=some a/\comp P N y=some b
 |.cond x a b=>∃x' y z,c=.cond x' y z/\jQ x'=some x/\comp P N y=some a/\comp P N z=some b
 |.blk id a=>∃x,c=.block id x/\comp P N x=some a
 |.loop a=>∃x,c=.loop x/\comp P N x=some a
 |.exit id=>c=.exit id
 |.ret=>c=.ret
 |.gh _=>False:=by
 cases c with
 |skip=>simp [comp] at h;subst h;rfl
 |region id ops d=>
  cases d with
  |true=>simp only [comp,Option.map_eq_some_iff] at h;obtain ⟨t,h1,rfl⟩:=h;exact ⟨_,_,rfl,h1⟩
  |false=>simp only [comp,Option.map_eq_some_iff] at h;obtain ⟨t,h1,rfl⟩:=h;exact ⟨_,_,rfl,h1⟩
 |seq x y=>
  simp only [comp] at h;split at h
  ·rename_i x' y' h1 h2;simp at h;subst h;exact ⟨_,_,rfl,h1,h2⟩
  ·simp at h
 |cond x y z=>
  simp only [comp] at h;split at h
  ·rename_i x' y' z' h1 h2 h3;simp at h;subst h;exact ⟨_,_,_,rfl,h1,h2,h3⟩
  ·simp at h
 |block id x=>simp only [comp,Option.map_eq_some_iff] at h;obtain ⟨t,h1,rfl⟩:=h;exact ⟨_,rfl,h1⟩
 |loop x=>simp only [comp,Option.map_eq_some_iff] at h;obtain ⟨t,h1,rfl⟩:=h;exact ⟨_,rfl,h1⟩
 |exit id=>simp [comp] at h;subst h;rfl
 |ret=>simp [comp] at h;subst h;rfl
 |_=>simp [comp] at h
theorem jbr:∀{c':C} {c:Code} {s:St} {a:Act} {w:World} {F:Nat->List Nat} {Qc:Ex->St->Prop} {Q:Exit->Act->World->Prop},
 comp P N c=some c'.er->RelF B w0 N s a w F->wpC P β c' Qc s->(∀e s a w F,RelF B w0 N s a w F->Qc e s->Q e.to a w)->c.wp P Q a w
 |.gh x,c,s,a,w,F,Qc,Q,hc,h,hw,hQ=>by
  obtain ⟨s',F',h3,h2⟩:=hw _ _ _ _ _ _ h;exact jbr (c':=x) hc h3 h2 hQ
 |.skip,c,s,a,w,F,Qc,Q,hc,h,hw,hQ=>by
  have e:c=.skip:=vl hc;subst e;exact wp_skip (hQ .normal _ _ _ _ h hw)
 |.dreg t,c,s,a,w,F,Qc,Q,hc,h,hw,hQ=>by
  obtain ⟨id,ops,rfl,h1⟩:=vl hc;exact jAC h h1 hw λs a w F h hk=>hQ .normal _ _ _ _ h hk
 |.reg is,c,s,a,w,F,Qc,Q,hc,h,hw,hQ=>by
  obtain ⟨id,ops,rfl,h1⟩:=vl hc;exact wp_region_list (jqc (λs a w F h hk=>hQ .normal _ _ _ _ h hk) h1 h hw)
 |.seq x' y',c,s,a,w,F,Qc,Q,hc,h,hw,hQ=>by
  obtain ⟨x,y,rfl,h1,h2⟩:=vl hc;refine wp_seq (jbr h1 h hw λe s a w F h hk=>?_)
  cases e with
  |normal=>exact jbr h2 h hk hQ
  |exit id=>exact hQ (.exit id) _ _ _ _ h hk
  |ret=>exact hQ .ret _ _ _ _ h hk
 |.cond x' y' z',c,s,a,w,F,Qc,Q,hc,h,hw,hQ=>by
  obtain ⟨x,y,z,rfl,h1,h2,h3⟩:=vl hc;obtain ⟨t,h4,h5,h6⟩:=hw;exact wp_cond_split (jiz h h1 h4) (λht=>jbr h2 h (h5 ht) hQ) (λht=>jbr h3 h (h6 ht) hQ)
 |.blk id x',c,s,a,w,F,Qc,Q,hc,h,hw,hQ=>by
  obtain ⟨x,rfl,h1⟩:=vl hc;refine wp_block (jbr h1 h hw λe s a w F h hk=>?_)
  cases e with
  |normal=>exact hQ .normal _ _ _ _ h hk
  |exit id'=>
   simp only [Ex.inBlk] at hk;simp only [Ex.to,Exit.inBlock];split
   ·rename_i e;rw [if_pos e] at hk;exact hQ .normal _ _ _ _ h hk
   ·rename_i e;rw [if_neg e] at hk;exact hQ (.exit id') _ _ _ _ h hk
  |ret=>exact hQ .ret _ _ _ _ h hk
 |.loop x',c,s,a,w,F,Qc,Q,hc,h,hw,hQ=>by
  obtain ⟨x,rfl,h1⟩:=vl hc;obtain ⟨ι,mk,J,μ,⟨i0,h2,h4⟩,h3⟩:=hw
  have key:∀(n:Nat) (i:ι) (a:Act) (w:World) (F:Nat->List Nat),RelF B w0 N (mk i) a w F->J i->μ i<n->Code.rounds P x Q n a w:=by
   intro n
   induction n with
   |zero=>intro _ _ _ _ _ _ aB;omega
   |succ n ih=>
    intro i a w F h hJ aB;refine jbr h1 h (h3 i hJ) λe s' a' w' F' h' hk=>?_
    cases e with
    |normal=>
     obtain ⟨i',k1,k2,k3⟩:=hk;obtain ⟨F2,k4,_⟩:=k2 _ _ _ _ _ _ h';exact ih _ _ _ _ k4 k1 (by omega)
    |exit id=>exact hQ (.exit id) _ _ _ _ h' hk
    |ret=>exact hQ .ret _ _ _ _ h' hk
  obtain ⟨F2,h5,_⟩:=h4 _ _ _ _ _ _ h;exact wp_loop_rounds _ (key (μ i0+1) _ _ _ _ h5 h2 (by omega))
 |.exit id,c,s,a,w,F,Qc,Q,hc,h,hw,hQ=>by
  have e:c=.exit id:=vl hc;subst e;exact wp_exit (hQ (.exit id) _ _ _ _ h hw)
 |.ret,c,s,a,w,F,Qc,Q,hc,h,hw,hQ=>by
  have e:c=.ret:=vl hc;subst e;exact wp_ret (hQ .ret _ _ _ _ h hw)
theorem jfb:∀{c':C} {c:Code},comp P N c=some c'->c'.er=c'
 |.skip,_,_|.reg _,_,_|.dreg _,_,_|.exit _,_,_|.ret,_,_=>rfl
 |.seq a b,c,h=>by obtain ⟨x,y,_,h1,h2⟩:=vl h;simp only [C.er,jfb h1,jfb h2]
 |.cond x a b,c,h=>by obtain ⟨_,y,z,_,_,h1,h2⟩:=vl h;simp only [C.er,jfb h1,jfb h2]
 |.blk id a,c,h=>by obtain ⟨x,_,h1⟩:=vl h;simp only [C.er,jfb h1]
 |.loop a,c,h=>by obtain ⟨x,_,h1⟩:=vl h;simp only [C.er,jfb h1]
 |.gh a,c,h=>(vl h).elim
theorem jfa:∀(p:List Nat) (c:C),(C.ghAt p c).er=c.er
 |[],c=>by cases c<;>rfl
 |0::p,.seq a b=>by simp only [C.ghAt,C.er,jfa p a]
 |(k+1)::p,.seq a b=>by simp only [C.ghAt,C.er,jfa p b]
 |0::p,.cond x a b=>by simp only [C.ghAt,C.er,jfa p a]
 |(k+1)::p,.cond x a b=>by simp only [C.ghAt,C.er,jfa p b]
 |k::p,.blk id a=>by simp only [C.ghAt,C.er,jfa p a]
 |k::p,.loop a=>by simp only [C.ghAt,C.er,jfa p a]
 |k::_,.skip=>by cases k<;>rfl
 |k::_,.reg _=>by cases k<;>rfl
 |k::_,.dreg _=>by cases k<;>rfl
 |k::_,.exit _=>by cases k<;>rfl
 |k::_,.ret=>by cases k<;>rfl
 |k::_,.gh _=>by cases k<;>rfl
def C.ghs (ps:List (List Nat)) (c:C):C:=ps.foldr C.ghAt c
theorem jCM (ps:List (List Nat)) (c:C):(C.ghs ps c).er=c.er:=by
 induction ps with
 |nil=>rfl
 |cons p ps ih=>rw [show C.ghs (p::ps) c=C.ghAt p (C.ghs ps c) from rfl,jfa,ih]
theorem jnr {c:Code} {c':C} (ps:List (List Nat)) (h:comp P N c=some c'):comp P N c=some (C.ghs ps c').er:=by rw [jCM,jfb h];exact h
theorem jrY {ds:List D} {x:Value} (h:ViewRel.CellsAt w ds x):A0Rel w.heap.size w (.rp ds) x:=by
 obtain ⟨b,o,us,S,h1,h2,h3⟩:=h;refine ⟨b,o,us,S,h1,h2,RepL.lt ds h2,λaR=>?_,h3⟩
 have hl:=RepL.length ds h2;cases us with
 |nil=>exact absurd (aNF (by simpa using hl.symm)) aR
 |cons u us=>
  have:=h3 0 u rfl;unfold World.cell? at this;split at this
  ·rename_i hh;exact jbK hh
  all_goals simp at this
theorem jwi:∀{caps:List (List D)} {xs:List Value},ViewRel.All2 w caps xs->A0RelL w.heap.size w (caps.map .rp) xs
 |[],_,h=>h
 |_::_,_,⟨x,xs',h1,h2,h3⟩=>⟨x,xs',h1,jrY h2,jwi h3⟩
theorem jBO {d:D} {u:Value} {S:List Nat} (h:Rep w false d u S):A0Rel w.heap.size w d.toRo u:=by
 cases d with
 |val x=>exact h.1
 |sl size ty cs=>exact ⟨rfl,S,h,Rep.lt _ h⟩
theorem jyJ:∀{ds:List D} {us:List Value} {S:List Nat},RepL w false ds us S->A0RelL w.heap.size w (ds.map D.toRo) us
 |[],_,_,⟨h,_⟩=>h
 |_::_,_,_,⟨u,us',S1,S2,h1,_,h3,h4⟩=>⟨u,us',h1,jBO h3,jyJ h4⟩
theorem jzk:∀{v:View} {x:Value},ViewRel w v x->VRel w.heap.size w v.av x
 |.c d,x,⟨S,h⟩=>jBO h
 |.agg ds,x,⟨S,us,h1,h2⟩=>⟨us,h1,jyJ h2⟩
 |.ptr ds,x,h=>jrY h
 |.fn f caps,x,⟨xs,h1,h2⟩=>⟨xs,h1,jwi h2⟩
theorem jnK:∀{vs:List View} {xs:List Value},jaa w vs xs->xs.length=vs.length/\∀(n:Nat) (v:View) (x:Value),vs[n]?=some v->xs[n]?=some x->ViewRel w v x
 |[],_,h=>by rw [show _=_ from h];simp
 |v::vs,_,⟨x,xs',h1,h2,h3⟩=>by
  subst h1;obtain ⟨h4,h5⟩:=jnK h3;refine ⟨by simp [h4],λn v' x' hv hx=>?_⟩
  cases n with
  |zero=>simp at hv hx;subst hv hx;exact h2
  |succ n=>exact h5 n v' x' (by simpa using hv) (by simpa using hx)
theorem juh {vs:List View} {xs:List Value} (hv:jaa w vs xs) (hN:vs.length<=N):
 RelF w.heap.size w N (St.init vs) {tmps:=xs.toArray++Array.replicate (N-xs.toArray.size) undef,defers:=[]} w (λ_=>[]):=by
 obtain ⟨hl,hg⟩:=jnK hv;refine ⟨Below.refl _ _,aMV _,rfl,by simp;omega,λn=>?_,λ_=>rfl,λ_=>Fresh.nil _,λ_ _ _ _ h=>by simp at h⟩
 simp only [St.init];cases iV:vs[n]? with
 |none=>simp [iV,VRel]
 |some v=>
  have aB:n<vs.length:=(aMI.1 iV).1;have xD:n<xs.length:=by omega
  have wG:xs[n]?=some xs[n]:=aMK xD;have:=jzk (hg n v _ iV wG)
  have e:(xs.toArray++Array.replicate (N-xs.toArray.size) undef).getD n undef=xs[n]:=by
   simp [Array.getD_eq_getD_getElem?,Array.getElem?_append,xD]
  simp only [aPG,iV,Option.map_some,aMM];rw [e];exact this
theorem jnc:∀{cs:List Cell} {us:List Value} {S:List Nat} {ds:List D},CRel B w cs us S->IsD cs ds->RepL w true ds us S
 |[],us,S,ds,h,hd=>by rw [show ds=[] from hd];exact h
 |.a x::cs,us,S,ds,⟨u,us',h1,h2,h3⟩,hd=>by
  cases x with
  |v x=>
   cases ds with
   |nil=>exact hd.elim
   |cons d ds=>
    obtain ⟨h4,h5⟩:=hd;subst h1;have h6:=jnc h3 h5;rw [show u=x from h2]
    rcases h4 with rfl|⟨rfl,size,ty,rfl⟩
    ·exact RepL.val_ h6
    ·exact RepL.cons_ (S1:=[]) (Rep.nil_ w size ty) h6
  |_=>cases ds<;>exact hd.elim
 |.own d η::cs,us,S,ds,⟨u,us',S1,S2,h1,h2,_,h4,_,h6⟩,hd=>by
  cases ds with
  |nil=>exact hd.elim
  |cons d' ds=>
   obtain ⟨rfl,h5⟩:=hd;subst h1 h2;exact RepL.cons_ h4 (jnc h6 h5)
def jqK:List (Bool×List A0)->List Value->List Value->Prop
 |[],vals,us=>vals=[]/\us=[]
 |(b,az)::ps,vals,us=>∃v vals' xs us',vals=v::vals'/\us=xs++us'/\xs.length=az.length/\(if b then v=.agg xs.toArray else xs=[v])/\jqK ps vals' us'
def jlP (tmps:Array Value):ResultVar->Sem Value
 |.tmp t=>pure (tmps.getD t undef)
 |.cell x t=>do loadVar t (<-asAddr (tmps.getD x undef))
theorem jhb (fn:Func) (tmps:Array Value):results fn tmps=(do let vs<-fn.results.mapM (jlP tmps);pure (if h:vs.size=1 then vs[0] else .tuple vs)):=by
 unfold results
 congr 1
theorem A0RelL.app:∀{l m:List A0} {us vs:List Value},A0RelL B w l us->A0RelL B w m vs->A0RelL B w (l++m) (us++vs)
 |[],_,_,_,h1,h2=>by rw [show _=_ from h1];exact h2
 |_::_,_,_,_,⟨u,us',h1,h2,h3⟩,h4=>by subst h1;exact ⟨u,_,rfl,h2,h3.app h4⟩
theorem jhc (h:RelF B w0 N s a w F):∀{rs:List ResultVar} {rs':List R} {K:List (Bool×List A0)->Prop},jkj P N rs=some rs'->jis s rs' K->
 ∃ps vals us,K ps/\A0RelL B w (ps.flatMap (·.2)) us/\jqK ps vals us/\(rs.mapM (jlP a.tmps)).run P w=.ok vals w
 |[],rs',K,hc,hk=>by
  simp [jkj] at hc;subst hc;exact ⟨[],[],[],hk,rfl,⟨rfl,rfl⟩,by simp⟩
 |.tmp n::rs,rs',K,hc,hk=>by
  simp only [jkj] at hc;split at hc
  ·simp only [Option.map_eq_some_iff] at hc
   obtain ⟨r,h1,rfl⟩:=hc;simp only [jis] at hk;have hv:=h.sl n;split at hk
   ·rename_i l he
    rw [he] at hv;obtain ⟨xs,k1,k2⟩:=hv;obtain ⟨ps,vals,us,k3,k4,k5,k6⟩:=jhc h h1 hk;refine ⟨_,.agg xs.toArray::vals,xs++us,k3,A0RelL.app k2 k4,⟨_,_,xs,us,rfl,rfl,k2.len,by simp,k5⟩,?_⟩
    simp [List.mapM_cons,jlP,k1,k6]
   ·rename_i a0 he
    rw [he] at hv;obtain ⟨ps,vals,us,k3,k4,k5,k6⟩:=jhc h h1 hk;refine ⟨_,a.tmps.getD n undef::vals,_::us,k3,⟨_,us,rfl,hv,k4⟩,⟨_,_,[_],us,rfl,rfl,rfl,by simp,k5⟩,?_⟩
    simp [List.mapM_cons,jlP,k6]
   ·exact hk.elim
  ·simp at hc
 |.cell n t::rs,rs',K,hc,hk=>by
  simp only [jkj] at hc
  have key:∀{dsc:TypeDesc} {agg:Bool} {k:Nat} {r:List R},P.underlying t=some dsc->agg=jA1 dsc->qi P t=some k->jkj P N rs=some r->jis s (.cell n agg k::r) K->
   ∃ps vals us,K ps/\A0RelL B w (ps.flatMap (·.2)) us/\jqK ps vals us/\((ResultVar.cell n t::rs).mapM (jlP a.tmps)).run P w=.ok vals w:=by
   intro dsc agg k r ht gN hn hr hk;obtain ⟨l,h1,h2,h3⟩:=hk;obtain ⟨b,o,xs,e1,e2,e3,e4,e5⟩:=jru h (h.sl n) h1;obtain ⟨ps,vals,us,k3,k4,k5,k6⟩:=jhc h hr h3
   obtain ⟨v,hv⟩:∃v,if agg then v=.agg xs.toArray else xs=[v]:=by
    cases agg with
    |true=>exact ⟨_,rfl⟩
    |false=>
     have h4:l.length=1:=by simpa using h2
     have:xs.length=1:=by omega
     obtain ⟨v,rfl⟩:=List.length_eq_one_iff.1 this;exact ⟨v,by simp⟩
   have aS:=jm6 (P:=P) ht gN hn e2 e4 hv;refine ⟨_,v::vals,xs++us,k3,A0RelL.app e5 k4,⟨_,_,xs,us,rfl,rfl,by omega,hv,k5⟩,?_⟩
   simp [List.mapM_cons,jlP,e1,asAddr,aS,k6]
  split at hc
  ·split at hc
   ·rename_i fs k r h1 h2 h3
    simp at hc;subst hc;exact key h1 rfl h2 h3 hk
   ·simp at hc
   ·rename_i dsc k r d8 rC h1 h2 h3
    simp at hc;subst hc;refine key h1 ?_ h2 h3 hk;cases dsc<;>simp_all [jA1]
   ·simp at hc
  ·simp at hc
theorem jjB:∀{l:List (Bool×List D)} {ps:List (Bool×List A0)} {vals us:List Value} {S:List Nat},jqK ps vals us->ps.map (λp=>(p.1,p.2.length))=l.map (λp=>(p.1,p.2.length))->RepL w true (l.flatMap (·.2)) us S->jsc w l vals S
 |[],ps,vals,us,S,h,he,hr=>by
  cases ps with
  |nil=>obtain ⟨rfl,rfl⟩:=h;exact ⟨rfl,hr.2⟩
  |cons p ps=>simp at he
 |(b,ds)::l,ps,vals,us,S,h,he,hr=>by
  cases ps with
  |nil=>simp at he
  |cons p ps=>
   obtain ⟨b',az⟩:=p;simp at he;obtain ⟨⟨rfl,e1⟩,e2⟩:=he;obtain ⟨v,vals',xs,us',rfl,rfl,h3,h4,h5⟩:=h;simp only [aNL] at hr;obtain ⟨v1,v2,S1,S2,e3,rfl,h6,h7⟩:=RepL.append_inv _ hr;have hl:=RepL.length _ h6;obtain ⟨rfl,rfl⟩:=List.append_inj e3 (by omega)
   exact ⟨v,vals',xs,S1,S2,rfl,rfl,h6,h4,jjB h5 e2 h7⟩
theorem jvT (h:RelF B w0 N s a w F) {fn:Func} {rs:List R} {rt:RT} (hc:jkj P N fn.results.toList=some rs) (hq:jyu rs rt s):
 ∃v S,(results fn a.tmps).run P w=.ok v w/\jkN w rt v S/\Fresh B S:=by
 obtain ⟨ps,vals,us,⟨h1,h2⟩,h3,h4,h5⟩:=jhc h hc hq;obtain ⟨cs,s',S,F',k1,k2,k3,k4,_⟩:=jbY h h3 h2;have hr:=jnc k2 k1
 have aS:(results fn a.tmps).run P w=.ok (if hs:vals.toArray.size=1 then vals.toArray[0] else .tuple vals.toArray) w:=by
  rw [jhb,Array.mapM_eq_mapM_toList];simp [h5]
 cases rt with
 |c d=>
  obtain ⟨a0,rfl⟩:=h1;obtain ⟨v,vals',xs,us',rfl,rfl,e1,e2,⟨rfl,rfl⟩⟩:=h4;simp at e2;subst e2;obtain ⟨u,us'',S1,S2,e3,rfl,e5,⟨rfl,rfl⟩⟩:=hr;simp at e3;subst e3;exact ⟨v,S1++[],by simpa using aS,(by simpa using e5:Rep w true d v (S1++[])),k4⟩
 |agg ds=>
  obtain ⟨l,rfl⟩:=h1;obtain ⟨v,vals',xs,us',rfl,rfl,e1,e2,⟨rfl,rfl⟩⟩:=h4;simp at e2;subst e2;exact ⟨_,S,by simpa using aS,⟨xs,rfl,by simpa [RT.flat] using hr⟩,k4⟩
 |tup l=>
  obtain ⟨aR,h1⟩:=h1
  have aD:vals.length=ps.length:=by
   have:∀{ps:List (Bool×List A0)} {vals us:List Value},jqK ps vals us->vals.length=ps.length:=by
    intro ps
    induction ps with
    |nil=>intro vals us h;rw [h.1];rfl
    |cons p ps ih=>obtain ⟨b,az⟩:=p;rintro vals us ⟨v,vals',xs,us',rfl,_,_,_,h⟩;simp [ih h]
   exact this h4
  refine ⟨_,S,aS,⟨vals,?_,jjB h4 h1 hr⟩,k4⟩;rw [dif_neg (by simpa [aD] using aR)]
theorem jzY {f:FuncId} {fn:Func} {c:Code} {c':C} {vs:List View} {rs:List R} {rt:RT} (hf:P.funcs[f]?=some fn) (hb:fn.body=some c) (hn:(fn.name != "runtime.NumGoroutine")=true)
 (hc:comp P fn.ntmps c=some c'.er) (hr:jkj P fn.ntmps fn.results.toList=some rs) (hN:vs.length<=fn.ntmps) (hw:wpC P 0 c' (jxj rs rt) (St.init vs)):kg P f vs rt:=by
 refine ⟨⟨fn,hf,by rw [hb];rfl,hn⟩,λw xs hv=>calls_of_wp hf hb (jbr hc (juh hv hN) hw λe s a w' F h hk=>?_)⟩
 cases e with
 |exit id=>exact hk.elim
 |normal=>
  obtain ⟨v,S,k1,k2,k3⟩:=jvT h hr hk;exact ⟨h.df,v,k1,v,S,rfl,k2,k3,h.below⟩
 |ret=>
  obtain ⟨v,S,k1,k2,k3⟩:=jvT h hr hk;exact ⟨h.df,v,k1,v,S,rfl,k2,k3,h.below⟩
theorem vZ (ps:List (List Nat)) {f:FuncId} {fn:Func} {c:C} {vs:List View} {rs:List R} {rt:RT} (hf:P.funcs[f]?=some fn) (hc:fnC P fn=some (c,rs,N)) (hN:vs.length<=N) (hw:wpC P 0 (C.ghs ps c) (jxj rs rt) (St.init vs)):kg P f vs rt:=by
 unfold fnC at hc;split at hc
 ·rename_i b hb
  split at hc
  ·rename_i hn
   split at hc
   ·rename_i c' rs' h1 h2
    simp only [Option.some.injEq,Prod.mk.injEq] at hc;obtain ⟨rfl,rfl,rfl⟩:=hc;exact jzY hf hb hn (jnr ps h1) h2 hN hw
   ·simp at hc
  ·simp at hc
 ·simp at hc
theorem je5 {f:FuncId} {fn:Func} {c:C} {vs:List View} {rs:List R} {rt:RT} (hf:P.funcs[f]?=some fn) (hc:fnC P fn=some (c,rs,N)) (hN:vs.length<=N) (hw:wpC P 0 c (jxj rs rt) (St.init vs)):kg P f vs rt:=vZ [] hf hc hN hw
theorem jqM:∀{args:List AV} {xs:List Value},jkM B w args xs->xs.length=args.length/\∀(n:Nat) (v:AV) (x:Value),args[n]?=some v->xs[n]?=some x->VRel B w v x
 |[],_,h=>by rw [show _=_ from h];simp
 |v::vs,_,⟨x,xs',h1,h2,h3⟩=>by
  subst h1;obtain ⟨h4,h5⟩:=jqM h3;refine ⟨by simp [h4],λn v' x' hv hx=>?_⟩
  cases n with
  |zero=>simp at hv hx;subst hv hx;exact h2
  |succ n=>exact h5 n v' x' (by simpa using hv) (by simpa using hx)
theorem jlu {args:List AV} {xs:List Value} {o:Nat->Ob} (h:RelF B w 0 (.only o) Act.bare w F) (hv:jkM B w args xs) (hN:args.length<=N):
 RelF B w N (St.start args o) {tmps:=xs.toArray++Array.replicate (N-xs.toArray.size) undef,defers:=[]} w F:=by
 obtain ⟨hl,hg⟩:=jqM hv;refine ⟨Below.refl _ _,h.hB,rfl,by simp;omega,λn=>?_,h.ob,h.fr,h.dj⟩
 simp only [St.start];cases iV:args[n]? with
 |none=>simp [iV,VRel]
 |some v=>
  have aB:n<args.length:=(aMI.1 iV).1;have xD:n<xs.length:=by omega
  have wG:xs[n]?=some xs[n]:=aMK xD;have:=hg n v _ iV wG
  have e:(xs.toArray++Array.replicate (N-xs.toArray.size) undef).getD n undef=xs[n]:=by
   simp [Array.getD_eq_getD_getElem?,Array.getElem?_append,xD]
  simp only [aMM];rw [e];exact this
theorem jrM (h:RelF B w0 N s a w F) {fn:Func} {rs:List R} {R:RT->(Nat->Ob)->Prop} (hc:jkj P N fn.results.toList=some rs) (hq:RetT rs R s):
 ∃v rt o' S,∃F':Nat->List Nat,(results fn a.tmps).run P w=.ok v w/\jkN w rt v S/\Fresh B S/\(∀g,∀b∈S,b∉F' g)/\(∀g,ORel B w (o' g) (F' g))/\(∀g,Fresh B (F' g))/\(∀g g',g≠g'->∀b∈F' g,b∉F' g')/\R rt o':=by
 obtain ⟨ps,vals,us,⟨rt,h1,h2⟩,h3,h4,h5⟩:=jhc h hc hq;obtain ⟨cs,s',S,F',⟨k1,kR⟩,k2,k3,k4,k6,_⟩:=jbY h h3 h2;have hr:=jnc k2 k1
 have aS:(results fn a.tmps).run P w=.ok (if hs:vals.toArray.size=1 then vals.toArray[0] else .tuple vals.toArray) w:=by
  rw [jhb,Array.mapM_eq_mapM_toList];simp [h5]
 have fin:∀v S,(results fn a.tmps).run P w=.ok v w->jkN w rt v S->Fresh B S->(∀g,∀b∈S,b∉F' g)->∃v rt o' S,∃F':Nat->List Nat,(results fn a.tmps).run P w=.ok v w/\jkN w rt v S/\Fresh B S/\(∀g,∀b∈S,b∉F' g)/\(∀g,ORel B w (o' g) (F' g))/\(∀g,Fresh B (F' g))/\(∀g g',g≠g'->∀b∈F' g,b∉F' g')/\R rt o':=
  λv S m1 m2 m3 m4=>⟨v,rt,s'.o,S,F',m1,m2,m3,m4,k3.ob,k3.fr,k3.dj,kR⟩
 cases rt with
 |c d=>
  obtain ⟨a0,rfl⟩:=h1;obtain ⟨v,vals',xs,us',rfl,rfl,e1,e2,⟨rfl,rfl⟩⟩:=h4;simp at e2;subst e2;obtain ⟨u,us'',S1,S2,e3,rfl,e5,⟨rfl,rfl⟩⟩:=hr;simp at e3;subst e3;exact fin v (S1++[]) (by simpa using aS) (by simpa using e5:Rep w true d v (S1++[])) k4 k6
 |agg ds=>
  obtain ⟨l,rfl⟩:=h1;obtain ⟨v,vals',xs,us',rfl,rfl,e1,e2,⟨rfl,rfl⟩⟩:=h4;simp at e2;subst e2;exact fin _ S (by simpa using aS) ⟨xs,rfl,by simpa [RT.flat] using hr⟩ k4 k6
 |tup l=>
  obtain ⟨aR,h1⟩:=h1
  have aD:vals.length=ps.length:=by
   have:∀{ps:List (Bool×List A0)} {vals us:List Value},jqK ps vals us->vals.length=ps.length:=by
    intro ps
    induction ps with
    |nil=>intro vals us h;rw [h.1];rfl
    |cons p ps ih=>obtain ⟨b,az⟩:=p;rintro vals us ⟨v,vals',xs,us',rfl,_,_,_,h⟩;simp [ih h]
   exact this h4
  exact fin _ S aS ⟨vals,by rw [dif_neg (by simpa [aD] using aR)],jjB h4 h1 hr⟩ k4 k6
theorem jwP (ps:List (List Nat)) {f:FuncId} {fn:Func} {c:C} {args:List AV} {o:Nat->Ob} {rs:List R} {R:RT->(Nat->Ob)->Prop} (hf:P.funcs[f]?=some fn) (hc:fnC P fn=some (c,rs,N)) (hN:args.length<=N) (hw:wpC P β (C.ghs ps c) (jA9 rs R) (St.start args o)):Turns P f args o R:=by
 unfold fnC at hc;split at hc
 ·rename_i b hb
  split at hc
  ·rename_i hn
   split at hc
   ·rename_i c' rs' h1 h2
    simp only [Option.some.injEq,Prod.mk.injEq] at hc;obtain ⟨rfl,rfl,rfl⟩:=hc;refine ⟨⟨fn,hf,by rw [hb];rfl,hn⟩,λB w F xs hF hv=>calls_of_wp hf hb (jbr (jnr ps h1) (jlu hF hv hN) hw λe s a w' F' h hk=>?_)⟩
    cases e with
    |exit id=>exact hk.elim
    |normal=>
     obtain ⟨v,rt,o',S,F2,k1,k2,k3,k4,k5,k6,k7,k8⟩:=jrM h h2 hk;exact ⟨h.df,v,k1,v,rt,o',S,F2,rfl,⟨h.below,h.hB,rfl,rfl,λ_=>trivial,k5,k6,k7⟩,k2,k3,k4,k8⟩
    |ret=>
     obtain ⟨v,rt,o',S,F2,k1,k2,k3,k4,k5,k6,k7,k8⟩:=jrM h h2 hk;exact ⟨h.df,v,k1,v,rt,o',S,F2,rfl,⟨h.below,h.hB,rfl,rfl,λ_=>trivial,k5,k6,k7⟩,k2,k3,k4,k8⟩
   ·simp at hc
  ·simp at hc
 ·simp at hc
theorem ji7 {f:FuncId} {fn:Func} {c:C} {args:List AV} {o:Nat->Ob} {rs:List R} {R:RT->(Nat->Ob)->Prop} (hf:P.funcs[f]?=some fn) (hc:fnC P fn=some (c,rs,N)) (hN:args.length<=N) (hw:wpC P β c (jA9 rs R) (St.start args o)):Turns P f args o R:=jwP [] hf hc hN hw
theorem jyF:∀{ps:List (Bool×List A0)} {vals us:List Value},jqK ps vals us->A0RelL B w (ps.flatMap (·.2)) us->TRelL B w ps vals
 |[],vals,us,⟨h1,_⟩,_=>h1
 |(b,az)::ps,vals,us,⟨v,vals',xs,us',h1,h2,h3,h4,h5⟩,hr=>by
  subst h1 h2;simp only [aNL] at hr
  have key:∀{l m:List A0} {xs ys:List Value},xs.length=l.length->A0RelL B w (l++m) (xs++ys)->A0RelL B w l xs/\A0RelL B w m ys:=by
   intro l
   induction l with
   |nil=>intro m xs ys hl h;obtain rfl:xs=[]:=aNF hl;exact ⟨rfl,h⟩
   |cons x l ih=>
    intro m xs ys hl h;cases xs with
    |nil=>simp at hl
    |cons y xs=>
     obtain ⟨u,us',e1,e2,e3⟩:=h;simp only [aOS,List.cons.injEq] at e1;obtain ⟨rfl,rfl⟩:=e1;obtain ⟨k1,k2⟩:=ih (by simpa using hl) e3
     exact ⟨⟨y,xs,rfl,e2,k1⟩,k2⟩
  obtain ⟨k1,k2⟩:=key h3 hr;exact ⟨v,vals',xs,rfl,k1,h4,jyF h5 k2⟩
theorem jlZ (ps:List (List Nat)) {f:FuncId} {fn:Func} {c:C} {args:List AV} {o:Nat->Ob} {rs:List R} {R:AV->(Nat->Ob)->Prop} (hf:P.funcs[f]?=some fn) (hc:fnC P fn=some (c,rs,N)) (hN:args.length<=N) (hw:wpC P β (C.ghs ps c) (jDq rs R) (St.start args o)):Inl P f args o R:=by
 unfold fnC at hc;split at hc
 ·rename_i b hb
  split at hc
  ·rename_i hn
   split at hc
   ·rename_i c' rs' h1 h2
    simp only [Option.some.injEq,Prod.mk.injEq] at hc;obtain ⟨rfl,rfl,rfl⟩:=hc
    have fin:∀{s:St} {a:Act} {w w':World} {F':Nat->List Nat} {B:Nat},RelF B w fn.ntmps s a w' F'->jtM rs' R s->∃v,(results fn a.tmps).run P w'=.ok v w'/\∃av o',∃F2:Nat->List Nat,RelF B w 0 (.only o') Act.bare w' F2/\VRel B w' av v/\R av o':=λ{s a w w' F' B} h hk=>by
     obtain ⟨ps,vals,us,k1,k2,k3,k4⟩:=jhc h h2 hk
     have aS:(results fn a.tmps).run P w'=.ok (if hs:vals.toArray.size=1 then vals.toArray[0] else .tuple vals.toArray) w':=by
      rw [jhb,Array.mapM_eq_mapM_toList];simp [k4]
     have bL:RelF B w 0 (.only s.o) Act.bare w' F':=⟨h.below,h.hB,rfl,rfl,λ_=>trivial,h.ob,h.fr,h.dj⟩
     have gT:=jyF k3 k2
     match ps,k1,gT with
     |[],k1,gT=>
      obtain rfl:vals=[]:=gT;exact ⟨_,aS,.tup [],s.o,F',bL,⟨[],by simp,rfl⟩,k1⟩
     |[(true,l)],k1,⟨v,vals',xs,e1,e2,e3,e4⟩=>
      obtain rfl:vals'=[]:=e4;subst e1;exact ⟨v,by simpa using aS,.agg l,s.o,F',bL,⟨xs,by simpa using e3,e2⟩,k1⟩
     |[(false,[a0])],k1,⟨v,vals',xs,e1,e2,e3,e4⟩=>
      obtain rfl:vals'=[]:=e4;subst e1;obtain rfl:xs=[v]:=by simpa using e3
      obtain ⟨u,us',e5,e6,_⟩:=e2;cases e5;exact ⟨v,by simpa using aS,.c a0,s.o,F',bL,e6,k1⟩
     |p::q::r,k1,gT=>
      have hl:vals.length≠1:=by
       obtain ⟨_,vals',_,e1,_,_,e4⟩:=gT;obtain ⟨_,vals'',_,e5,_,_,_⟩:=e4;subst e1 e5;simp
      have k1':R (.tup (p::q::r)) s.o:=by
       obtain ⟨b,l⟩:=p;cases b
       ·cases l with
        |nil=>exact k1
        |cons x l=>cases l<;>exact k1
       ·exact k1
      exact ⟨_,by rw [aS,dif_neg (by simpa using hl)],.tup (p::q::r),s.o,F',bL,⟨vals,rfl,gT⟩,k1'⟩
    refine ⟨⟨fn,hf,by rw [hb];rfl,hn⟩,λB w F xs hF hv=>calls_of_wp hf hb (jbr (jnr ps h1) (jlu hF hv hN) hw λe s a w' F' h hk=>?_)⟩
    cases e with
    |exit id=>exact hk.elim
    |normal=>
     obtain ⟨v,k1,av,o',F2,k2,k3,k4⟩:=fin h hk;exact ⟨h.df,v,k1,v,av,o',F2,rfl,k2,k3,k4⟩
    |ret=>
     obtain ⟨v,k1,av,o',F2,k2,k3,k4⟩:=fin h hk;exact ⟨h.df,v,k1,v,av,o',F2,rfl,k2,k3,k4⟩
   ·simp at hc
  ·simp at hc
 ·simp at hc
theorem qv {f:FuncId} {fn:Func} {c:C} {args:List AV} {o:Nat->Ob} {rs:List R} {R:AV->(Nat->Ob)->Prop} (hf:P.funcs[f]?=some fn) (hc:fnC P fn=some (c,rs,N)) (hN:args.length<=N) (hw:wpC P β c (jDq rs R) (St.start args o)):Inl P f args o R:=jlZ [] hf hc hN hw
end
