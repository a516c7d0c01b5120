/- Parts. -/
import Derived.Test.YtcehjhiglmifjaaGreatQE4bd
import Derived.LoopN
import Derived.Test.YtcehjhiglmifjaaGreatRows
import Derived.ProofKit
import Derived.Deep.Slices
import Derived.ChangeSame
import Derived.Test.YtcehjhiglmifjaaGreatProg
import Derived.Below
import Derived.OpenShut
set_option linter.all false
set_option maxHeartbeats 2000000
set_option maxRecDepth 100000
namespace Go.Proofs.YtcehjhiglmifjaaGreat
open Go.RowKit Go.Sort
section
variable {P:Program} {β B N:Nat} {w w0:World} {s:St} {a:Act} {F:Nat->List Nat} {o:Oper} {K:St->Prop}
theorem OpOk.of_goes (h:RelF B w0 N s a w F) (hd:∀k,o.dst=some k->k<N) (hg:Goes P o a w (kt B w λav os=>K ((s.addO os).put o.dst av))):
 OpOk P o a w (λa' w'=>∃s' F',RelF B w0 N s' a' w' F'/\K s'):=by
 intro next Q hk;refine hg next Q λv w' ⟨av,os,S,h1,h2,h3,h4,h5⟩=>?_
 have hB:B<=w.heap.size:=aQJ h.hB h.below.size
 obtain ⟨F',h6⟩:=(h.world h4).addO h2 (h3.mono hB) λg b hb a9=>by
  have:=(h.ob g).lt b a9;have:=h3.2 b hb;omega
 exact hk _ _ ⟨_,_,h6.put h1 hd,h5⟩
def jBx (P:Program) (o:Oper) (i:I):Prop:=∀{β B N:Nat} {w w0:World} {s:St} {a:Act} {F:Nat->List Nat} {K:St->Prop} {g:Option (Nat×Bool)},
 RelF B w0 N s a w F->(∀k,o.dst=some k->k<N)->vp P β ⟨o.dst,g,i⟩ s K->OpOk P o a w (λa' w'=>∃s' F',RelF B w0 N s' a' w' F'/\K s')
theorem jDf {c:Call} {i:I} (ho:o.op=.call c) (hc:joH P c=some i):jBx P o i:=by
 intro β B N w w0 s a F K g h hd hr;unfold joH at hc;split at hc
 ·rename_i x h1 h2
  split at hc
  ·rename_i x' h3 h4
   simp at hc;subst hc;obtain ⟨rt,hg⟩:=hr;exact .of_goes h hd (go_len (str:=true) h ho h1 h2 h3 h4 hg)
  ·rename_i e x' h3 h4
   simp at hc;subst hc;obtain ⟨rt,hg⟩:=hr;exact .of_goes h hd (go_len (str:=false) h ho h1 h2 ⟨_,h3⟩ h4 hg)
  ·simp at hc
 ·rename_i x y h1 h2
  split at hc
  ·rename_i t t' h3
   split at hc
   ·rename_i e e' h4 h5
    split at hc
    ·rename_i i' zs x' y' h6 h7 h8 h9
     split at hc
     ·rename_i lG
      simp at hc;subst hc;simp at lG;obtain ⟨oK,rfl⟩:=lG;exact jE8 h ho h1 h2 h3 h4 h6 h7 oK h8 h9 hd hr
     ·simp at hc
    ·simp at hc
   ·rename_i e h4 h5
    split at hc
    ·rename_i i' x' y' h6 h7 h8 h9
     split at hc
     ·rename_i lG
      split at hc
      ·rename_i oK
       simp at hc;subst hc;simp at oK;exact jCC h ho h1 h2 h3 h4 h5 h7 lG oK.1 oK.2 h8 h9 hd hr
      ·simp at hc
     ·simp at hc
    ·simp at hc
   ·simp at hc
  ·simp at hc
 ·rename_i x h1 h2
  split at hc
  ·rename_i t h3
   split at hc
   ·rename_i e h4
    split at hc
    ·rename_i i' zs x' h6 h7 h8
     split at hc
     ·rename_i lG
      simp at hc;subst hc;exact jE5 h ho h1 h2 h3 h4 h6 h7 lG h8 hr
     ·simp at hc
    ·simp at hc
   ·simp at hc
  ·simp at hc
 ·rename_i x y h1 h2
  split at hc
  ·rename_i x' y' h3 h4
   simp at hc;subst hc;obtain ⟨rt,hg⟩:=hr;exact .of_goes h hd (go_mm (mx:=true) h ho h1 h2 h3 h4 hg)
  ·simp at hc
 ·rename_i x y h1 h2
  split at hc
  ·rename_i x' y' h3 h4
   simp at hc;subst hc;obtain ⟨rt,hg⟩:=hr;exact .of_goes h hd (go_mm (mx:=false) h ho h1 h2 h3 h4 hg)
  ·simp at hc
 ·rename_i f h1
  split at hc
  ·rename_i fn l h3 h4
   split at hc
   ·simp at hc;subst hc
    rcases hr with ⟨rt,hg⟩|ht|ht
    ·exact .of_goes h hd (go_call h ho h1 h4 hg)
    ·exact jsZ h (jdd (cs:=[]) ht.1 ho h1 rfl rfl) (by simpa using jkm (caps:=[]) (cs:=[]) h h4 rfl) hd ht
    ·exact jE4 h (jdd (cs:=[]) ht.1 ho h1 rfl rfl) (by simpa using jkm (caps:=[]) (cs:=[]) h h4 rfl) hd ht
   ·simp at hc
  ·simp at hc
 ·rename_i t h1
  cases h2:zI c.args.toList with
  |none=>rw [h2] at hc;simp at hc
  |some l=>
   rw [h2] at hc;simp at hc;subst hc;rcases hr with ⟨rt,hg⟩|⟨f,caps,h0,ht⟩
   ·exact .of_goes h hd (go_callv h ho h1 h2 hg)
   ·have xD:=h.sl t
    rw [show s.t t=.fn f caps from h0] at xD
    obtain ⟨cs,k1,k2⟩:=xD;exact jsZ h (jdd ht.1 ho h1 k1 rfl) (jkm h h2 k2) hd ht
 ·simp at hc
theorem jmJ {lo hi:Option Operand} {n:Nat} {x:X} {i:I} (hc:(match lo.map jQ,hi.map jQ with
        |none,none=>some (I.sl n x none none)
        |some (some a),none=>some (.sl n x (some a) none)
        |none,some (some b)=>some (.sl n x none (some b))
        |some (some a),some (some b)=>some (.sl n x (some a) (some b))
        |_,_=>none)=some i):∃lo' nT,i=.sl n x lo' nT/\((lo=none/\lo'=none)\/∃y y',lo=some y/\lo'=some y'/\jQ y=some y')/\((hi=none/\nT=none)\/∃y y',hi=some y/\nT=some y'/\jQ y=some y'):=by
 cases lo<;>cases hi<;>simp only [Option.map_none,Option.map_some] at hc
 ·simp at hc;subst hc;exact ⟨_,_,rfl,.inl ⟨rfl,rfl⟩,.inl ⟨rfl,rfl⟩⟩
 ·split at hc<;>simp_all
 ·split at hc<;>simp_all
 ·split at hc<;>simp_all
theorem jE2 {i:I} (hc:zF P o.op=some i):jBx P o i:=by
 intro β B N w w0 s a F K g h hd hr;cases ho:o.op with
 |move x=>
  simp only [ho,zF] at hc;cases h1:jQ x with
  |none=>simp [h1] at hc
  |some x'=>
   simp [h1] at hc;subst hc;obtain ⟨rt,hg⟩:=hr;exact .of_goes h hd (go_mov h (.inl ho) h1 hg)
 |assign x=>
  simp only [ho,zF] at hc;cases h1:jQ x with
  |none=>simp [h1] at hc
  |some x'=>
   simp [h1] at hc;subst hc;obtain ⟨rt,hg⟩:=hr;exact .of_goes h hd (go_mov h (.inr ho) h1 hg)
 |pick c x y=>
  simp only [ho,zF] at hc;split at hc
  ·rename_i c' x' y' h1 h2 h3
   simp at hc;subst hc;obtain ⟨rt,hg⟩:=hr;exact .of_goes h hd (go_pick h ho h1 h2 h3 hg)
  ·simp at hc
 |alloc e=>
  simp only [ho,zF] at hc;cases h1:vJ P e with
  |none=>simp [h1] at hc
  |some z=>
   simp [h1] at hc;subst hc;obtain ⟨rt,hg⟩:=hr;exact .of_goes h hd (go_alloc h ho h1 hg)
 |box e x=>
  simp only [ho,zF] at hc;split at hc
  ·rename_i n x' h1 h2
   simp at hc;subst hc;exact jE7 h ho h2 hd hr
  ·simp at hc
 |build t ps=>
  simp only [ho,zF] at hc;split at hc
  ·rename_i fs z h1 h2
   split at hc
   ·simp at hc
   ·rename_i h3
    simp only [Option.map_eq_some_iff] at hc;obtain ⟨ps',h4,rfl⟩:=hc;obtain ⟨rt,hg⟩:=hr;exact .of_goes h hd (go_bld h ho h1 h2 (by cases hq:(fs.toList.all λf=>(P.info? f.type).isSome) with|true=>rfl|false=>exact absurd (by rw [hq];rfl) h3) h4 hg)
  ·simp at hc
 |buildSlice t n ps=>
  simp only [ho,zF] at hc;split at hc
  ·rename_i e h1
   split at hc
   ·rename_i size h2
    split at hc
    ·rename_i h3
     simp only [Option.map_eq_some_iff] at hc;obtain ⟨ps',h4,rfl⟩:=hc;simp only [aPG,aPM,aQW] at h3;obtain ⟨⟨⟨h5,h6⟩,h7⟩,h8⟩:=h3;obtain ⟨z,hz⟩:=Option.isSome_iff_exists.1 h6;exact jE6 h ho h1 h2 h5 hz h7 h8 h4 hd hr
    ·simp at hc
   ·simp at hc
  ·simp at hc
 |load t x=>
  simp only [ho,zF] at hc;split at hc
  ·rename_i fs n x' h1 h2 h3
   simp at hc;subst hc;obtain ⟨rt,hg⟩:=hr;exact .of_goes h hd (go_ld h ho h1 rfl h2 h3 hg)
  ·simp at hc
  ·rename_i dsc x' eB rW h1 h2 h3
   simp at hc;subst hc;obtain ⟨rt,hg⟩:=hr;refine .of_goes h hd (go_ld h ho h1 ?_ h2 h3 hg);cases dsc<;>simp_all [jDE]
  ·simp at hc
 |store t x y=>
  simp only [ho,zF] at hc;split at hc
  ·rename_i n x' y' h1 h2 h3
   simp at hc;subst hc;exact ok_st h ho h1 h2 h3 hr
  ·simp at hc
 |binOp op t x y t'=>
  simp only [ho,zF] at hc;split at hc
  ·rename_i x' y' h1 h2
   split at hc
   ·rename_i h3
    split at hc
    ·simp at hc;subst hc
     obtain ⟨rt,hg⟩:=hr;exact .of_goes h hd (go_beq (neg:=false) h ho h3 h1 h2 hg)
    ·simp at hc;subst hc
     obtain ⟨rt,hg⟩:=hr;exact .of_goes h hd (go_beq (neg:=true) h ho h3 h1 h2 hg)
    ·simp at hc
   ·simp at hc;subst hc
    obtain ⟨rt,hg⟩:=hr;exact .of_goes h hd (go_bin h ho h1 h2 hg)
   ·simp at hc
  ·simp at hc
 |unOp op t x=>
  simp only [ho,zF] at hc;cases h1:jQ x with
  |none=>simp [h1] at hc
  |some x'=>
   simp [h1] at hc;subst hc;obtain ⟨rt,hg⟩:=hr;exact .of_goes h hd (go_un h ho h1 hg)
 |convert t t' x=>
  simp only [ho,zF] at hc;split at hc
  ·rename_i k0 k x' h1 h2 h3
   simp at hc;subst hc;obtain ⟨rt,hg⟩:=hr;exact .of_goes h hd (go_num h ho h1 h2 h3 hg)
  ·rename_i e x' h1 h2 h3
   split at hc
   ·rename_i h4
    simp at hc;subst hc;obtain ⟨rt,hg⟩:=hr;exact .of_goes h hd (go_text h ho h1 h4 h2 h3 hg)
   ·simp at hc
  ·simp at hc
 |makeSlice t l c=>
  simp only [ho,zF] at hc;split at hc
  ·rename_i e l' c' h1 h2 h3
   split at hc
   ·rename_i i' z h4 h5
    split at hc
    ·rename_i h6
     simp at hc;subst hc;obtain ⟨rt,hg⟩:=hr;exact .of_goes h hd (go_mks h ho h1 h4 h5 h6 h2 h3 hg)
    ·simp at hc
   ·simp at hc
  ·simp at hc
 |slice t x lo hi m=>
  cases m with
  |some m=>simp [ho,zF] at hc
  |none=>
   simp only [ho,zF] at hc;split at hc
   ·rename_i e x' h1 h2
    split at hc
    ·rename_i n h3
     obtain ⟨lo',nT,rfl,h4,h5⟩:=jmJ hc;obtain ⟨rt,hg⟩:=hr;exact .of_goes h hd (go_sl_ro h ho h1 h3 h2 h4 h5 hg)
    ·simp at hc
   ·rename_i x' h1 h2
    obtain ⟨lo',nT,rfl,h4,h5⟩:=jmJ hc;obtain ⟨rt,hg⟩:=hr;exact .of_goes h hd (go_sl_str h ho h1 h2 h4 h5 hg)
   ·simp at hc
 |nilCheck x=>
  simp only [ho,zF,Option.map_eq_some_iff] at hc;obtain ⟨x',h1,rfl⟩:=hc;obtain ⟨rt,hg⟩:=hr;exact .of_goes h hd (go_nc h ho h1 hg)
 |fieldAddr t x f=>
  simp only [ho,zF] at hc;split at hc
  ·rename_i fs x' h1 h2
   split at hc
   ·rename_i fd h3
    split at hc
    ·rename_i n h4
     simp at hc;subst hc;obtain ⟨rt,hg⟩:=hr;exact .of_goes h hd (go_fa h ho h1 h3 h4 h2 hg)
    ·simp at hc
   ·simp at hc
  ·simp at hc
 |indexAddr t x j=>
  simp only [ho,zF] at hc;split at hc
  ·rename_i e x' j' h1 h2 h3
   split at hc
   ·rename_i n h4
    simp at hc;subst hc;obtain ⟨rt,hg⟩:=hr;exact .of_goes h hd (go_ia h ho h1 h4 h2 h3 hg)
   ·simp at hc
  ·simp at hc
 |index t x j=>
  simp only [ho,zF] at hc;split at hc
  ·rename_i x' j' h1 h2 h3
   simp at hc;subst hc;obtain ⟨rt,hg⟩:=hr;exact .of_goes h hd (go_sidx h ho h1 h2 h3 hg)
  ·simp at hc
 |extract x j=>
  simp only [ho,zF] at hc;cases h1:jQ x with
  |none=>simp [h1] at hc
  |some x'=>
   simp [h1] at hc;subst hc;obtain ⟨rt,hg⟩:=hr;exact .of_goes h hd (go_ext h ho h1 hg)
 |field t x f=>
  simp only [ho,zF] at hc;split at hc
  ·rename_i fs x' h1 h2
   split at hc
   ·rename_i fd h3
    split at hc
    ·rename_i n h4 h5
     simp at hc;subst hc;obtain ⟨rt,hg⟩:=hr;exact .of_goes h hd (go_fld h ho h1 h3 h4 rfl h5 h2 hg)
    ·simp at hc
    ·rename_i dsc h4 h5 h6 h7
     simp at hc;subst hc;obtain ⟨rt,hg⟩:=hr;exact .of_goes h hd (go_fld h ho h1 h3 h6 (by cases dsc<;>first|rfl|simp_all) h7 h2 hg)
    ·simp at hc
   ·simp at hc
  ·simp at hc
 |makeFunc fn first caps=>
  cases fn with
  |func f=>
   simp only [ho,zF] at hc;split at hc
   ·rename_i h1
    cases h2:zI caps.toList with
    |none=>simp [h2] at hc
    |some l=>
     simp [h2] at hc;subst hc;obtain ⟨rt,hg⟩:=hr;exact .of_goes h hd (go_mkf h ho (by simpa using h1) h2 hg)
   ·simp at hc
  |_=>simp [ho,zF] at hc
 |call c=>simp only [ho,zF] at hc;exact jDf ho hc h hd hr
 |_=>simp [ho,zF] at hc
def jsh (N:Nat) (ops:Array Oper) (g:Option (Nat×Bool)) (g':Option (Nat×Bool)):Prop:=match g with
 |none=>g'=none
 |some (j,want)=>∃t,(ops[j]?).bind (·.dst)=some t/\t<N/\g'=some (t,want)
theorem jj4 (h:RelF B w0 N s a w F) {ops:Array Oper} {g':Option (Nat×Bool)} {b:Bool} (hg:jsh N ops o.guard g') (hw:zi s g'=some b):
 Region.wanted o (yielded ops a.tmps)=b:=by
 unfold Region.wanted;cases ho:o.guard with
 |none=>rw [ho] at hg;simp only [jsh] at hg;subst hg;simp [zi] at hw;simpa using hw
 |some p=>
  obtain ⟨j,want⟩:=p;rw [ho] at hg;obtain ⟨t,h1,h2,rfl⟩:=hg;have hv:=h.sl t;have aB:t<a.tmps.size:=by rw [h.sz];exact h2
  have he:a.tmps.getD t undef=a.tmps[t]:=by simp [Array.getD_eq_getD_getElem?,aB]
  rw [he] at hv;simp only [zi] at hw;simp only [yielded,h1,Option.bind_some,Array.getElem?_eq_getElem aB];split at hw
  ·rename_i b' hb
   rw [hb] at hv;rw [show a.tmps[t]=.bool b' from hv]
   simp at hw;subst hw;cases b'<;>cases want<;>rfl
  ·rename_i u hu hb
   rw [hb] at hv;have sQ:a.tmps[t]=u:=hv;rw [sQ];simp at hw;subst hw;cases u<;>simp_all
  ·simp at hw
theorem jtz {ops:Array Oper} {i:Ins} (hc:jAk P N ops o=some i):i.d=o.dst/\zF P o.op=some i.i/\(∀k,o.dst=some k->k<N)/\jsh N ops o.guard i.g:=by
 unfold jAk at hc;split at hc
 ·rename_i j h1 h2
  have hd:∀k,o.dst=some k->k<N:=λk hk=>by rw [hk] at h2;simpa using h2
  cases hg:o.guard with
  |none=>rw [hg] at hc;simp at hc;subst hc;exact ⟨rfl,h1,hd,rfl⟩
  |some p=>
   obtain ⟨k,want⟩:=p;rw [hg] at hc;simp only at hc;split at hc
   ·rename_i t ht
    split at hc
    ·rename_i aB
     simp at hc;subst hc;exact ⟨rfl,h1,hd,t,ht,aB,rfl⟩
    ·simp at hc
   ·simp at hc
 ·simp at hc
theorem jrH {ops:Array Oper} {Q:Exit->Act->World->Prop} (hQ:∀s a w F,RelF B w0 N s a w F->K s->Q .normal a w):∀{l:List Oper} {is:List Ins} {s:St} {a:Act} {w:World} {F:Nat->List Nat},
 jlx P N ops l=some is->RelF B w0 N s a w F->jhV P β is s K->wpList P ops Q l a w
 |[],is,s,a,w,F,hc,h,hr=>by simp [jlx] at hc;subst hc;exact hQ _ _ _ _ h hr
 |o::l,is,s,a,w,F,hc,h,hr=>by
  simp only [jlx] at hc;split at hc
  ·rename_i i r h1 h2
   simp at hc;subst hc;obtain ⟨e1,e2,e3,e4⟩:=jtz h1;simp only [jhV] at hr;unfold wpList;split at hr
   ·rename_i hw
    rw [if_pos (jj4 h e4 hw)];refine .inl (jE2 e2 (g:=i.g) (K:=λs'=>jhV P β r s' K) h e3 (by rw [<-e1];exact hr) _ _ λa' w' ⟨s',F',h3,h4⟩=>jrH hQ h2 h3 h4)
   ·rename_i hw
    rw [if_neg (by rw [jj4 h e4 hw];simp)]
    rw [e1] at hr;exact jrH hQ h2 (h.put (u:=undef) (v:=.c (.v undef)) rfl e3) hr
   ·exact hr.elim
  ·simp at hc
end
section
variable {P:Program} {β:Nat} {s s2:St}
theorem jtn {x:X} (h:∀n,x=.t n->s2.t n=s.t n):s2.ev x=s.ev x:=by
 cases x with
 |t n=>exact h n rfl
 |c v=>rfl
 |f n=>rfl
theorem zy {a:A0} {d:D} (ho:∀g∈a.ids,s2.o g=s.o g) (h:Is s a d):Is s2 a d:=by
 cases a with
 |h g c p x=>simp only [Is] at h⊢;rw [ho g (by simp [A0.ids])];exact h
 |hs g c p x sz lo n=>simp only [Is] at h⊢;rw [ho g (by simp [A0.ids])];exact h
 |_=>exact h
theorem jp9:∀{l:List A0} {ds:List D},(∀a∈l,∀g∈a.ids,s2.o g=s.o g)->IsL s l ds->IsL s2 l ds
 |[],[],_,_=>trivial
 |[],_::_,_,h=>h.elim
 |_::_,[],_,h=>h.elim
 |a::l,d::ds,ho,⟨h1,h2⟩=>⟨zy (ho a (by simp)) h1,jp9 (λb hb=>ho b (by simp [hb])) h2⟩
theorem jfI {g b:Nat}:∀{l:List Cell} {c:Nat} {ds:List D},Ptr.go s g b l c ds->Ptr.go s2 g b l c ds
 |[],_,[],_=>trivial
 |[],_,_::_,h=>h.elim
 |.a _::_,_,[],h=>h.elim
 |.own _ _::_,_,[],h=>h.elim
 |.a x::l,c,d::ds,⟨h1,h2⟩=>⟨h1,jfI h2⟩
 |.own d' η::l,c,d::ds,⟨h1,h2⟩=>⟨h1,jfI h2⟩
theorem jpC {a:A0} {ds:List D} (ho:∀g∈a.ids,s2.o g=s.o g) (h:Ptr s a ds):Ptr s2 a ds:=by
 cases a with
 |bp g c b=>
  obtain ⟨ty,cs,h1,l,h2,h3⟩:=h;exact ⟨ty,cs,by rw [ho g (by simp [A0.ids])];exact h1,l,h2,jfI h3⟩
 |_=>exact h
theorem jmT:∀{l:List A0} {ds:List (List D)},(∀a∈l,∀g∈a.ids,s2.o g=s.o g)->jAx s l ds->jAx s2 l ds
 |[],[],_,_=>trivial
 |[],_::_,_,h=>h.elim
 |_::_,[],_,h=>h.elim
 |a::l,d::ds,ho,⟨h1,h2⟩=>⟨jpC (ho a (by simp)) h1,jmT (λb hb=>ho b (by simp [hb])) h2⟩
theorem jyk {a:AV} {v:View} (ho:s2.o=s.o) (h:jmz s a v):jmz s2 a v:=by
 cases a with
 |c x=>cases v with
  |c d=>exact zy (λg _=>by rw [ho]) h
  |ptr ds=>exact jpC (λg _=>by rw [ho]) h
  |_=>exact h.elim
 |agg l=>cases v with
  |agg ds=>exact jp9 (λ_ _ g _=>by rw [ho]) h
  |_=>exact h.elim
 |fn f l=>cases v with
  |fn f' ds=>exact ⟨h.1,jmT (λ_ _ g _=>by rw [ho]) h.2⟩
  |_=>exact h.elim
 |_=>cases v<;>exact h.elim
theorem ji1:∀{l:List AV} {vs:List View},s2.o=s.o->zZ s l vs->zZ s2 l vs
 |[],[],_,_=>trivial
 |[],_::_,_,h=>h.elim
 |_::_,[],_,h=>h.elim
 |_::_,_::_,ho,⟨h1,h2⟩=>⟨jyk ho h1,ji1 ho h2⟩
theorem jne:∀{ps:List (Nat×Nat×X)} {cs:List A0},(∀x∈ps.map (·.2.2),s2.ev x=s.ev x)->jjw s2 cs ps=jjw s cs ps
 |[],_,_=>rfl
 |(off,size,x)::ps,cs,h=>by
  have h1:s2.ev x=s.ev x:=h x (by simp)
  simp only [jjw,h1];split
  ·split
   ·exact jne λy hy=>h y (by simp at hy⊢;exact .inr hy)
   ·rfl
  ·rfl
theorem jqD:∀{ps:List (Nat×Nat×X)},(∀x∈ps.map (·.2.2),s2.ev x=s.ev x)->jvd s2 ps=jvd s ps
 |[],_=>rfl
 |(off,size,x)::ps,h=>by
  have h1:s2.ev x=s.ev x:=h x (by simp)
  have h2:jvd s2 ps=jvd s ps:=jqD λy hy=>h y (by simp at hy⊢;exact .inr hy)
  simp only [jvd,h1,h2]
theorem jnm:∀{l:List X},(∀x∈l,s2.ev x=s.ev x)->jcF s2 l=jcF s l
 |[],_=>rfl
 |x::l,h=>by
  have h1:s2.ev x=s.ev x:=h x (by simp)
  have h2:jcF s2 l=jcF s l:=jnm λy hy=>h y (by simp [hy])
  simp only [jcF,h1,h2]
theorem ja5 {x:Option X} {d n:Nat} (h:∀y,x=some y->s2.ev y=s.ev y) (hb:jhO s x d n):jhO s2 x d n:=by
 cases x with
 |none=>exact hb
 |some y=>obtain ⟨k,h1⟩:=hb;exact ⟨k,by rw [h y rfl];exact h1⟩
theorem jdu {l:List X} (h:∀x∈l,s2.ev x=s.ev x):l.map s2.ev=l.map s.ev:=List.map_congr_left h
theorem jqi {d:Nat} {rt:RT} {st:jyp} {i:I} {av:AV} {os:List (Nat×Ob)} (hx:∀x∈i.xs,s2.ev x=s.ev x) (ho:∀k∈i.looks s,jta s s2 k) (hn:i.pureB=false->s2.o=s.o) (h:Gen P s d rt st i av os):Gen P s2 d rt st i av os:=by
 cases i with
 |mov x=>simp only [Gen] at h⊢;rw [hx x (by simp [I.xs])];exact h
 |pick c a b=>simp only [Gen] at h⊢;rw [hx c (by simp [I.xs]),hx a (by simp [I.xs]),hx b (by simp [I.xs])];exact h
 |box ty n x=>exact h
 |alloc ty zs=>exact h
 |bld zs ps=>simp only [Gen] at h⊢;rw [jne (s:=s) (s2:=s2) λx bV=>hx x (by simpa [I.xs] using bV)];exact h
 |bsl e size n ks ps=>exact h
 |ld agg n x=>
  simp only [Gen] at h⊢;obtain ⟨l,h1,h2⟩:=h;refine ⟨l,?_,h2⟩;rw [hx x (by simp [I.xs])]
  have fR:∀k∈(s.ev x).looks n,jta s s2 k:=ho;cases hv:s.ev x with
  |c a=>
   rw [hv] at h1 fR;cases a with
   |bp g c b=>
    have h3:jub g c n (s2.o g) (s.o g):=fR (.cs g c n) (by simp [AV.looks,A0.looks])
    obtain ⟨ty,cs,k1,k2,k3⟩:=h1;rw [k1] at h3;cases h4:s2.o g with
    |box b' ty' cs'=>
     rw [h4] at h3;obtain ⟨rfl,rfl,e3,e4⟩:=h3;exact ⟨_,_,h4,by omega,by rw [e4];exact k3⟩
    |none=>rw [h4] at h3;cases h3
    |loose d η=>rw [h4] at h3;cases h3
   |ep g c p k y=>
    have h3:s2.o g=s.o g:=fR (.ob g) (by simp [AV.looks,A0.looks])
    simp only [jaE] at h1⊢;rw [h3];exact h1
   |_=>exact h1
  |_=>rw [hv] at h1;exact h1
 |st n ks a x=>exact h
 |fa off x=>simp only [Gen] at h⊢;rw [hx x (by simp [I.xs])];exact h
 |ia size x i=>
  simp only [Gen] at h⊢;have fR:∀g∈(s.ev x).ids,s2.o g=s.o g:=λg hg=>ho (.ob g) (aQS.2 ⟨g,hg,rfl⟩)
  rw [hx x (by simp [I.xs]),hx i (by simp [I.xs])]
  obtain ⟨k,n,h1,h2,h3,h4⟩:=h;refine ⟨k,n,h1,h2,?_,h4⟩;cases hv:s.ev x with
  |c a=>
   rw [hv] at h3 fR;cases a with
   |h g c p y=>obtain ⟨⟨dd,k1,k2⟩,k3⟩:=h3;exact ⟨⟨dd,zy fR (by exact k1),k2⟩,k3⟩
   |hs g c p y sz lo m=>obtain ⟨⟨dd,k1⟩,k3⟩:=h3;exact ⟨⟨dd,zy fR (by exact k1)⟩,k3⟩
   |_=>exact h3
  |_=>rw [hv] at h3;exact h3
 |sidx x i=>simp only [Gen] at h⊢;rw [hx x (by simp [I.xs]),hx i (by simp [I.xs])];exact h
 |bin op ty x y=>simp only [Gen] at h⊢;rw [hx x (by simp [I.xs]),hx y (by simp [I.xs])];exact h
 |beq neg x y=>simp only [Gen] at h⊢;rw [hx x (by simp [I.xs]),hx y (by simp [I.xs])];exact h
 |un op x=>simp only [Gen] at h⊢;rw [hx x (by simp [I.xs])];exact h
 |cv c e x=>
  simp only [Gen] at h⊢;have fR:∀g∈(s.ev x).ids,s2.o g=s.o g:=λg hg=>ho (.ob g) (aQS.2 ⟨g,hg,rfl⟩)
  rw [hx x (by simp [I.xs])]
  cases c with
  |text=>
   obtain ⟨⟨a,ty,bs,h1,h2,h3⟩,h4⟩:=h;rw [h1] at fR;exact ⟨⟨a,ty,bs,h1,zy fR h2,h3⟩,h4⟩
  |_=>exact h
 |len str x=>
  simp only [Gen] at h⊢;have fR:∀g∈(s.ev x).ids,s2.o g=s.o g:=λg hg=>ho (.ob g) (aQS.2 ⟨g,hg,rfl⟩)
  obtain ⟨n,h1,h2⟩:=h;refine ⟨n,?_,h2⟩;rw [hx x (by simp [I.xs])]
  cases hv:s.ev x with
  |c a=>
   rw [hv] at h1 fR;cases a with
   |h g c p y=>
    cases str with
    |true=>exact h1
    |false=>obtain ⟨dd,k1,k2⟩:=h1;exact ⟨dd,zy fR (by exact k1),k2⟩
   |hs g c p y sz lo m=>
    cases str with
    |true=>exact h1
    |false=>obtain ⟨⟨dd,k1⟩,k2⟩:=h1;exact ⟨⟨dd,zy fR (by exact k1)⟩,k2⟩
   |v u=>cases str<;>cases u<;>first|exact h1|(rename_i a l c;cases a<;>cases l<;>cases c<;>exact h1)
   |_=>cases str<;>exact h1
  |_=>rw [hv] at h1;cases str<;>exact h1
 |app e size bytes x y=>exact h
 |apps e x y=>exact h
 |clr size zs x=>exact h
 |mm mx x y=>simp only [Gen] at h⊢;rw [hx x (by simp [I.xs]),hx y (by simp [I.xs])];exact h
 |mks e size bytes zs l c=>simp only [Gen] at h⊢;rw [hx l (by simp [I.xs]),hx c (by simp [I.xs])];exact h
 |sl size x lo hi=>
  simp only [Gen] at h⊢;have fR:∀g∈(s.ev x).ids,s2.o g=s.o g:=λg hg=>ho (.ob g) (aQS.2 ⟨g,hg,rfl⟩)
  have tK:∀y,lo=some y->s2.ev y=s.ev y:=λy hy=>hx y (by simp [I.xs,hy])
  have o9:∀y,hi=some y->s2.ev y=s.ev y:=λy hy=>hx y (by simp [I.xs,hy])
  rw [hx x (by simp [I.xs])]
  obtain ⟨l,hh,h1,h2,h3,h4⟩:=h;refine ⟨l,hh,ja5 tK h1,h2,?_,h4⟩;cases hv:s.ev x with
  |c a=>
   rw [hv] at h3 fR;cases a with
   |v u=>
    cases u with
    |string b=>exact ⟨h3.1,ja5 o9 h3.2.1,h3.2.2⟩
    |_=>exact h3
   |ro dd=>exact ⟨h3.1,h3.2.1,h3.2.2.1,ja5 o9 h3.2.2.2.1,h3.2.2.2.2⟩
   |h g c p y=>obtain ⟨k0,⟨dd,k1,k2,k3,k4⟩,k5⟩:=h3;exact ⟨k0,⟨dd,zy fR (by exact k1),k2,ja5 o9 k3,k4⟩,k5⟩
   |hs g c p y sz lo m=>obtain ⟨⟨dd,k1⟩,k2,k3,k4⟩:=h3;exact ⟨⟨dd,zy fR (by exact k1)⟩,k2,ja5 o9 k3,k4⟩
   |_=>exact h3
  |_=>rw [hv] at h3;exact h3
 |ext x i=>simp only [Gen] at h⊢;rw [hx x (by simp [I.xs])];exact h
 |fld agg off n x=>simp only [Gen] at h⊢;rw [hx x (by simp [I.xs])];exact h
 |mkf f caps=>simp only [Gen] at h⊢;rw [jnm (s:=s) (s2:=s2) λx bV=>hx x (by simpa [I.xs] using bV)];exact h
 |call f args=>
  simp only [Gen] at h⊢;rw [jdu (s:=s) (s2:=s2) λx bV=>hx x (by simpa [I.xs] using bV)]
  obtain ⟨vs,h1,h2⟩:=h;exact ⟨vs,ji1 (hn rfl) h1,h2⟩
 |callv x args=>
  simp only [Gen] at h⊢;rw [jdu (s:=s) (s2:=s2) (l:=args) λy hy=>hx y (by simp [I.xs,hy]),hx x (by simp [I.xs])]
  obtain ⟨f,caps,vs,h0,h1,h2⟩:=h;exact ⟨f,caps,vs,h0,ji1 (hn rfl) h1,h2⟩
theorem jrG {i:I} (hx:∀x∈i.xs,s2.ev x=s.ev x):i.looks s2=i.looks s:=by
 cases i<;>first|rfl|(simp only [I.looks];rw [hx _ (by simp [I.xs])])
theorem jzW {d d':Nat} {rt rt':RT} {st st':jyp} {i:I} {av:AV} {os:List (Nat×Ob)} (hp:i.pureB=true) (h:Gen P s d rt st i av os):Gen P s d' rt' st' i av []/\os=[]:=by
 cases i<;>first|cases hp|skip
 case mov=>obtain ⟨h1,rfl⟩:=h;exact ⟨⟨h1,rfl⟩,rfl⟩
 case pick=>obtain ⟨t,h1,h2,rfl⟩:=h;exact ⟨⟨t,h1,h2,rfl⟩,rfl⟩
 case bld=>obtain ⟨t,h1,h2,rfl⟩:=h;exact ⟨⟨t,h1,h2,rfl⟩,rfl⟩
 case ld=>obtain ⟨t,h1,h2,rfl⟩:=h;exact ⟨⟨t,h1,h2,rfl⟩,rfl⟩
 case fa=>obtain ⟨h1,rfl⟩:=h;exact ⟨⟨h1,rfl⟩,rfl⟩
 case ia=>obtain ⟨k,n,h1,h2,h3,rfl⟩:=h;exact ⟨⟨k,n,h1,h2,h3,rfl⟩,rfl⟩
 case sidx=>obtain ⟨b,k,n,u,h1,h2,h3,h4,h5,rfl⟩:=h;exact ⟨⟨b,k,n,u,h1,h2,h3,h4,h5,rfl⟩,rfl⟩
 case bin=>obtain ⟨h1,rfl⟩:=h;exact ⟨⟨h1,rfl⟩,rfl⟩
 case beq=>obtain ⟨a,b,h1,h2,h3,rfl⟩:=h;exact ⟨⟨a,b,h1,h2,h3,rfl⟩,rfl⟩
 case un=>obtain ⟨h1,rfl⟩:=h;exact ⟨⟨h1,rfl⟩,rfl⟩
 case cv=>obtain ⟨h1,rfl⟩:=h;exact ⟨⟨h1,rfl⟩,rfl⟩
 case len=>obtain ⟨n,h1,h2,rfl⟩:=h;exact ⟨⟨n,h1,h2,rfl⟩,rfl⟩
 case mm=>obtain ⟨k,k',a,b,h1,h2,h3,rfl⟩:=h;exact ⟨⟨k,k',a,b,h1,h2,h3,rfl⟩,rfl⟩
 case sl=>obtain ⟨l,hh,h1,h2,h3,rfl⟩:=h;exact ⟨⟨l,hh,h1,h2,h3,rfl⟩,rfl⟩
 case ext=>obtain ⟨l,b,az,h1,h2,h3,rfl⟩:=h;exact ⟨⟨l,b,az,h1,h2,h3,rfl⟩,rfl⟩
 case fld=>obtain ⟨l,h1,h2,h3,rfl⟩:=h;exact ⟨⟨l,h1,h2,h3,rfl⟩,rfl⟩
 case mkf=>obtain ⟨l,h1,h2,rfl⟩:=h;exact ⟨⟨l,h1,h2,rfl⟩,rfl⟩
theorem jkL {i:Ins} (hp:i.i.pureB=true) {K:St->Prop}:vp P β i s K=(∃rt,∀st,∃av os,Gen P s (β+i.d.getD 0) rt st i.i av os/\K ((s.addO os).put i.d av)):=by
 obtain ⟨d,g,i⟩:=i;cases i<;>first|rfl|cases hp
theorem Turns.mono {f:FuncId} {args:List AV} {o:Nat->Ob} {R R':RT->(Nat->Ob)->Prop} (h:∀rt o',R rt o'->R' rt o') (ht:Turns P f args o R):Turns P f args o R':=
 ⟨ht.1,λB w F xs h1 h2=>(ht.2 B w F xs h1 h2).mono λe w' ⟨v,rt,o',S,F',k1,k2,k3,k4,k5,k6⟩=>⟨v,rt,o',S,F',k1,k2,k3,k4,k5,h _ _ k6⟩⟩
theorem Inl.mono {f:FuncId} {args:List AV} {o:Nat->Ob} {R R':AV->(Nat->Ob)->Prop} (h:∀av o',R av o'->R' av o') (ht:Inl P f args o R):Inl P f args o R':=
 ⟨ht.1,λB w F xs h1 h2=>(ht.2 B w F xs h1 h2).mono λe w' ⟨v,av,o',F',k1,k2,k3,k4⟩=>⟨v,av,o',F',k1,k2,k3,h _ _ k4⟩⟩
theorem jwa {i:Ins} {d:Option Nat} {v:AV} {K K':St->Prop} (hd:∀k,d=some k->(∀x∈i.i.xs,x≠.t k)/\i.d≠some k) (h:∀s2:St,(∀n,i.d≠some n->s2.t n=s.t n)->K (s2.put d v)->K' s2) (hr:vp P β i (s.put d v) K):vp P β i s K':=by
 obtain ⟨id,ig,i⟩:=i;simp only at hd
 have gA:∀x∈i.xs,(s.put d v).ev x=s.ev x:=λx hx=>by
  cases d with
  |none=>rfl
  |some k=>
   refine jtn λn hn=>?_
   have:=(hd k rfl).1 x hx;show (if n=k then v else s.t n)=s.t n
   rw [if_neg λe=>this (by rw [hn,e])]
 have ho:(s.put d v).o=s.o:=by cases d<;>rfl
 have cP:∀(s1:St) (os:List (Nat×Ob)) (av:AV),s1.t=s.t->K ((((s1.put d v).addO os)).put id av)->K' ((s1.addO os).put id av):=λs1 os av h1 hk=>by
  have e1:∀(os:List (Nat×Ob)) (s1:St),(s1.put d v).addO os=(s1.addO os).put d v:=by
   intro os
   induction os with
   |nil=>intro s1;rfl
   |cons p os ih=>
    intro s1;obtain ⟨g,ob⟩:=p;show ((s1.put d v).setO g ob).addO os=((s1.setO g ob).addO os).put d v;rw [<-ih]
    congr 1
    cases d<;>rfl
  have e2:∀s1:St,(s1.put d v).put id av=(s1.put id av).put d v:=λs1=>by
   cases d with
   |none=>rfl
   |some k=>
    cases id with
    |none=>rfl
    |some j=>
     have aK:j≠k:=λe=>(hd k rfl).2 (by rw [e])
     simp only [St.put,St.mk.injEq,and_true]
     funext n
     by_cases h1:n=j<;>by_cases h2:n=k<;>simp_all
  have e3:∀(os:List (Nat×Ob)) (s1:St),(s1.addO os).t=s1.t:=by
   intro os
   induction os with
   |nil=>intro s1;rfl
   |cons p os ih=>intro s1;obtain ⟨g,ob⟩:=p;show ((s1.setO g ob).addO os).t=_;rw [ih];rfl
  rw [e1,e2] at hk;refine h _ (λn hn=>?_) hk
  cases id with
  |none=>show (s1.addO os).t n=_;rw [e3,h1]
  |some j=>
   show (if n=j then av else (s1.addO os).t n)=_
   rw [if_neg λe=>hn (by rw [e]),e3,h1]
 have uP:∀j:I,(∀x∈j.xs,(s.put d v).ev x=s.ev x)->(∃rt,∀st,∃av os,Gen P (s.put d v) (β+id.getD 0) rt st j av os/\K (((s.put d v).addO os).put id av))->
  ∃rt,∀st,∃av os,Gen P s (β+id.getD 0) rt st j av os/\K' ((s.addO os).put id av):=λj hj ⟨rt,hg⟩=>⟨rt,λst=>by
  obtain ⟨av,os,h1,h2⟩:=hg st;exact ⟨av,os,jqi (λx hx=>(hj x hx).symm) (λg _=>jw7) (λ_=>ho.symm) h1,cP s os av rfl h2⟩⟩
 have iH:∀{l:List A0} {s1:St} {R R':List Cell->St->Prop},s1.t=s.t->(∀cs s2,s2.t=s.t->R cs (s2.put d v)->R' cs s2)->qC (s1.put d v) l R->qC s1 l R':=by
  intro l
  induction l with
  |nil=>intro s1 R R' h1 h2 hk;exact h2 _ _ h1 hk
  |cons x l ih=>
   intro s1 R R' h1 h2 hk;have plain:∀a:A0,qC (s1.put d v) l (λcs s'=>R (.a a::cs) s')->qC s1 l (λcs s'=>R' (.a a::cs) s'):=λa hk=>ih h1 (λcs s2 h3=>h2 _ s2 h3) hk
   cases x with
   |h g c p x=>
    obtain ⟨k1,d0,η,k2,k3,k4⟩:=hk;have iR:(s1.put d v).o=s1.o:=by cases d<;>rfl
    have rQ:(s1.put d v).rm g c=(s1.rm g c).put d v:=by cases d<;>rfl
    rw [iR] at k2;rw [rQ] at k4;exact ⟨k1,d0,η,k2,k3,ih (by exact h1) (λcs s2 h3=>h2 _ s2 h3) k4⟩
   |_=>exact ⟨hk.1,plain _ hk.2⟩
 have tQ:∀{e size:Nat} {a:AV} {s1:St} {R R':List D->St->Prop},s1.t=s.t->(∀cs s2,s2.t=s.t->R cs (s2.put d v)->R' cs s2)->jf4 (s1.put d v) e size a R->jf4 s1 e size a R':=by
  intro e size a s1 R R' h1 h2 hk;unfold jf4 at hk⊢;split
  ·exact h2 _ _ h1 hk
  ·have iR:(s1.put d v).o=s1.o:=by cases d<;>rfl
   rw [iR] at hk;have rQ:∀g c,(s1.put d v).rm g c=(s1.rm g c).put d v:=λg c=>by cases d<;>rfl
   have aJ:∀g ob,(s1.put d v).setO g ob=(s1.setO g ob).put d v:=λg ob=>by cases d<;>rfl
   rcases hk with ⟨k1,cs,η,k2,k3,k4⟩|⟨k,k1,sz,tyo,ds0,cs,η,k2,k3,k4,k5⟩
   ·rw [rQ] at k4
    exact .inl ⟨k1,cs,η,k2,k3,h2 _ _ h1 k4⟩
   ·refine .inr ⟨k,k1,sz,tyo,ds0,cs,η,k2,k3,k4,λaH hη=>?_⟩
    have k6:=k5 aH hη;rw [aJ] at k6;exact h2 _ _ h1 k6
  ·simp_all
 have lT:∀{size:Nat} {a:AV} {s1:St} {R R':List D->St->Prop},s1.t=s.t->(∀cs s2,s2.t=s.t->R cs (s2.put d v)->R' cs s2)->jyq (s1.put d v) size a R->jyq s1 size a R':=by
  intro size a s1 R R' h1 h2 hk;have iR:(s1.put d v).o=s1.o:=by cases d<;>rfl
  unfold jyq at hk⊢;split
  ·exact h2 _ _ h1 hk
  ·obtain ⟨k1,k2,k3,k4⟩:=hk;exact ⟨k1,k2,k3,h2 _ _ h1 k4⟩
  ·obtain ⟨dd,k1,k2,k3,k4⟩:=hk;exact ⟨dd,zy (λg _=>by rw [iR]) k1,k2,k3,h2 _ _ h1 k4⟩
  ·obtain ⟨dd,k1,k2,k3⟩:=hk
   refine ⟨dd,zy (λg _=>by rw [iR]) k1,k2,?_⟩
   have rQ:∀g c,(s1.put d v).rm g c=(s1.rm g c).put d v:=λg c=>by cases d<;>rfl
   split
   ·rw [if_pos (by assumption)] at k3;exact h2 _ _ h1 k3
   ·rw [if_neg (by assumption),rQ] at k3;exact ⟨k3.1,k3.2.1,h2 _ _ (by exact h1) k3.2.2⟩
  ·simp_all
 cases i with
 |box ty n x=>
  obtain ⟨l,h1,h2,h3⟩:=hr;rw [gA x (by simp [I.xs])] at h1
  exact ⟨l,h1,h2,iH rfl (λcs s2 h4 h5 b=>cP s2 _ _ h4 (h5 b)) h3⟩
 |bsl e size n ks ps=>
  obtain ⟨l,h1,h3⟩:=hr;rw [jqD (s:=s) λx hx=>gA x (by simpa [I.xs] using hx)] at h1
  exact ⟨l,h1,iH rfl (λcs s2 h4 ⟨ds,h5,h6⟩=>⟨ds,h5,λη=>cP s2 _ _ h4 (h6 η)⟩) h3⟩
 |st n ks a x=>
  obtain ⟨h0,l,h1,h2,h3⟩:=hr;simp only at h0;subst h0;rw [gA x (by simp [I.xs])] at h1
  rw [gA a (by simp [I.xs])] at h3
  refine ⟨rfl,l,h1,h2,iH rfl (λcs s2 h4 h5=>?_) h3⟩
  have tH:(s2.put d v).o=s2.o:=by cases d<;>rfl
  have fT:∀g ob,K ((s2.put d v).setO g ob)->K' (s2.setO g ob):=λg ob hk=>cP s2 [(g,ob)] (.unk) h4 hk
  split at h5
  ·obtain ⟨ty,ds,k1,k2,k3⟩:=h5
   rw [tH] at k1;exact ⟨ty,ds,k1,k2,fT _ _ k3⟩
  ·obtain ⟨k0,ds,k1,d0,η,dd,k2,k3,k4,k5,k6,k7⟩:=h5
   rw [tH] at k2 k7;exact ⟨k0,ds,k1,d0,η,dd,k2,k3,k4,k5,k6,jsw (λaH hk=>fT _ _ hk) k7⟩
  ·exact h5.elim
 |app e size bytes x y=>
  have bN:=hr;simp only [vp] at bN⊢;rw [gA x (by simp [I.xs]),gA y (by simp [I.xs])] at bN
  exact lT rfl (λys s1 h1 hk=>tQ h1 (λxs s2 h2 ⟨k1,k2,k3⟩=>⟨k1,k2,λη=>cP s2 _ _ h2 (k3 η)⟩) hk) bN
 |apps e x y=>
  obtain ⟨b,h1,h2⟩:=hr;rw [gA y (by simp [I.xs])] at h1
  rw [gA x (by simp [I.xs])] at h2
  exact ⟨b,h1,tQ rfl (λxs s2 h2 ⟨k1,k3⟩=>⟨k1,λη=>cP s2 _ _ h2 (k3 η)⟩) h2⟩
 |clr size zs x=>
  obtain ⟨h0,h3⟩:=hr;simp only at h0;subst h0;rw [gA x (by simp [I.xs])] at h3
  refine ⟨rfl,?_⟩;split at h3
  ·exact cP s [] .unk rfl h3
  ·obtain ⟨k0,k1,d0,η,dd,k2,k3,k4,k5,k6,k7,k8⟩:=h3
   rw [ho] at k2 k8;exact ⟨k0,k1,d0,η,dd,k2,k3,k4,k5,k6,k7,jsw (λaH hk=>cP s [(_,_)] .unk rfl hk) k8⟩
  ·exact h3.elim
 |call f args=>
  rcases hr with hg|ht|ht
  ·exact .inl (uP _ gA hg)
  ·right;left
   rw [jdu (s:=s) λx hx=>gA x (by simpa [I.xs] using hx),ho] at ht
   refine ht.mono λrt o' hR η=>?_
   have:=hR η;exact cP ⟨s.t,o'⟩ _ _ rfl (by cases d<;>exact this)
  ·right;right
   rw [jdu (s:=s) λx hx=>gA x (by simpa [I.xs] using hx),ho] at ht
   refine ht.mono λav o' hR=>?_
   exact cP ⟨s.t,o'⟩ [] av rfl (by cases d<;>exact hR)
 |callv x args=>
  rcases hr with hg|⟨f,caps,h0,ht⟩
  ·exact .inl (uP _ gA hg)
  ·right
   rw [gA x (by simp [I.xs])] at h0
   rw [jdu (s:=s) (l:=args) λy hy=>gA y (by simp [I.xs,hy]),ho] at ht
   refine ⟨f,caps,h0,ht.mono λrt o' hR η=>?_⟩
   have:=hR η;exact cP ⟨s.t,o'⟩ _ _ rfl (by cases d<;>exact this)
 |_=>exact uP _ gA hr
theorem jgh {i:Ins} {K K':St->Prop} (h:∀s,K s->K' s) (hr:vp P β i s K):vp P β i s K':=
 jwa (d:=none) (v:=.unk) (λk hk=>by cases hk) (λs2 _ hk=>h s2 hk) hr
end
inductive Reach (ops:Array Oper):Nat->Nat->Prop where
 |one {j i:Nat} {o:Oper} {e:Edge} (hj:ops[j]?=some o) (he:e∈o.after) (hb:Region.binds .any e=true) (hi:e.on=i):Reach ops j i
 |more {j i:Nat} {o:Oper} {e:Edge} (hj:ops[j]?=some o) (he:e∈o.after) (hb:Region.binds .any e=true) (hi:Reach ops e.on i):Reach ops j i
theorem Reach.trans {ops:Array Oper} {j i k:Nat} (h:Reach ops j i) (h2:Reach ops i k):Reach ops j k:=by
 induction h with
 |one hj he hb hi=>subst hi;exact .more hj he hb h2
 |more hj he hb _ ih=>exact .more hj he hb (ih h2)
theorem jlX {ops:Array Oper} {j0:Nat}:∀{n:Nat} {seen todo:List Nat},(∀x∈seen,Reach ops j0 x)->(∀x∈todo,x=j0\/Reach ops j0 x)->∀x∈jDx ops n seen todo,Reach ops j0 x
 |0,_,_,h,_,x,hx=>h x (by simpa [jDx] using hx)
 |n+1,_,[],h,_,x,hx=>h x (by simpa [jDx] using hx)
 |n+1,seen,j::todo,h,h2,x,hx=>by
  simp only [jDx] at hx;split at hx
  ·rename_i o ho
   have cB:∀y∈(o.after.toList.filter λe=>Region.binds .any e&&!seen.contains e.on).map (·.on),Reach ops j0 y:=by
    intro y hy;obtain ⟨e,he,rfl⟩:=aQS.1 hy;obtain ⟨nF,cA⟩:=aQP.1 he
    have hb:Region.binds .any e=true:=by
     cases hq:Region.binds .any e with
     |true=>rfl
     |false=>rw [hq] at cA;simp at cA
    have h1:Reach ops j e.on:=.one ho (by simpa using nF) hb rfl
    rcases h2 j (by simp) with rfl|h3
    ·exact h1
    ·exact h3.trans h1
   refine jlX (n:=n) ?_ ?_ x hx
   ·intro y hy
    rcases aOX.1 hy with hy|hy
    ·exact cB y hy
    ·exact h y hy
   ·intro y hy
    rcases aOX.1 hy with hy|hy
    ·exact .inr (cB y hy)
    ·exact h2 y (by simp [hy])
  ·exact jlX (n:=n) h (λy hy=>h2 y (by simp [hy])) x hx
theorem jqZ {ops:Array Oper} {n j i:Nat} (h:joZ ops n j i=true):Reach ops j i:=by
 unfold joZ at h;rw [List.contains_iff_mem] at h;exact jlX (by simp) (by simp) i h
def Closed (ops:Array Oper) (listed:Array Bool):Prop:=∀(k:Nat) (o:Oper),ops[k]?=some o->listed.getD k false=true->∀e∈o.after,Region.binds .any e=true->listed.getD e.on false=true
theorem Closed.reach {ops:Array Oper} {listed:Array Bool} (h:Closed ops listed):∀{j i:Nat},Reach ops j i->(∀(o:Oper),ops[j]?=some o->∀e∈o.after,Region.binds .any e=true->listed.getD e.on false=true)->listed.getD i false=true:=by
 intro j i hr
 induction hr with
 |one hj he hb hi=>intro hl;subst hi;exact hl _ hj _ he hb
 |more hj he hb _ ih=>intro hl;exact ih λo ho e' eS a9=>h _ o ho (hl _ hj _ he hb) e' eS a9
theorem Closed.add {ops:Array Oper} {listed:Array Bool} {j:Nat} (h:Closed ops listed) (hj:j∈Region.ready .any ops listed):Closed ops (listed.setIfInBounds j true):=by
 intro k o ho hk e he hb;obtain ⟨_,oj,uK,cV⟩:=mem_ready.1 hj;by_cases hkj:k=j
 ·subst hkj
  rw [ho] at uK;cases uK;exact getD_set_true (cV e he hb)
 ·rw [getD_set_ne false (Ne.symm hkj)] at hk
  exact getD_set_true (h k o ho hk e he hb)
theorem jC2 {listed:Array Bool} {i:Nat} (h:listed.getD i true=false):listed.getD i false=false:=by
 rcases Nat.lt_or_ge i listed.size with h'|h'
 ·simpa [h'] using h
 ·simp [Array.getElem?_eq_none h'] at h
section
variable {P:Program} {β N:Nat} {ops:Array Oper} {is:List Ins} {Q:St->Prop}
def jjy (P:Program) (β:Nat) (is:List Ins) (j:Nat) (K:St->Prop) (s:St):Prop:=match is[j]? with
 |none=>False
 |some i=>match zi s i.g with
  |some true=>vp P β i s K
  |some false=>K (s.put i.d (.c (.v undef)))
  |none=>False
def jCP (ops:Array Oper) (j:Nat) (l:List (Nat×List Lk)) (s s':St):Prop:=∀p∈l,¬Reach ops j p.1->∀k∈p.2,jta s s' k
def jxG (P:Program) (β:Nat) (ops:Array Oper) (is:List Ins) (Q:St->Prop):Nat->List (Nat×List Lk)->Array Bool->St->Prop
 |0,_,listed,s=>Region.ready .any ops listed=[]/\Q s
 |f+1,l,listed,s=>(Region.ready .any ops listed=[]->Q s)/\∀j∈Region.ready .any ops listed,jjy P β is j (λs'=>jCP ops j l s s'/\jxG P β ops is Q f l (listed.setIfInBounds j true) s') s
theorem jng {j:Nat} {K K':St->Prop} {s:St} (h:∀s,K s->K' s) (hs:jjy P β is j K s):jjy P β is j K' s:=by
 unfold jjy at hs⊢;split
 ·simp_all
 ·rename_i i hi
  simp only [hi] at hs;split
  ·rename_i hw;simp only [hw] at hs;exact jgh h hs
  ·rename_i hw;simp only [hw] at hs;exact h _ hs
  ·rename_i hw;simp only [hw] at hs
theorem jlw:∀{l:List Oper} {is:List Ins},jlx P N ops l=some is->is.length=l.length/\∀(j:Nat) (o:Oper),l[j]?=some o->∃i,is[j]?=some i/\jAk P N ops o=some i
 |[],is,h=>by simp [jlx] at h;subst h;simp
 |o::l,is,h=>by
  simp only [jlx] at h;split at h
  ·rename_i i r h1 h2
   simp at h;subst h;obtain ⟨h3,h4⟩:=jlw h2;refine ⟨by simp [h3],λj o' ho=>?_⟩
   cases j with
   |zero=>simp at ho;subst ho;exact ⟨i,rfl,h1⟩
   |succ j=>exact h4 j o' (by simpa using ho)
  ·simp at h
theorem jym {B:Nat} {w0:World} {Q':Exit->Act->World->Prop} (hc:jlx P N ops ops.toList=some is) (hQ:∀s a w F,RelF B w0 N s a w F->Q s->Q' .normal a w):∀(f:Nat) (l:List (Nat×List Lk)) (listed:Array Bool) (s:St) (a:Act) (w:World) (F:Nat->List Nat),
 RelF B w0 N s a w F->jxG P β ops is Q f l listed s->wpAny P .any ops Q' f listed a w
 |0,_,_,s,a,w,F,h,hs=>⟨hs.1,hQ _ _ _ _ h hs.2⟩
 |f+1,l,listed,s,a,w,F,h,hs=>by
  refine ⟨λh0=>hQ _ _ _ _ h (hs.1 h0),λj hj=>?_⟩
  have aJ:=hs.2 j hj;obtain ⟨_,o,ho,_⟩:=mem_ready.1 hj;obtain ⟨i,hi,hci⟩:=(jlw hc).2 j o (by simpa using ho)
  obtain ⟨e1,e2,e3,e4⟩:=jtz hci;unfold jjy at aJ;simp only [hi] at aJ;unfold wpOp;simp only [ho];split at aJ
  ·rename_i hw
   rw [if_pos (jj4 h e4 hw)];refine .inl (jE2 e2 (g:=i.g) (β:=β) (K:=λs'=>jCP ops j l s s'/\jxG P β ops is Q f l (listed.setIfInBounds j true) s') h e3 (by rw [<-e1];exact aJ) _ _ λa' w' ⟨s',F',h3,h4⟩=>jym hc hQ f l _ _ _ _ _ h3 h4.2)
  ·rename_i hw
   rw [if_neg (by rw [jj4 h e4 hw];simp)]
   rw [e1] at aJ;exact jym hc hQ f l _ _ _ _ _ (h.put (u:=undef) (v:=.c (.v undef)) rfl e3) aJ.2
  ·exact aJ.elim
theorem jtM {p:Nat×List Lk}:∀(f:Nat) (l:List (Nat×List Lk)) (listed:Array Bool) (s:St),jxG P β ops is Q f (p::l) listed s->jxG P β ops is Q f l listed s
 |0,_,_,_,h=>h
 |f+1,l,listed,s,h=>⟨h.1,λj hj=>jng (λs' ⟨h1,h2⟩=>⟨λq hq=>h1 q (by simp [hq]),jtM f l _ s' h2⟩) (h.2 j hj)⟩
theorem jyl {i:Nat}:∀(f:Nat) (l:List (Nat×List Lk)) (listed:Array Bool) (s:St),jxG P β ops is Q f l listed s->jxG P β ops is Q f ((i,[])::l) listed s
 |0,_,_,_,h=>h
 |f+1,l,listed,s,h=>⟨h.1,λj hj=>jng (λs' ⟨h1,h2⟩=>⟨λq hq hr g hg=>by
   rcases aPL.1 hq with rfl|hq
   ·simp at hg
   ·exact h1 q hq hr g hg,jyl f l _ s' h2⟩) (h.2 j hj)⟩
def EY (P:Program) (x:Ins) (s:St) (v:AV) (ids:List Lk):Prop:=
 (zi s x.g=some true/\x.i.pureB=true/\ids=x.i.looks s/\∀d rt st,Gen P s d rt st x.i v [])\/(zi s x.g=some false/\v=.c (.v undef)/\ids=[])
theorem EY.run {x:Ins} {s:St} {v:AV} {ids:List Lk} {i:Nat} {K:St->Prop} (rE:is[i]?=some x) (h:EY P x s v ids) (hk:K (s.put x.d v)):jjy P β is i K s:=by
 unfold jjy;simp only [rE];rcases h with ⟨h1,h2,_,h3⟩|⟨h1,rfl,_⟩
 ·simp only [h1]
  rw [jkL h2];exact ⟨.c (.val undef),λst=>⟨v,[],h3 _ _ _,hk⟩⟩
 ·simp only [h1];exact hk
theorem jmA {s s2:St} {g:Option (Nat×Bool)} (h:∀t w,g=some (t,w)->s2.t t=s.t t):zi s2 g=zi s g:=by
 cases g with
 |none=>rfl
 |some p=>obtain ⟨t,w⟩:=p;simp only [zi,h t w rfl]
theorem EY.stable {x:Ins} {s s2:St} {v:AV} {ids:List Lk} (h:EY P x s v ids) (ht:∀n∈x.uses,s2.t n=s.t n) (ho:∀k∈ids,jta s s2 k):EY P x s2 v ids:=by
 have gA:∀y∈x.i.xs,s2.ev y=s.ev y:=λy hy=>jtn λn hn=>ht n (by
  subst hn;exact List.mem_append_left _ (List.mem_filterMap.2 ⟨_,hy,rfl⟩))
 have hw:zi s2 x.g=zi s x.g:=jmA λt w hg=>ht t (by simp [Ins.uses,hg])
 rcases h with ⟨h1,h2,h3,h4⟩|⟨h1,h2,h3⟩
 ·refine .inl ⟨by rw [hw];exact h1,h2,by rw [jrG gA];exact h3,λd rt st=>jqi gA (λg hg=>ho g (by rw [h3];exact hg)) (λhp=>by rw [h2] at hp;cases hp) (h4 d rt st)⟩
 ·exact .inr ⟨by rw [hw];exact h1,h2,h3⟩
theorem jvm {x y:Ins} (h:jnv x y=true):(∀d,x.d=some d->d∉y.uses/\y.d≠some d)/\∀d,y.d=some d->d∉x.uses:=by
 simp only [jnv,aPG] at h;refine ⟨λd hd=>?_,λd hd=>?_⟩
 ·have:=h.1;rw [hd] at this;simpa using this
 ·have:=h.2;rw [hd] at this;simpa using this
theorem jxF {j:Nat} {x y:Ins} {s:St} {v:AV} {K K':St->Prop} (hy:is[j]?=some y) (hap:jnv x y=true) (h:∀s2:St,(∀n∈x.uses,s2.t n=s.t n)->K (s2.put x.d v)->K' s2) (hs:jjy P β is j K (s.put x.d v)):jjy P β is j K' s:=by
 obtain ⟨h1,h2⟩:=jvm hap
 have hw:zi (s.put x.d v) y.g=zi s y.g:=jmA λt w hg=>by
  cases hd:x.d with
  |none=>rfl
  |some d=>
   have aK:t≠d:=λe=>(h1 d hd).1 (by simp [Ins.uses,hg,e])
   show (if t=d then v else s.t t)=_
   rw [if_neg aK]
 unfold jjy at hs⊢;simp only [hy,hw] at hs⊢;split at hs
 ·refine jwa (λk hk=>⟨λz hz e=>(h1 k hk).1 ?_,(h1 k hk).2⟩) (λs2 ht hk=>h s2 (λn hn=>ht n λe=>h2 n e hn) hk) hs
  subst e;exact List.mem_append_left _ (List.mem_filterMap.2 ⟨_,hz,rfl⟩)
 ·refine h _ (λn hn=>?_) ?_
  ·cases hd:y.d with
   |none=>rfl
   |some d=>
    show (if n=d then _ else s.t n)=_
    rw [if_neg λ(e:n=d)=>h2 d hd (e▸hn)]
  ·have e:(s.put x.d v).put y.d (.c (.v undef))=(s.put y.d (.c (.v undef))).put x.d v:=by
    cases hd:x.d with
    |none=>rfl
    |some k=>
     cases fC:y.d with
     |none=>rfl
     |some m=>
      have aK:m≠k:=λe=>(h1 k hd).2 (by rw [fC,e])
      simp only [St.put,St.mk.injEq,and_true]
      funext n
      by_cases h1:n=m<;>by_cases h2:n=k<;>simp_all
   rw [<-e];exact hs
 ·exact hs
theorem jqQ {i:Nat} {x:Ins} {v:AV} {ids:List Lk} (aC:is.length=ops.size) (rE:is[i]?=some x):∀(f:Nat) (l:List (Nat×List Lk)) (listed:Array Bool) (s:St),Closed ops listed->
 (∀(j:Nat) (oj:Oper) (y:Ins),ops[j]?=some oj->is[j]?=some y->j≠i->listed.getD j true=false->(∀e∈oj.after,Region.binds .any e=true->e.on≠i)->jnv x y=true)->
 i∈Region.ready .any ops listed->EY P x s v ids->jxG P β ops is Q f ((i,ids)::l) (listed.setIfInBounds i true) (s.put x.d v)->jxG P β ops is Q (f+1) l listed s:=by
 intro f
 induction f with
 |zero=>
  intro l listed s _ _ hr hy H;refine ⟨λh=>(by rw [h] at hr;cases hr),λj hj=>?_⟩
  by_cases rX:j=i
  ·subst rX
   exact hy.run rE ⟨λp _ _ g _=>jom,H⟩
  ·have:=ready_mono hj rX
   rw [H.1] at this;cases this
 |succ f ih=>
  intro l listed s dN nE hr hy H;refine ⟨λh=>(by rw [h] at hr;cases hr),λj hj=>?_⟩
  by_cases rX:j=i
  ·subst rX
   exact hy.run rE ⟨λp _ _ g _=>jom,jtM _ _ _ _ H⟩
  ·have h1:=H.2 j (ready_mono hj rX)
   obtain ⟨yF,oj,uK,cV⟩:=mem_ready.1 hj;have aDL:=(mem_ready.1 hr).1
   have hnr:¬Reach ops j i:=λhh=>by
    have:=dN.reach hh λo ho e he hb=>by rw [uK] at ho;cases ho;exact cV e he hb
    rw [jC2 aDL] at this;cases this
   have aCY:∀e∈oj.after,Region.binds .any e=true->e.on≠i:=λe he hb dJ=>hnr (.one uK he hb dJ)
   have aDJ:j<is.length:=by rw [aC];exact (Array.getElem?_eq_some_iff.1 uK).1
   obtain ⟨y,hyj⟩:∃y,is[j]?=some y:=⟨is[j],aOV aDJ⟩;refine jxF hyj (nE j oj y uK hyj rX yF aCY) (λs2 ht ⟨k1,k2⟩=>?_) h1
   refine ⟨λp hp hnp g hg=>?_,?_⟩
   ·have:=k1 p (by simp [hp]) hnp g hg
    exact kept_put2.1 this
   ·have fP:EY P x s2 v ids:=hy.stable ht λg hg=>by
     have:=k1 (i,ids) (by simp) hnr g hg
     exact kept_put2.1 this
    refine ih l (listed.setIfInBounds j true) s2 (dN.add hj) (λk ok z hk hz hki hun eA=>?_) (ready_mono hr (Ne.symm rX)) fP ?_
    ·refine nE k ok z hk hz hki ?_ eA
     by_cases oE:j=k
     ·subst oE;exact yF
     ·rw [getD_set_ne true oE] at hun;exact hun
    ·rw [Array.setIfInBounds_comm _ _ rX]
     exact k2
theorem jxo {i:Nat} {x:Ins} {listed:Array Bool} (rE:is[i]?=some x) (h:jC4 ops is listed i=true):x.i.pureB=true/\∀(j:Nat) (oj:Oper) (y:Ins),ops[j]?=some oj->is[j]?=some y->j≠i->listed.getD j true=false->(∀e∈oj.after,Region.binds .any e=true->e.on≠i)->jnv x y=true:=by
 simp only [jC4,rE,aPG,List.all_eq_true,aRZ] at h;refine ⟨h.1,λj oj y hj hy aK hun eA=>?_⟩
 have h1:=h.2 j (Array.getElem?_eq_some_iff.1 hj).1;simp only [hj,hy,Bool.or_eq_true,aQW,aK,false_or,hun,aRG] at h1;rcases h1 with h1|h1
 ·obtain ⟨e,he,hb⟩:=Array.any_eq_true'.1 h1
  simp only [aPG,aQW] at hb;exact absurd hb.2 (eA e he hb.1)
 ·exact h1
theorem jp6 {s s':St}:∀{l:List Lk},jrK s s' l->∀g∈l,jta s s' g
 |[],_,g,hg=>by simp at hg
 |k::l,h,g,hg=>by
  rcases aPL.1 hg with rfl|hg
  ·exact h.1
  ·exact jp6 h.2 g hg
theorem jp5 {s s':St} {chk:List Nat}:∀{l:List (Nat×List Lk)},joo s s' chk l->∀p∈l,p.1∈chk->∀g∈p.2,jta s s' g
 |[],_,p,hp,_=>by simp at hp
 |(q,ids)::l,h,p,hp,hc=>by
  rcases aPL.1 hp with rfl|hp
  ·have:=h.1
   rw [if_pos (by simpa using hc)] at this
   exact jp6 this
  ·exact jp5 h.2 p hp hc
theorem jbF (aC:is.length=ops.size):∀(f:Nat) (pures:List Nat) (listed:Array Bool) (t:T) (l:List (Nat×List Lk)) (s:St),mkT ops is f pures listed=some t->(∀p∈l,p.1∈pures)->Closed ops listed->zD P β t l s Q->jxG P β ops is Q f l listed s
 |0,pures,listed,t,l,s,h,_,_,hr=>by
  simp only [mkT] at h;split at h
  ·rename_i he
   simp at h;subst h;exact ⟨by simpa using he,hr⟩
  ·simp at h
 |f+1,pures,listed,t,l,s,h,hl,dN,hr=>by
  simp only [mkT] at h;split at h
  ·rename_i he
   simp at h;subst h;have eS:Region.ready .any ops listed=[]:=by simpa using he
   exact ⟨λ_=>hr,λj hj=>by rw [eS] at hj;cases hj⟩
  ·rename_i aK
   split at h
   ·rename_i i hfi
    have lC:=List.mem_of_find?_eq_some hfi;have nE:=List.find?_some hfi;split at h
    ·rename_i x t' rE ht
     simp at h;subst h;obtain ⟨hp,fA⟩:=jxo rE nE;simp only [zD] at hr;split at hr
     ·rename_i hw
      rw [jkL hp] at hr;obtain ⟨rt,hg⟩:=hr;obtain ⟨av,os,h1,h2⟩:=hg ⟨0,λ_ _=>undef⟩
      have h3:=λd rt st=>jzW (d':=d) (rt':=rt) (st':=st) hp h1
      obtain rfl:=(h3 0 rt ⟨0,λ_ _=>undef⟩).2
      exact jqQ aC rE f l listed s dN fA lC (.inl ⟨hw,hp,rfl,λd rt st=>(h3 d rt st).1⟩) (jbF aC f _ _ _ _ _ ht (λp mK=>by
       rcases aPL.1 mK with rfl|mK
       ·simp
       ·simp [hl p mK]) (dN.add lC) h2)
     ·rename_i hw
      exact jqQ aC rE f l listed s dN fA lC (.inr ⟨hw,rfl,rfl⟩) (jyl _ _ _ _ (jbF aC f _ _ _ _ _ ht (λp mK=>by simp [hl p mK]) (dN.add lC) hr))
     ·exact hr.elim
    ·simp at h
   ·rename_i hnf
    refine ⟨λh0=>absurd (by simpa using h0) aK,?_⟩
    have key:∀(r:List Nat) (t:T),(∀j∈r,j∈Region.ready .any ops listed)->(r.foldr (λj acc=>match is[j]?,mkT ops is f pures (listed.setIfInBounds j true),acc with
     |some x,some t,some rest=>some (.alt x (pures.filter λp=>!joZ ops ops.size j p) t rest)
     |_,_,_=>none) (some .stop))=some t->zD P β t l s Q->∀j∈r,jjy P β is j (λs'=>jCP ops j l s s'/\jxG P β ops is Q f l (listed.setIfInBounds j true) s') s:=by
     intro r
     induction r with
     |nil=>intro _ _ _ _ j hj;cases hj
     |cons k r ih=>
      intro t bC h hr j hj;simp only [List.foldr_cons] at h;split at h
      ·rename_i x t' rest hx ht xM
       simp at h;subst h;obtain ⟨cK,bZ⟩:=hr;rcases aPL.1 hj with rfl|hj
       ·have hjr:=bC j (by simp)
        unfold jjy;simp only [hx];split at cK
        ·rename_i hw
         simp only [hw];refine jgh (λs' ⟨k1,k2⟩=>⟨λp hp hnp g hg=>?_,jbF aC f _ _ _ _ _ ht hl (dN.add hjr) k2⟩) cK
         refine jp5 k1 p hp (aQP.2 ⟨hl p hp,?_⟩) g hg;cases mG:joZ ops ops.size j p.1 with
         |false=>rfl
         |true=>exact absurd (jqZ mG) hnp
        ·rename_i hw
         simp only [hw];exact ⟨λp _ _ g _=>jom,jbF aC f _ _ _ _ _ ht hl (dN.add hjr) cK⟩
        ·exact cK.elim
       ·exact ih rest (λk hk=>bC k (by simp [hk])) xM bZ j hj
      ·simp at h
    exact key _ t (λj hj=>hj) h hr
theorem jDc {B:Nat} {w0 w:World} {s:St} {a:Act} {F:Nat->List Nat} {id:Nat} {t:T} {Q':Exit->Act->World->Prop} (h:RelF B w0 N s a w F) (hc:jAj P N ops=some t) (hr:zD P β t [] s Q) (hQ:∀s a w F,RelF B w0 N s a w F->Q s->Q' .normal a w):
 (Code.region id ops true).wp P Q' a w:=by
 unfold jAj at hc;split at hc
 ·rename_i hm
  split at hc
  ·rename_i is dN
   have aC:=(jlw dN).1;simp only [aRM] at aC;refine wp_region_any hm (jym dN hQ ops.size [] _ s a _ F (h.world (w':=w.drew) (jxH w)) (jbF aC _ _ _ _ _ _ hc (by simp) (λk o ho hk=>?_) hr))
   exfalso;have aB:=(Array.getElem?_eq_some_iff.1 ho).1;simp [aB] at hk
  ·simp at hc
 ·simp at hc
end
def Ex.to:Ex->Exit
 |.normal=>.normal
 |.exit id=>.exit id
 |.ret=>.ret
section
variable {P:Program} {β B N:Nat} {w w0:World} {s:St} {a:Act} {F:Nat->List Nat}
theorem vq {c:Code} {c0:C} (h:comp P N c=some c0):match c0 with
 |.skip=>c=.skip
 |.reg is=>∃id ops,c=.region id ops false/\jlx P N ops ops.toList=some is
 |.dreg t=>∃id ops,c=.region id ops true/\jAj P N ops=some t
 |.seq a b=>∃x y,c=.seq x y/\comp P N x=some a/\comp P N y=some b
 |.cond x a b=>∃x' y z,c=.cond x' y z/\jQ x'=some x/\comp P N y=some a/\comp P N z=some b
 |.blk id a=>∃x,c=.block id x/\comp P N x=some a
 |.loop a=>∃x,c=.loop x/\comp P N x=some a
 |.exit id=>c=.exit id
 |.ret=>c=.ret
 |.gh _=>False:=by
 cases c with
 |skip=>simp [comp] at h;subst h;rfl
 |region id ops d=>
  cases d with
  |true=>simp only [comp,Option.map_eq_some_iff] at h;obtain ⟨t,h1,rfl⟩:=h;exact ⟨_,_,rfl,h1⟩
  |false=>simp only [comp,Option.map_eq_some_iff] at h;obtain ⟨t,h1,rfl⟩:=h;exact ⟨_,_,rfl,h1⟩
 |seq x y=>
  simp only [comp] at h;split at h
  ·rename_i x' y' h1 h2;simp at h;subst h;exact ⟨_,_,rfl,h1,h2⟩
  ·simp at h
 |cond x y z=>
  simp only [comp] at h;split at h
  ·rename_i x' y' z' h1 h2 h3;simp at h;subst h;exact ⟨_,_,_,rfl,h1,h2,h3⟩
  ·simp at h
 |block id x=>simp only [comp,Option.map_eq_some_iff] at h;obtain ⟨t,h1,rfl⟩:=h;exact ⟨_,rfl,h1⟩
 |loop x=>simp only [comp,Option.map_eq_some_iff] at h;obtain ⟨t,h1,rfl⟩:=h;exact ⟨_,rfl,h1⟩
 |exit id=>simp [comp] at h;subst h;rfl
 |ret=>simp [comp] at h;subst h;rfl
 |_=>simp [comp] at h
theorem jbA:∀{c':C} {c:Code} {s:St} {a:Act} {w:World} {F:Nat->List Nat} {Qc:Ex->St->Prop} {Q:Exit->Act->World->Prop},
 comp P N c=some c'.er->RelF B w0 N s a w F->wpC P β c' Qc s->(∀e s a w F,RelF B w0 N s a w F->Qc e s->Q e.to a w)->c.wp P Q a w
 |.gh x,c,s,a,w,F,Qc,Q,hc,h,hw,hQ=>by
  obtain ⟨s',F',h3,h2⟩:=hw _ _ _ _ _ _ h;exact jbA (c':=x) hc h3 h2 hQ
 |.skip,c,s,a,w,F,Qc,Q,hc,h,hw,hQ=>by
  have e:c=.skip:=vq hc;subst e;exact wp_skip (hQ .normal _ _ _ _ h hw)
 |.dreg t,c,s,a,w,F,Qc,Q,hc,h,hw,hQ=>by
  obtain ⟨id,ops,rfl,h1⟩:=vq hc;exact jDc h h1 hw λs a w F h hk=>hQ .normal _ _ _ _ h hk
 |.reg is,c,s,a,w,F,Qc,Q,hc,h,hw,hQ=>by
  obtain ⟨id,ops,rfl,h1⟩:=vq hc;exact wp_region_list (jrH (λs a w F h hk=>hQ .normal _ _ _ _ h hk) h1 h hw)
 |.seq x' y',c,s,a,w,F,Qc,Q,hc,h,hw,hQ=>by
  obtain ⟨x,y,rfl,h1,h2⟩:=vq hc;refine wp_seq (jbA h1 h hw λe s a w F h hk=>?_)
  cases e with
  |normal=>exact jbA h2 h hk hQ
  |exit id=>exact hQ (.exit id) _ _ _ _ h hk
  |ret=>exact hQ .ret _ _ _ _ h hk
 |.cond x' y' z',c,s,a,w,F,Qc,Q,hc,h,hw,hQ=>by
  obtain ⟨x,y,z,rfl,h1,h2,h3⟩:=vq hc;obtain ⟨t,h4,h5,h6⟩:=hw;exact wp_cond_split (jjx h h1 h4) (λht=>jbA h2 h (h5 ht) hQ) (λht=>jbA h3 h (h6 ht) hQ)
 |.blk id x',c,s,a,w,F,Qc,Q,hc,h,hw,hQ=>by
  obtain ⟨x,rfl,h1⟩:=vq hc;refine wp_block (jbA h1 h hw λe s a w F h hk=>?_)
  cases e with
  |normal=>exact hQ .normal _ _ _ _ h hk
  |exit id'=>
   simp only [Ex.inBlk] at hk;simp only [Ex.to,Exit.inBlock];split
   ·rename_i e;rw [if_pos e] at hk;exact hQ .normal _ _ _ _ h hk
   ·rename_i e;rw [if_neg e] at hk;exact hQ (.exit id') _ _ _ _ h hk
  |ret=>exact hQ .ret _ _ _ _ h hk
 |.loop x',c,s,a,w,F,Qc,Q,hc,h,hw,hQ=>by
  obtain ⟨x,rfl,h1⟩:=vq hc;obtain ⟨ι,mk,J,μ,⟨i0,h2,h4⟩,h3⟩:=hw
  have key:∀(n:Nat) (i:ι) (a:Act) (w:World) (F:Nat->List Nat),RelF B w0 N (mk i) a w F->J i->μ i<n->Code.rounds P x Q n a w:=by
   intro n
   induction n with
   |zero=>intro _ _ _ _ _ _ aB;omega
   |succ n ih=>
    intro i a w F h hJ aB;refine jbA h1 h (h3 i hJ) λe s' a' w' F' h' hk=>?_
    cases e with
    |normal=>
     obtain ⟨i',k1,k2,k3⟩:=hk;obtain ⟨F2,k4,_⟩:=k2 _ _ _ _ _ _ h';exact ih _ _ _ _ k4 k1 (by omega)
    |exit id=>exact hQ (.exit id) _ _ _ _ h' hk
    |ret=>exact hQ .ret _ _ _ _ h' hk
  obtain ⟨F2,h5,_⟩:=h4 _ _ _ _ _ _ h;exact wp_loop_rounds _ (key (μ i0+1) _ _ _ _ h5 h2 (by omega))
 |.exit id,c,s,a,w,F,Qc,Q,hc,h,hw,hQ=>by
  have e:c=.exit id:=vq hc;subst e;exact wp_exit (hQ (.exit id) _ _ _ _ h hw)
 |.ret,c,s,a,w,F,Qc,Q,hc,h,hw,hQ=>by
  have e:c=.ret:=vq hc;subst e;exact wp_ret (hQ .ret _ _ _ _ h hw)
theorem jfM:∀{c':C} {c:Code},comp P N c=some c'->c'.er=c'
 |.skip,_,_|.reg _,_,_|.dreg _,_,_|.exit _,_,_|.ret,_,_=>rfl
 |.seq a b,c,h=>by obtain ⟨x,y,_,h1,h2⟩:=vq h;simp only [C.er,jfM h1,jfM h2]
 |.cond x a b,c,h=>by obtain ⟨_,y,z,_,_,h1,h2⟩:=vq h;simp only [C.er,jfM h1,jfM h2]
 |.blk id a,c,h=>by obtain ⟨x,_,h1⟩:=vq h;simp only [C.er,jfM h1]
 |.loop a,c,h=>by obtain ⟨x,_,h1⟩:=vq h;simp only [C.er,jfM h1]
 |.gh a,c,h=>(vq h).elim
theorem jfL:∀(p:List Nat) (c:C),(C.ghAt p c).er=c.er
 |[],c=>by cases c<;>rfl
 |0::p,.seq a b=>by simp only [C.ghAt,C.er,jfL p a]
 |(k+1)::p,.seq a b=>by simp only [C.ghAt,C.er,jfL p b]
 |0::p,.cond x a b=>by simp only [C.ghAt,C.er,jfL p a]
 |(k+1)::p,.cond x a b=>by simp only [C.ghAt,C.er,jfL p b]
 |k::p,.blk id a=>by simp only [C.ghAt,C.er,jfL p a]
 |k::p,.loop a=>by simp only [C.ghAt,C.er,jfL p a]
 |k::_,.skip=>by cases k<;>rfl
 |k::_,.reg _=>by cases k<;>rfl
 |k::_,.dreg _=>by cases k<;>rfl
 |k::_,.exit _=>by cases k<;>rfl
 |k::_,.ret=>by cases k<;>rfl
 |k::_,.gh _=>by cases k<;>rfl
def C.ghs (ps:List (List Nat)) (c:C):C:=ps.foldr C.ghAt c
theorem jFH (ps:List (List Nat)) (c:C):(C.ghs ps c).er=c.er:=by
 induction ps with
 |nil=>rfl
 |cons p ps ih=>rw [show C.ghs (p::ps) c=C.ghAt p (C.ghs ps c) from rfl,jfL,ih]
theorem joG {c:Code} {c':C} (ps:List (List Nat)) (h:comp P N c=some c'):comp P N c=some (C.ghs ps c').er:=by rw [jFH,jfM h];exact h
theorem jtC {ds:List D} {x:Value} (h:ViewRel.CellsAt w ds x):A0Rel w.heap.size w (.rp ds) x:=by
 obtain ⟨b,o,us,S,h1,h2,h3⟩:=h;refine ⟨b,o,us,S,h1,h2,RepL.lt ds h2,λaK=>?_,h3⟩
 have hl:=RepL.length ds h2;cases us with
 |nil=>exact absurd (aPS (by simpa using hl.symm)) aK
 |cons u us=>
  have:=h3 0 u rfl;unfold World.cell? at this;split at this
  ·rename_i hh;exact jbT hh
  all_goals simp at this
theorem jx1:∀{caps:List (List D)} {xs:List Value},ViewRel.All2 w caps xs->A0RelL w.heap.size w (caps.map .rp) xs
 |[],_,h=>h
 |_::_,_,⟨x,xs',h1,h2,h3⟩=>⟨x,xs',h1,jtC h2,jx1 h3⟩
theorem jEy {d:D} {u:Value} {S:List Nat} (h:Rep w false d u S):A0Rel w.heap.size w d.toRo u:=by
 cases d with
 |val x=>exact h.1
 |sl size ty cs=>exact ⟨rfl,S,h,Rep.lt _ h⟩
theorem jAR:∀{ds:List D} {us:List Value} {S:List Nat},RepL w false ds us S->A0RelL w.heap.size w (ds.map D.toRo) us
 |[],_,_,⟨h,_⟩=>h
 |_::_,_,_,⟨u,us',S1,S2,h1,_,h3,h4⟩=>⟨u,us',h1,jEy h3,jAR h4⟩
theorem jBD:∀{v:View} {x:Value},ViewRel w v x->VRel w.heap.size w v.av x
 |.c d,x,⟨S,h⟩=>jEy h
 |.agg ds,x,⟨S,us,h1,h2⟩=>⟨us,h1,jAR h2⟩
 |.ptr ds,x,h=>jtC h
 |.fn f caps,x,⟨xs,h1,h2⟩=>⟨xs,h1,jx1 h2⟩
theorem jo1:∀{vs:List View} {xs:List Value},jag w vs xs->xs.length=vs.length/\∀(n:Nat) (v:View) (x:Value),vs[n]?=some v->xs[n]?=some x->ViewRel w v x
 |[],_,h=>by rw [show _=_ from h];simp
 |v::vs,_,⟨x,xs',h1,h2,h3⟩=>by
  subst h1;obtain ⟨h4,h5⟩:=jo1 h3;refine ⟨by simp [h4],λn v' x' hv hx=>?_⟩
  cases n with
  |zero=>simp at hv hx;subst hv hx;exact h2
  |succ n=>exact h5 n v' x' (by simpa using hv) (by simpa using hx)
theorem jvR {vs:List View} {xs:List Value} (hv:jag w vs xs) (hN:vs.length<=N):
 RelF w.heap.size w N (St.init vs) {tmps:=xs.toArray++Array.replicate (N-xs.toArray.size) undef,defers:=[]} w (λ_=>[]):=by
 obtain ⟨hl,hg⟩:=jo1 hv;refine ⟨Below.refl _ _,aPD _,rfl,by simp;omega,λn=>?_,λ_=>rfl,λ_=>Fresh.nil _,λ_ _ _ _ h=>by simp at h⟩
 simp only [St.init];cases lP:vs[n]? with
 |none=>simp [lP,VRel]
 |some v=>
  have aB:n<vs.length:=(aOS.1 lP).1;have yA:n<xs.length:=by omega
  have xB:xs[n]?=some xs[n]:=aOV yA;have:=jBD (hg n v _ lP xB)
  have e:(xs.toArray++Array.replicate (N-xs.toArray.size) undef).getD n undef=xs[n]:=by
   simp [Array.getD_eq_getD_getElem?,Array.getElem?_append,yA]
  simp only [aRQ,lP,Option.map_some,aPA];rw [e];exact this
theorem jop:∀{cs:List Cell} {us:List Value} {S:List Nat} {ds:List D},CRel B w cs us S->IsD cs ds->RepL w true ds us S
 |[],us,S,ds,h,hd=>by rw [show ds=[] from hd];exact h
 |.a x::cs,us,S,ds,⟨u,us',h1,h2,h3⟩,hd=>by
  cases x with
  |v x=>
   cases ds with
   |nil=>exact hd.elim
   |cons d ds=>
    obtain ⟨h4,h5⟩:=hd;subst h1;have h6:=jop h3 h5;rw [show u=x from h2]
    rcases h4 with rfl|⟨rfl,size,ty,rfl⟩
    ·exact RepL.val_ h6
    ·exact RepL.cons_ (S1:=[]) (Rep.nil_ w size ty) h6
  |_=>cases ds<;>exact hd.elim
 |.own d η::cs,us,S,ds,⟨u,us',S1,S2,h1,h2,_,h4,_,h6⟩,hd=>by
  cases ds with
  |nil=>exact hd.elim
  |cons d' ds=>
   obtain ⟨rfl,h5⟩:=hd;subst h1 h2;exact RepL.cons_ h4 (jop h6 h5)
def jsg:List (Bool×List A0)->List Value->List Value->Prop
 |[],vals,us=>vals=[]/\us=[]
 |(b,az)::ps,vals,us=>∃v vals' xs us',vals=v::vals'/\us=xs++us'/\xs.length=az.length/\(if b then v=.agg xs.toArray else xs=[v])/\jsg ps vals' us'
def jmY (tmps:Array Value):ResultVar->Sem Value
 |.tmp t=>pure (tmps.getD t undef)
 |.cell x t=>do loadVar t (<-asAddr (tmps.getD x undef))
theorem jh5 (fn:Func) (tmps:Array Value):results fn tmps=(do let vs<-fn.results.mapM (jmY tmps);pure (if h:vs.size=1 then vs[0] else .tuple vs)):=by
 unfold results
 congr 1
theorem A0RelL.app:∀{l m:List A0} {us vs:List Value},A0RelL B w l us->A0RelL B w m vs->A0RelL B w (l++m) (us++vs)
 |[],_,_,_,h1,h2=>by rw [show _=_ from h1];exact h2
 |_::_,_,_,_,⟨u,us',h1,h2,h3⟩,h4=>by subst h1;exact ⟨u,_,rfl,h2,h3.app h4⟩
theorem jh6 (h:RelF B w0 N s a w F):∀{rs:List ResultVar} {rs':List R} {K:List (Bool×List A0)->Prop},jlv P N rs=some rs'->jjs s rs' K->
 ∃ps vals us,K ps/\A0RelL B w (ps.flatMap (·.2)) us/\jsg ps vals us/\(rs.mapM (jmY a.tmps)).run P w=.ok vals w
 |[],rs',K,hc,hk=>by
  simp [jlv] at hc;subst hc;exact ⟨[],[],[],hk,rfl,⟨rfl,rfl⟩,by simp⟩
 |.tmp n::rs,rs',K,hc,hk=>by
  simp only [jlv] at hc;split at hc
  ·simp only [Option.map_eq_some_iff] at hc
   obtain ⟨r,h1,rfl⟩:=hc;simp only [jjs] at hk;have hv:=h.sl n;split at hk
   ·rename_i l he
    rw [he] at hv;obtain ⟨xs,k1,k2⟩:=hv;obtain ⟨ps,vals,us,k3,k4,k5,k6⟩:=jh6 h h1 hk;refine ⟨_,.agg xs.toArray::vals,xs++us,k3,A0RelL.app k2 k4,⟨_,_,xs,us,rfl,rfl,k2.len,by simp,k5⟩,?_⟩
    simp [List.mapM_cons,jmY,k1,k6]
   ·rename_i a0 he
    rw [he] at hv;obtain ⟨ps,vals,us,k3,k4,k5,k6⟩:=jh6 h h1 hk;refine ⟨_,a.tmps.getD n undef::vals,_::us,k3,⟨_,us,rfl,hv,k4⟩,⟨_,_,[_],us,rfl,rfl,rfl,by simp,k5⟩,?_⟩
    simp [List.mapM_cons,jmY,k6]
   ·exact hk.elim
  ·simp at hc
 |.cell n t::rs,rs',K,hc,hk=>by
  simp only [jlv] at hc
  have key:∀{dsc:TypeDesc} {agg:Bool} {k:Nat} {r:List R},P.underlying t=some dsc->agg=jDE dsc->qj P t=some k->jlv P N rs=some r->jjs s (.cell n agg k::r) K->
   ∃ps vals us,K ps/\A0RelL B w (ps.flatMap (·.2)) us/\jsg ps vals us/\((ResultVar.cell n t::rs).mapM (jmY a.tmps)).run P w=.ok vals w:=by
   intro dsc agg k r ht g9 hn hr hk;obtain ⟨l,h1,h2,h3⟩:=hk;obtain ⟨b,o,xs,e1,e2,e3,e4,e5⟩:=js6 h (h.sl n) h1;obtain ⟨ps,vals,us,k3,k4,k5,k6⟩:=jh6 h hr h3
   obtain ⟨v,hv⟩:∃v,if agg then v=.agg xs.toArray else xs=[v]:=by
    cases agg with
    |true=>exact ⟨_,rfl⟩
    |false=>
     have h4:l.length=1:=by simpa using h2
     have:xs.length=1:=by omega
     obtain ⟨v,rfl⟩:=List.length_eq_one_iff.1 this;exact ⟨v,by simp⟩
   have aW:=jok (P:=P) ht g9 hn e2 e4 hv;refine ⟨_,v::vals,xs++us,k3,A0RelL.app e5 k4,⟨_,_,xs,us,rfl,rfl,by omega,hv,k5⟩,?_⟩
   simp [List.mapM_cons,jmY,e1,asAddr,aW,k6]
  split at hc
  ·split at hc
   ·rename_i fs k r h1 h2 h3
    simp at hc;subst hc;exact key h1 rfl h2 h3 hk
   ·simp at hc
   ·rename_i dsc k r eB rW h1 h2 h3
    simp at hc;subst hc;refine key h1 ?_ h2 h3 hk;cases dsc<;>simp_all [jDE]
   ·simp at hc
  ·simp at hc
theorem jkC:∀{l:List (Bool×List D)} {ps:List (Bool×List A0)} {vals us:List Value} {S:List Nat},jsg ps vals us->ps.map (λp=>(p.1,p.2.length))=l.map (λp=>(p.1,p.2.length))->RepL w true (l.flatMap (·.2)) us S->jtQ w l vals S
 |[],ps,vals,us,S,h,he,hr=>by
  cases ps with
  |nil=>obtain ⟨rfl,rfl⟩:=h;exact ⟨rfl,hr.2⟩
  |cons p ps=>simp at he
 |(b,ds)::l,ps,vals,us,S,h,he,hr=>by
  cases ps with
  |nil=>simp at he
  |cons p ps=>
   obtain ⟨b',az⟩:=p;simp at he;obtain ⟨⟨rfl,e1⟩,e2⟩:=he;obtain ⟨v,vals',xs,us',rfl,rfl,h3,h4,h5⟩:=h;simp only [aPQ] at hr;obtain ⟨v1,v2,S1,S2,e3,rfl,h6,h7⟩:=RepL.append_inv _ hr;have hl:=RepL.length _ h6;obtain ⟨rfl,rfl⟩:=List.append_inj e3 (by omega)
   exact ⟨v,vals',xs,S1,S2,rfl,rfl,h6,h4,jkC h5 e2 h7⟩
theorem jxB (h:RelF B w0 N s a w F) {fn:Func} {rs:List R} {rt:RT} (hc:jlv P N fn.results.toList=some rs) (hq:jvs rs rt s):
 ∃v S,(results fn a.tmps).run P w=.ok v w/\jl0 w rt v S/\Fresh B S:=by
 obtain ⟨ps,vals,us,⟨h1,h2⟩,h3,h4,h5⟩:=jh6 h hc hq;obtain ⟨cs,s',S,F',k1,k2,k3,k4,_⟩:=jcd h h3 h2;have hr:=jop k2 k1
 have aW:(results fn a.tmps).run P w=.ok (if hs:vals.toArray.size=1 then vals.toArray[0] else .tuple vals.toArray) w:=by
  rw [jh5,Array.mapM_eq_mapM_toList];simp [h5]
 cases rt with
 |c d=>
  obtain ⟨a0,rfl⟩:=h1;obtain ⟨v,vals',xs,us',rfl,rfl,e1,e2,⟨rfl,rfl⟩⟩:=h4;simp at e2;subst e2;obtain ⟨u,us'',S1,S2,e3,rfl,e5,⟨rfl,rfl⟩⟩:=hr;simp at e3;subst e3;exact ⟨v,S1++[],by simpa using aW,(by simpa using e5:Rep w true d v (S1++[])),k4⟩
 |agg ds=>
  obtain ⟨l,rfl⟩:=h1;obtain ⟨v,vals',xs,us',rfl,rfl,e1,e2,⟨rfl,rfl⟩⟩:=h4;simp at e2;subst e2;exact ⟨_,S,by simpa using aW,⟨xs,rfl,by simpa [RT.flat] using hr⟩,k4⟩
 |tup l=>
  obtain ⟨aK,h1⟩:=h1
  have aC:vals.length=ps.length:=by
   have:∀{ps:List (Bool×List A0)} {vals us:List Value},jsg ps vals us->vals.length=ps.length:=by
    intro ps
    induction ps with
    |nil=>intro vals us h;rw [h.1];rfl
    |cons p ps ih=>obtain ⟨b,az⟩:=p;rintro vals us ⟨v,vals',xs,us',rfl,_,_,_,h⟩;simp [ih h]
   exact this h4
  refine ⟨_,S,aW,⟨vals,?_,jkC h4 h1 hr⟩,k4⟩;rw [dif_neg (by simpa [aC] using aK)]
theorem jCt {f:FuncId} {fn:Func} {c:Code} {c':C} {vs:List View} {rs:List R} {rt:RT} (hf:P.funcs[f]?=some fn) (hb:fn.body=some c) (hn:(fn.name != "runtime.NumGoroutine")=true)
 (hc:comp P fn.ntmps c=some c'.er) (hr:jlv P fn.ntmps fn.results.toList=some rs) (hN:vs.length<=fn.ntmps) (hw:wpC P 0 c' (jzf rs rt) (St.init vs)):jZ P f vs rt:=by
 refine ⟨⟨fn,hf,by rw [hb];rfl,hn⟩,λw xs hv=>calls_of_wp hf hb (jbA hc (jvR hv hN) hw λe s a w' F h hk=>?_)⟩
 cases e with
 |exit id=>exact hk.elim
 |normal=>
  obtain ⟨v,S,k1,k2,k3⟩:=jxB h hr hk;exact ⟨h.df,v,k1,v,S,rfl,k2,k3,h.below⟩
 |ret=>
  obtain ⟨v,S,k1,k2,k3⟩:=jxB h hr hk;exact ⟨h.df,v,k1,v,S,rfl,k2,k3,h.below⟩
theorem vx (ps:List (List Nat)) {f:FuncId} {fn:Func} {c:C} {vs:List View} {rs:List R} {rt:RT} (hf:P.funcs[f]?=some fn) (hc:fnC P fn=some (c,rs,N)) (hN:vs.length<=N) (hw:wpC P 0 (C.ghs ps c) (jzf rs rt) (St.init vs)):jZ P f vs rt:=by
 unfold fnC at hc;split at hc
 ·rename_i b hb
  split at hc
  ·rename_i hn
   split at hc
   ·rename_i c' rs' h1 h2
    simp only [Option.some.injEq,Prod.mk.injEq] at hc;obtain ⟨rfl,rfl,rfl⟩:=hc;exact jCt hf hb hn (joG ps h1) h2 hN hw
   ·simp at hc
  ·simp at hc
 ·simp at hc
theorem jfH {f:FuncId} {fn:Func} {c:C} {vs:List View} {rs:List R} {rt:RT} (hf:P.funcs[f]?=some fn) (hc:fnC P fn=some (c,rs,N)) (hN:vs.length<=N) (hw:wpC P 0 c (jzf rs rt) (St.init vs)):jZ P f vs rt:=vx [] hf hc hN hw
theorem jsj:∀{args:List AV} {xs:List Value},jlZ B w args xs->xs.length=args.length/\∀(n:Nat) (v:AV) (x:Value),args[n]?=some v->xs[n]?=some x->VRel B w v x
 |[],_,h=>by rw [show _=_ from h];simp
 |v::vs,_,⟨x,xs',h1,h2,h3⟩=>by
  subst h1;obtain ⟨h4,h5⟩:=jsj h3;refine ⟨by simp [h4],λn v' x' hv hx=>?_⟩
  cases n with
  |zero=>simp at hv hx;subst hv hx;exact h2
  |succ n=>exact h5 n v' x' (by simpa using hv) (by simpa using hx)
theorem jmF {args:List AV} {xs:List Value} {o:Nat->Ob} (h:RelF B w 0 (.only o) Act.bare w F) (hv:jlZ B w args xs) (hN:args.length<=N):
 RelF B w N (St.start args o) {tmps:=xs.toArray++Array.replicate (N-xs.toArray.size) undef,defers:=[]} w F:=by
 obtain ⟨hl,hg⟩:=jsj hv;refine ⟨Below.refl _ _,h.hB,rfl,by simp;omega,λn=>?_,h.ob,h.fr,h.dj⟩
 simp only [St.start];cases lP:args[n]? with
 |none=>simp [VRel]
 |some v=>
  have aB:n<args.length:=(aOS.1 lP).1;have yA:n<xs.length:=by omega
  have xB:xs[n]?=some xs[n]:=aOV yA;have:=hg n v _ lP xB
  have e:(xs.toArray++Array.replicate (N-xs.toArray.size) undef).getD n undef=xs[n]:=by
   simp [Array.getD_eq_getD_getElem?,Array.getElem?_append,yA]
  simp only [aPA];rw [e];exact this
theorem jtq (h:RelF B w0 N s a w F) {fn:Func} {rs:List R} {R:RT->(Nat->Ob)->Prop} (hc:jlv P N fn.results.toList=some rs) (hq:RetT rs R s):
 ∃v rt o' S,∃F':Nat->List Nat,(results fn a.tmps).run P w=.ok v w/\jl0 w rt v S/\Fresh B S/\(∀g,∀b∈S,b∉F' g)/\(∀g,ORel B w (o' g) (F' g))/\(∀g,Fresh B (F' g))/\(∀g g',g≠g'->∀b∈F' g,b∉F' g')/\R rt o':=by
 obtain ⟨ps,vals,us,⟨rt,h1,h2⟩,h3,h4,h5⟩:=jh6 h hc hq;obtain ⟨cs,s',S,F',⟨k1,kR⟩,k2,k3,k4,k6,_⟩:=jcd h h3 h2;have hr:=jop k2 k1
 have aW:(results fn a.tmps).run P w=.ok (if hs:vals.toArray.size=1 then vals.toArray[0] else .tuple vals.toArray) w:=by
  rw [jh5,Array.mapM_eq_mapM_toList];simp [h5]
 have fin:∀v S,(results fn a.tmps).run P w=.ok v w->jl0 w rt v S->Fresh B S->(∀g,∀b∈S,b∉F' g)->∃v rt o' S,∃F':Nat->List Nat,(results fn a.tmps).run P w=.ok v w/\jl0 w rt v S/\Fresh B S/\(∀g,∀b∈S,b∉F' g)/\(∀g,ORel B w (o' g) (F' g))/\(∀g,Fresh B (F' g))/\(∀g g',g≠g'->∀b∈F' g,b∉F' g')/\R rt o':=
  λv S m1 m2 m3 m4=>⟨v,rt,s'.o,S,F',m1,m2,m3,m4,k3.ob,k3.fr,k3.dj,kR⟩
 cases rt with
 |c d=>
  obtain ⟨a0,rfl⟩:=h1;obtain ⟨v,vals',xs,us',rfl,rfl,e1,e2,⟨rfl,rfl⟩⟩:=h4;simp at e2;subst e2;obtain ⟨u,us'',S1,S2,e3,rfl,e5,⟨rfl,rfl⟩⟩:=hr;simp at e3;subst e3;exact fin v (S1++[]) (by simpa using aW) (by simpa using e5:Rep w true d v (S1++[])) k4 k6
 |agg ds=>
  obtain ⟨l,rfl⟩:=h1;obtain ⟨v,vals',xs,us',rfl,rfl,e1,e2,⟨rfl,rfl⟩⟩:=h4;simp at e2;subst e2;exact fin _ S (by simpa using aW) ⟨xs,rfl,by simpa [RT.flat] using hr⟩ k4 k6
 |tup l=>
  obtain ⟨aK,h1⟩:=h1
  have aC:vals.length=ps.length:=by
   have:∀{ps:List (Bool×List A0)} {vals us:List Value},jsg ps vals us->vals.length=ps.length:=by
    intro ps
    induction ps with
    |nil=>intro vals us h;rw [h.1];rfl
    |cons p ps ih=>obtain ⟨b,az⟩:=p;rintro vals us ⟨v,vals',xs,us',rfl,_,_,_,h⟩;simp [ih h]
   exact this h4
  exact fin _ S aW ⟨vals,by rw [dif_neg (by simpa [aC] using aK)],jkC h4 h1 hr⟩ k4 k6
theorem jyJ (ps:List (List Nat)) {f:FuncId} {fn:Func} {c:C} {args:List AV} {o:Nat->Ob} {rs:List R} {R:RT->(Nat->Ob)->Prop} (hf:P.funcs[f]?=some fn) (hc:fnC P fn=some (c,rs,N)) (hN:args.length<=N) (hw:wpC P β (C.ghs ps c) (jDQ rs R) (St.start args o)):Turns P f args o R:=by
 unfold fnC at hc;split at hc
 ·rename_i b hb
  split at hc
  ·rename_i hn
   split at hc
   ·rename_i c' rs' h1 h2
    simp only [Option.some.injEq,Prod.mk.injEq] at hc;obtain ⟨rfl,rfl,rfl⟩:=hc;refine ⟨⟨fn,hf,by rw [hb];rfl,hn⟩,λB w F xs hF hv=>calls_of_wp hf hb (jbA (joG ps h1) (jmF hF hv hN) hw λe s a w' F' h hk=>?_)⟩
    cases e with
    |exit id=>exact hk.elim
    |normal=>
     obtain ⟨v,rt,o',S,F2,k1,k2,k3,k4,k5,k6,k7,k8⟩:=jtq h h2 hk;exact ⟨h.df,v,k1,v,rt,o',S,F2,rfl,⟨h.below,h.hB,rfl,rfl,λ_=>trivial,k5,k6,k7⟩,k2,k3,k4,k8⟩
    |ret=>
     obtain ⟨v,rt,o',S,F2,k1,k2,k3,k4,k5,k6,k7,k8⟩:=jtq h h2 hk;exact ⟨h.df,v,k1,v,rt,o',S,F2,rfl,⟨h.below,h.hB,rfl,rfl,λ_=>trivial,k5,k6,k7⟩,k2,k3,k4,k8⟩
   ·simp at hc
  ·simp at hc
 ·simp at hc
theorem jj5 {f:FuncId} {fn:Func} {c:C} {args:List AV} {o:Nat->Ob} {rs:List R} {R:RT->(Nat->Ob)->Prop} (hf:P.funcs[f]?=some fn) (hc:fnC P fn=some (c,rs,N)) (hN:args.length<=N) (hw:wpC P β c (jDQ rs R) (St.start args o)):Turns P f args o R:=jyJ [] hf hc hN hw
theorem jAJ:∀{ps:List (Bool×List A0)} {vals us:List Value},jsg ps vals us->A0RelL B w (ps.flatMap (·.2)) us->TRelL B w ps vals
 |[],vals,us,⟨h1,_⟩,_=>h1
 |(b,az)::ps,vals,us,⟨v,vals',xs,us',h1,h2,h3,h4,h5⟩,hr=>by
  subst h1 h2;simp only [aPQ] at hr
  have key:∀{l m:List A0} {xs ys:List Value},xs.length=l.length->A0RelL B w (l++m) (xs++ys)->A0RelL B w l xs/\A0RelL B w m ys:=by
   intro l
   induction l with
   |nil=>intro m xs ys hl h;obtain rfl:xs=[]:=aPS hl;exact ⟨rfl,h⟩
   |cons x l ih=>
    intro m xs ys hl h;cases xs with
    |nil=>simp at hl
    |cons y xs=>
     obtain ⟨u,us',e1,e2,e3⟩:=h;simp only [aRE,List.cons.injEq] at e1;obtain ⟨rfl,rfl⟩:=e1;obtain ⟨k1,k2⟩:=ih (by simpa using hl) e3
     exact ⟨⟨y,xs,rfl,e2,k1⟩,k2⟩
  obtain ⟨k1,k2⟩:=key h3 hr;exact ⟨v,vals',xs,rfl,k1,h4,jAJ h5 k2⟩
theorem jle (ps:List (List Nat)) {f:FuncId} {fn:Func} {c:C} {args:List AV} {o:Nat->Ob} {rs:List R} {R:AV->(Nat->Ob)->Prop} (hf:P.funcs[f]?=some fn) (hc:fnC P fn=some (c,rs,N)) (hN:args.length<=N) (hw:wpC P β (C.ghs ps c) (jGg rs R) (St.start args o)):Inl P f args o R:=by
 unfold fnC at hc;split at hc
 ·rename_i b hb
  split at hc
  ·rename_i hn
   split at hc
   ·rename_i c' rs' h1 h2
    simp only [Option.some.injEq,Prod.mk.injEq] at hc;obtain ⟨rfl,rfl,rfl⟩:=hc
    have fin:∀{s:St} {a:Act} {w w':World} {F':Nat->List Nat} {B:Nat},RelF B w fn.ntmps s a w' F'->jvt rs' R s->∃v,(results fn a.tmps).run P w'=.ok v w'/\∃av o',∃F2:Nat->List Nat,RelF B w 0 (.only o') Act.bare w' F2/\VRel B w' av v/\R av o':=λ{s a w w' F' B} h hk=>by
     obtain ⟨ps,vals,us,k1,k2,k3,k4⟩:=jh6 h h2 hk
     have aW:(results fn a.tmps).run P w'=.ok (if hs:vals.toArray.size=1 then vals.toArray[0] else .tuple vals.toArray) w':=by
      rw [jh5,Array.mapM_eq_mapM_toList];simp [k4]
     have bT:RelF B w 0 (.only s.o) Act.bare w' F':=⟨h.below,h.hB,rfl,rfl,λ_=>trivial,h.ob,h.fr,h.dj⟩
     have gR:=jAJ k3 k2
     match ps,k1,gR with
     |[],k1,gR=>
      obtain rfl:vals=[]:=gR;exact ⟨_,aW,.tup [],s.o,F',bT,⟨[],by simp,rfl⟩,k1⟩
     |[(true,l)],k1,⟨v,vals',xs,e1,e2,e3,e4⟩=>
      obtain rfl:vals'=[]:=e4;subst e1;exact ⟨v,by simpa using aW,.agg l,s.o,F',bT,⟨xs,by simpa using e3,e2⟩,k1⟩
     |[(false,[a0])],k1,⟨v,vals',xs,e1,e2,e3,e4⟩=>
      obtain rfl:vals'=[]:=e4;subst e1;obtain rfl:xs=[v]:=by simpa using e3
      obtain ⟨u,us',e5,e6,_⟩:=e2;cases e5;exact ⟨v,by simpa using aW,.c a0,s.o,F',bT,e6,k1⟩
     |p::q::r,k1,gR=>
      have hl:vals.length≠1:=by
       obtain ⟨_,vals',_,e1,_,_,e4⟩:=gR;obtain ⟨_,vals'',_,e5,_,_,_⟩:=e4;subst e1 e5;simp
      have k1':R (.tup (p::q::r)) s.o:=by
       obtain ⟨b,l⟩:=p;cases b
       ·cases l with
        |nil=>exact k1
        |cons x l=>cases l<;>exact k1
       ·exact k1
      exact ⟨_,by rw [aW,dif_neg (by simpa using hl)],.tup (p::q::r),s.o,F',bT,⟨vals,rfl,gR⟩,k1'⟩
    refine ⟨⟨fn,hf,by rw [hb];rfl,hn⟩,λB w F xs hF hv=>calls_of_wp hf hb (jbA (joG ps h1) (jmF hF hv hN) hw λe s a w' F' h hk=>?_)⟩
    cases e with
    |exit id=>exact hk.elim
    |normal=>
     obtain ⟨v,k1,av,o',F2,k2,k3,k4⟩:=fin h hk;exact ⟨h.df,v,k1,v,av,o',F2,rfl,k2,k3,k4⟩
    |ret=>
     obtain ⟨v,k1,av,o',F2,k2,k3,k4⟩:=fin h hk;exact ⟨h.df,v,k1,v,av,o',F2,rfl,k2,k3,k4⟩
   ·simp at hc
  ·simp at hc
 ·simp at hc
theorem qm {f:FuncId} {fn:Func} {c:C} {args:List AV} {o:Nat->Ob} {rs:List R} {R:AV->(Nat->Ob)->Prop} (hf:P.funcs[f]?=some fn) (hc:fnC P fn=some (c,rs,N)) (hN:args.length<=N) (hw:wpC P β c (jGg rs R) (St.start args o)):Inl P f args o R:=jle [] hf hc hN hw
end
section
variable {P:Program} {β:Nat} {s:St} {d:Option Nat} {g:Option (Nat×Bool)} {K:St->Prop} {Q:Ex->St->Prop}
def jjb (o:Option (D×jg)) (k:D->jg->Prop):Prop:=match o with
 |some (d,η)=>k d η
 |none=>False
def joU (o:Option D) (k:D->Prop):Prop:=match o with
 |some d=>k d
 |none=>False
theorem ownK_ (d:D) (η:jg) (k:D->jg->Prop):jjb (some (d,η)) k=k d η:=(rfl)
theorem jFu (d:D) (k:D->Prop):joU (some d) k=k d:=(rfl)
theorem jdr (o:Option (D×jg)) (k:D->jg->Prop):(∃d η,o=some (d,η)/\k d η)=jjb o k:=by
 cases o with
 |none=>simp [jjb]
 |some p=>
  obtain ⟨d,η⟩:=p
  apply propext
  constructor
  ·rintro ⟨_,_,h,h2⟩;cases h;exact h2
  ·intro h;exact ⟨d,η,rfl,h⟩
theorem jov (d:D):D.get [] d=some d:=by cases d<;>rfl
theorem jCQ (k c:Nat) (p:List Nat) (x:Value) (R:D->Prop):(∃d,Is s (.h k c p x) d/\R d)=jjb ((s.o k).own c) λd0 η=>η p=x/\joU (D.get p d0) λd=>d.isSl=true/\R d:=by
 apply propext
 rw [<-jdr];constructor
 ·rintro ⟨d,⟨d0,η,h1,h2,h3,h4⟩,h5⟩;exact ⟨d0,η,h1,h2,by rw [h3];exact ⟨h4,h5⟩⟩
 ·rintro ⟨d0,η,h1,h2,h3⟩
  cases h:D.get p d0 with
  |none=>rw [h] at h3;exact h3.elim
  |some d=>rw [h] at h3;exact ⟨d,⟨d0,η,h1,h2,h,h3.1⟩,h3.2⟩
theorem jwO (d:D) (η:jg):(Ob.loose d η).own 0=some (d,η):=(rfl)
def ownC:Option Cell->Option (D×jg)
 |some (.own d η)=>some (d,η)
 |_=>none
theorem jCz (b ty:Nat) (cs:List Cell) (c:Nat):(Ob.box b ty cs).own c=ownC cs[c]?:=by
 simp only [Ob.own,ownC];split<;>simp_all
theorem ownC_ (d:D) (η:jg):ownC (some (.own d η))=some (d,η):=(rfl)
theorem rm_o (k c n:Nat):(s.rm k c).o n=if n=k then (s.o k).rm c else s.o n:=(rfl)
theorem rm_t (k c n:Nat):(s.rm k c).t n=s.t n:=(rfl)
theorem juA (d:D) (η:jg):(Ob.loose d η).rm 0=.none:=(rfl)
theorem jzw (b ty:Nat) (cs:List Cell) (c:Nat):(Ob.box b ty cs).rm c=.box b ty (rmC cs c cs[c]?):=(rfl)
theorem jCo (cs:List Cell) (c:Nat) (d:D) (η:jg):rmC cs c (some (.own d η))=cs.set c (.a (.v (η []))):=(rfl)
theorem jzI (k c:Nat) (p:List Nat) (x:Value):jA7 d s K false (.c (.h k c p x))=jjb ((s.o k).own c) λd0 η=>η p=x/\joU (D.get p d0) λdd=>dd.isSl=true/\0<dd.size/\K (s.put d (.c (.v (.int .i64 dd.len)))):=by
 rw [jFg,jCQ]
theorem jC0 (size k c:Nat) (p:List Nat) (hx:Value) (kk:IntKind) (n:Int):iaK d s K size (.c (.h k c p hx)) (.c (.v (.int kk n)))=((0<=n/\jjb ((s.o k).own c) λd0 η=>η p=hx/\joU (D.get p d0) λdd=>dd.isSl=true/\dd.size=size/\n.toNat<dd.len)/\K (s.put d (.c (.ep k c p (n.toNat*size) hx)))):=by
 rw [iaK_h,jCQ]
theorem jCL (agg:Bool) (n k c:Nat) (p:List Nat) (i:Nat) (x:Value):ldK d s K agg n (.c (.ep k c p i x))=jjb ((s.o k).own c) λd0 η=>η p=x/\joU (D.get p d0) λdd=>dd.isSl=true/\i+n<=dd.cells.length/\ldV agg (jig k c p η i ((dd.cells.drop i).take n)) λv=>K (s.put d v):=by
 apply propext
 rw [<-jdr];simp only [ldK];constructor
 ·rintro ⟨d0,η,dd,h1,h2,h3,h4⟩;exact ⟨d0,η,h1,h2,by rw [h3];exact h4⟩
 ·rintro ⟨d0,η,h1,h2,h3⟩
  cases h:D.get p d0 with
  |none=>rw [h] at h3;exact h3.elim
  |some dd=>rw [h] at h3;exact ⟨d0,η,dd,h1,h2,h,h3⟩
theorem jyO (k c:Nat) (x:Value) (l:List A0) (R:List Cell->St->Prop):qC s (.h k c [] x::l) R=jjb ((s.o k).own c) λd η=>η []=x/\qC (s.rm k c) l (λcs s'=>R (.own d η::cs) s'):=by
 rw [jDT,jdr]
def jcE (a:AV) (n:Nat) (k:List A0->Prop):Prop:=∃l,a.cells=some l/\l.length=n/\k l
theorem jxY (l:List A0) (n:Nat) (k:List A0->Prop):jcE (.agg l) n k=(l.length=n/\k l):=by simp [jcE,AV.cells]
theorem jDr (a:A0) (n:Nat) (k:List A0->Prop):jcE (.c a) n k=(a.c1=true/\1=n/\k [a]):=by
 simp only [jcE,AV.cells];cases h:a.c1<;>simp
def jBo (s:St):List (Nat×Nat×X)->(List A0->Prop)->Prop
 |[],k=>k []
 |(_,size,x)::ps,k=>jcE (s.ev x) size λl=>jBo s ps λr=>k (l++r)
theorem jx0:∀(ps:List (Nat×Nat×X)) (k:List A0->Prop),(∃l,jvd s ps=some l/\k l)=jBo s ps k
 |[],k=>by simp [jvd,jBo]
 |(o,size,x)::ps,k=>by
  apply propext
  simp only [jBo,jcE,jvd];constructor
  ·rintro ⟨l,h1,h2⟩
   split at h1
   ·rename_i l1 r h3 h4
    split at h1
    ·rename_i h5
     simp at h1;subst h1;refine ⟨l1,h3,h5,?_⟩;rw [<-jx0 ps];exact ⟨r,h4,h2⟩
    ·simp at h1
   ·simp at h1
  ·rintro ⟨l1,h3,h5,h6⟩
   rw [<-jx0 ps] at h6;obtain ⟨r,h7,h8⟩:=h6;exact ⟨l1++r,by rw [h3,h7];simp [h5],h8⟩
theorem jDs (k:List A0->Prop):jBo s [] k=k []:=(rfl)
theorem jAl (o size:Nat) (x:X) (ps:List (Nat×Nat×X)) (k:List A0->Prop):jBo s ((o,size,x)::ps) k=jcE (s.ev x) size λl=>jBo s ps λr=>k (l++r):=(rfl)
def jqo (s:St):List A0->List (Nat×Nat×X)->(List A0->Prop)->Prop
 |cs,[],k=>k cs
 |cs,(off,size,x)::ps,k=>jcE (s.ev x) size λl=>off+size<=cs.length/\jqo s (kz cs off l) ps k
theorem jr2:∀(ps:List (Nat×Nat×X)) (cs:List A0) (k:List A0->Prop),(∃l,jjw s cs ps=some l/\k l)=jqo s cs ps k
 |[],cs,k=>by simp [jjw,jqo]
 |(o,size,x)::ps,cs,k=>by
  apply propext
  simp only [jqo,jcE,jjw];constructor
  ·rintro ⟨l,h1,h2⟩
   split at h1
   ·rename_i l1 h3
    split at h1
    ·rename_i h5
     exact ⟨l1,h3,h5.1,h5.2,by rw [<-jr2 ps];exact ⟨l,h1,h2⟩⟩
    ·simp at h1
   ·simp at h1
  ·rintro ⟨l1,h3,h5,h6,h7⟩
   rw [<-jr2 ps] at h7;obtain ⟨r,h8,h9⟩:=h7;exact ⟨r,by rw [h3];simp [h5,h6,h8],h9⟩
theorem jz5 (cs:List A0) (k:List A0->Prop):jqo s cs [] k=k cs:=(rfl)
theorem jxw (cs:List A0) (off size:Nat) (x:X) (ps:List (Nat×Nat×X)) (k:List A0->Prop):jqo s cs ((off,size,x)::ps) k=jcE (s.ev x) size λl=>off+size<=cs.length/\jqo s (kz cs off l) ps k:=(rfl)
theorem jCe (zs:List Value) (ps:List (Nat×Nat×X)):vp P β ⟨d,g,.bld zs ps⟩ s K=jqo s (zs.map .v) ps λl=>K (s.put d (.agg l)):=by
 have e:=jlh (P:=P) (β:=β) (s:=s) (d:=d) (g:=g) (K:=K) (i:=.bld zs ps) (G:=λav=>∃l,jjw s (zs.map .v) ps=some l/\av=.agg l) rfl (by
  intro _ _ av os;simp only [Gen];constructor
  ·rintro ⟨l,h1,h2,h3⟩;exact ⟨⟨l,h1,h2⟩,h3⟩
  ·rintro ⟨⟨l,h1,h2⟩,h3⟩;exact ⟨l,h1,h2,h3⟩)
 rw [e,<-jr2]
 apply propext
 constructor
 ·rintro ⟨_,⟨l,h1,rfl⟩,h2⟩;exact ⟨l,h1,h2⟩
 ·rintro ⟨l,h1,h2⟩;exact ⟨_,⟨l,h1,rfl⟩,h2⟩
def jvq (ks:List (Option (Nat×Nat))) (cs:List Cell) (k:List D->Prop):Prop:=∃ds,jaB ks cs=some ds/\k ds
theorem jDl (ks:List (Option (Nat×Nat))) (k:List D->Prop):jvq ks [] k=k []:=by simp [jvq,jaB]
theorem dat_v (ks:List (Option (Nat×Nat))) (x:Value) (l:List Cell) (k:List D->Prop):jvq ks (.a (.v x)::l) k=jvq ks.tail l λr=>k (js2 (ks.head?.getD none) x::r):=by
 simp only [jvq,jaB];cases jaB ks.tail l<;>simp
theorem jDk (ks:List (Option (Nat×Nat))) (dd:D) (η:jg) (l:List Cell) (k:List D->Prop):jvq ks (.own dd η::l) k=jvq ks.tail l λr=>k (dd::r):=by
 simp only [jvq,jaB];cases jaB ks.tail l<;>simp
theorem jFb (x:Value):js2 none x=.val x:=(rfl)
theorem jCc (e size n:Nat) (ks:List (Option (Nat×Nat))) (ps:List (Nat×Nat×X)):vp P β ⟨d,g,.bsl e size n ks ps⟩ s K=jBo s ps λl=>qC s l λcs s'=>jvq ks cs λds=>∀η,K ((s'.addO [(100*(β+d.getD 0),.loose (.sl size e ds) η)]).put d (.c (.h (100*(β+d.getD 0)) 0 [] (η [])))):=by
 rw [<-jx0];rfl
theorem jwc (ty:Nat) (zs:List Value):vp P β ⟨d,g,.alloc ty zs⟩ s K=∀b,K ((s.addO [(100*(β+d.getD 0),.box b ty (zs.map λz=>.a (.v z)))]).put d (.c (.bp (100*(β+d.getD 0)) 0 b))):=by
 apply propext
 constructor
 ·rintro ⟨_,h⟩ b
  obtain ⟨_,_,⟨rfl,rfl⟩,h2⟩:=h ⟨b,λ_ _=>undef⟩
  exact h2
 ·intro h
  exact ⟨.c (.val undef),λst=>⟨_,_,⟨rfl,rfl⟩,h st.blk⟩⟩
def obK (o:Ob) (b:Nat) (k:Nat->List Cell->Prop):Prop:=match o with
 |.box b' ty ds=>b'=b/\k ty ds
 |_=>False
theorem obK_ (b b' ty:Nat) (ds:List Cell) (k:Nat->List Cell->Prop):obK (.box b' ty ds) b k=(b'=b/\k ty ds):=(rfl)
theorem jE9 (o:Ob) (b:Nat) (k:Nat->List Cell->Prop):(∃ty ds,o=.box b ty ds/\k ty ds)=obK o b k:=by
 cases o with
 |box b' ty ds=>
  simp only [obK]
  apply propext
  constructor
  ·rintro ⟨_,_,h,h2⟩;cases h;exact ⟨by trivial,h2⟩
  ·rintro ⟨rfl,h2⟩;exact ⟨_,_,rfl,h2⟩
 |_=>simp [obK]
def stA (s':St) (K:St->Prop) (n:Nat) (ks:List (Option (Nat×Nat))) (cs:List Cell):AV->Prop
 |.c (.bp g c b)=>obK (s'.o g) b λty ds=>c+n<=ds.length/\K (s'.setO g (.box b ty (kz ds c cs)))
 |.c (.ep g c p k hx)=>0<n/\jvq ks cs λds=>jjb ((s'.o g).own c) λd0 η=>η p=hx/\joU (D.get p d0) λdd=>dd.isSl=true/\k+n<=dd.cells.length/\
  stH (ka ds&&ka ((dd.cells.drop k).take n)) p k n η λaH=>K (s'.setO g ((s'.o g).putOwn c (D.put p k ds d0) aH))
 |_=>False
theorem jDY (s':St) (n k c b:Nat) (ks:List (Option (Nat×Nat))) (cs:List Cell):stA s' K n ks cs (.c (.bp k c b))=obK (s'.o k) b λty ds=>c+n<=ds.length/\K (s'.setO k (.box b ty (kz ds c cs))):=(rfl)
theorem jDX (s':St) (n k c i:Nat) (p:List Nat) (hx:Value) (ks:List (Option (Nat×Nat))) (cs:List Cell):stA s' K n ks cs (.c (.ep k c p i hx))=(0<n/\jvq ks cs λds=>jjb ((s'.o k).own c) λd0 η=>η p=hx/\joU (D.get p d0) λdd=>dd.isSl=true/\i+n<=dd.cells.length/\
 stH (ka ds&&ka ((dd.cells.drop i).take n)) p i n η λaH=>K (s'.setO k ((s'.o k).putOwn c (D.put p i ds d0) aH))):=rfl
theorem jEk (n:Nat) (ks:List (Option (Nat×Nat))) (a x:X):vp P β ⟨none,g,.st n ks a x⟩ s K=jcE (s.ev x) n λl=>qC s l λcs s'=>stA s' K n ks cs (s.ev a):=by
 have e:vp P β ⟨none,g,.st n ks a x⟩ s K=((none:Option Nat)=none/\∃l,(s.ev x).cells=some l/\l.length=n/\qC s l λcs s'=>match s.ev a with
  |.c (.bp g c b)=>∃ty ds,s'.o g=.box b ty ds/\c+n<=ds.length/\K (s'.setO g (.box b ty (kz ds c cs)))
  |.c (.ep g c p k hx)=>0<n/\∃ds,jaB ks cs=some ds/\∃d0 η dd,(s'.o g).own c=some (d0,η)/\η p=hx/\D.get p d0=some dd/\dd.isSl=true/\k+n<=dd.cells.length/\
   stH (ka ds&&ka ((dd.cells.drop k).take n)) p k n η λaH=>K (s'.setO g ((s'.o g).putOwn c (D.put p k ds d0) aH))
  |_=>False):=rfl
 rw [e];simp only [true_and,jcE]
 congr 1
 funext l
 congr 2
 congr 1
 funext cs s'
 cases hv:s.ev a with
 |c y=>
  cases y with
  |bp g c b=>simp only [stA,<-jE9]
  |ep g c p k hx=>
   simp only [stA,jvq]
   apply propext
   constructor
   ·rintro ⟨h0,ds,h1,d0,η,dd,h2,h3,h4,h5,h6,h7⟩
    exact ⟨h0,ds,h1,by rw [<-jdr];exact ⟨d0,η,h2,h3,by rw [h4];exact ⟨h5,h6,h7⟩⟩⟩
   ·rintro ⟨h0,ds,h1,h2⟩
    rw [<-jdr] at h2;obtain ⟨d0,η,h3,h4,h5⟩:=h2;cases hg:D.get p d0 with
    |none=>rw [hg] at h5;exact h5.elim
    |some dd=>rw [hg] at h5;exact ⟨h0,ds,h1,d0,η,dd,h3,h4,hg,h5⟩
  |_=>simp [stA]
 |_=>simp [stA]
theorem jpz (d0 d1:D) (η aH:jg):(Ob.loose d0 η).putOwn 0 d1 aH=.loose d1 aH:=(rfl)
theorem jup (b ty:Nat) (cs:List Cell) (c:Nat) (d1:D) (aH:jg):(Ob.box b ty cs).putOwn c d1 aH=.box b ty (cs.set c (.own d1 aH)):=(rfl)
theorem jv4 {α:Type} (l:List α) (c:Nat):kz l c []=l:=(rfl)
theorem jua {α:Type} (l:List α) (c:Nat) (x:α) (r:List α):kz l c (x::r)=kz (l.set c x) (c+1) r:=(rfl)
theorem jCh (e size bytes:Nat) (x y:X):vp P β ⟨d,g,.app e size bytes x y⟩ s K=jyq s size (s.ev y) λys s1=>jf4 s1 e size (s.ev x) λxs s2=>xs.length/size+ys.length/size<=maxLen/\(xs.length/size+ys.length/size)*bytes<=140737488355328/\
 ∀η,K ((s2.addO [(100*(β+d.getD 0),.loose (.sl size e (xs++ys)) η)]).put d (.c (.h (100*(β+d.getD 0)) 0 [] (η [])))):=rfl
theorem jsG (e:Nat) (x y:X):vp P β ⟨d,g,.apps e x y⟩ s K=∃b,s.ev y=.c (.v (.string b))/\jf4 s e 1 (s.ev x) λxs s2=>xs.length+b.size<=140737488355328/\
 ∀η,K ((s2.addO [(100*(β+d.getD 0),.loose (.sl 1 e (xs++strCells b)) η)]).put d (.c (.h (100*(β+d.getD 0)) 0 [] (η [])))):=rfl
theorem jDZ (size:Nat) (dd:D) (R:List D->St->Prop):jyq s size (.c (.ro dd)) R=(dd.isSl=true/\dd.size=size/\ka dd.cells=true/\R dd.cells s):=(rfl)
theorem src_h (size k c:Nat) (p:List Nat) (x:Value) (R:List D->St->Prop):jyq s size (.c (.h k c p x)) R=jjb ((s.o k).own c) λd0 η=>η p=x/\joU (D.get p d0) λdd=>dd.isSl=true/\dd.size=size/\(if ka dd.cells=true then R dd.cells s else p=[]/\jk6 dd.cells=true/\R dd.cells (s.rm k c)):=by
 rw [<-jCQ];rfl
theorem jAe (e size:Nat) (R:List D->St->Prop):jf4 s e size (.c (.v (.slice none 0 0))) R=R [] s:=(rfl)
def slK (dd:D) (e size:Nat) (k:List D->Prop):Prop:=∃cs,dd=.sl size e cs/\k cs
theorem jyw (e size e' size':Nat) (cs:List D) (k:List D->Prop):slK (.sl size' e' cs) e size k=((size'=size/\e'=e)/\k cs):=by
 simp only [slK]
 apply propext
 constructor
 ·rintro ⟨_,h,h2⟩;cases h;exact ⟨⟨by trivial,by trivial⟩,h2⟩
 ·rintro ⟨⟨rfl,rfl⟩,h⟩;exact ⟨_,rfl,h⟩
theorem jFP (e size k c:Nat) (x:Value) (R:List D->St->Prop):jf4 s e size (.c (.h k c [] x)) R=jjb ((s.o k).own c) λd0 η=>slK d0 e size λcs=>η []=x/\R cs (s.rm k c):=by
 apply propext
 rw [<-jdr];simp only [jf4,slK];constructor
 ·rintro (⟨_,cs,η,h1,h2,h3⟩|⟨_,h,_⟩)
  ·exact ⟨_,η,h1,cs,rfl,h2,h3⟩
  ·cases h
 ·rintro ⟨_,η,h1,cs,rfl,h2,h3⟩;exact .inl ⟨trivial,cs,η,h1,h2,h3⟩
def slkK (s:St) (g c k e size:Nat) (x:Value) (R:List D->St->Prop) (η:jg):D->Prop
 |.sl sz tyo ds0=>joU ds0[k]? λdd=>slK dd e size λcs=>η [k]=x/\∀aH,aH []=η []->R cs (s.setO g ((s.o g).putOwn c (.sl sz tyo (ds0.set k (.val x))) aH))
 |.val _=>False
theorem jyW (g c k e size:Nat) (x:Value) (R:List D->St->Prop) (η:jg) (sz tyo:Nat) (ds0:List D):slkK s g c k e size x R η (.sl sz tyo ds0)=joU ds0[k]? λdd=>slK dd e size λcs=>η [k]=x/\∀aH,aH []=η []->R cs (s.setO g ((s.o g).putOwn c (.sl sz tyo (ds0.set k (.val x))) aH)):=(rfl)
theorem jDh (e size g c k:Nat) (x:Value) (R:List D->St->Prop):jf4 s e size (.c (.h g c [k] x)) R=jjb ((s.o g).own c) λd0 η=>slkK s g c k e size x R η d0:=by
 apply propext
 rw [<-jdr];simp only [jf4];constructor
 ·rintro (⟨h,_⟩|⟨k',h,sz,tyo,ds0,cs,η,h1,h2,h3,h4⟩)
  ·cases h
  ·cases h
   refine ⟨_,η,h1,?_⟩;rw [jyW,h2];exact ⟨cs,rfl,h3,h4⟩
 ·rintro ⟨d0,η,h1,h2⟩
  cases d0 with
  |val _=>exact h2.elim
  |sl sz tyo ds0=>
   rw [jyW] at h2;cases hk:ds0[k]? with
   |none=>rw [hk] at h2;exact absurd h2 (by simp [joU])
   |some dd=>
    rw [hk] at h2;obtain ⟨cs,rfl,h3,h4⟩:=h2;exact .inr ⟨k,rfl,sz,tyo,ds0,cs,η,h1,hk,h3,h4⟩
theorem jxs:ka []=true:=(rfl)
theorem ju2 (u:Value) (l:List D):ka (.val u::l)=(u.oneCell'&&ka l):=(rfl)
theorem vQ:∀(l m:List D),ka (l++m)=(ka l&&ka m)
 |[],_=>by simp [ka]
 |.val u::l,m=>by simp [ka,vQ l m,Bool.and_assoc]
 |.sl _ _ _::l,m=>by simp [ka]
theorem jra {e size bytes:Nat} {zs:List D} {l c:X}:vp P β ⟨d,g,.mks e size bytes zs l c⟩ s K=∃(k k':IntKind) (n:Nat),s.ev l=.c (.v (.int k (n:Int)))/\s.ev c=.c (.v (.int k' (n:Int)))/\bytes*n<=281474976710656/\n<=maxLen/\
 ∀η,K ((s.addO [(100*(β+d.getD 0),.loose (.sl size e ((List.replicate n zs).flatten)) η)]).put d (.c (.h (100*(β+d.getD 0)) 0 [] (η [])))):=by
 apply propext
 constructor
 ·rintro ⟨_,h⟩
  obtain ⟨_,_,⟨k,k',n,h1,h2,h3,h4,rfl,rfl⟩,_⟩:=h ⟨0,λ_ _=>undef⟩
  refine ⟨k,k',n,h1,h2,h3,h4,λη=>?_⟩
  obtain ⟨_,_,⟨k1,k1',n1,dG,bP,_,_,rfl,rfl⟩,h6⟩:=h ⟨0,λ_=>η⟩
  rw [h1] at dG;cases dG;exact h6
 ·rintro ⟨k,k',n,h1,h2,h3,h4,h5⟩
  exact ⟨.c (.val undef),λst=>⟨_,_,⟨k,k',n,h1,h2,h3,h4,rfl,rfl⟩,h5 (st.η 0)⟩⟩
def bnd (s:St) (x:Option X) (dflt:Nat) (k:Nat->Prop):Prop:=match x with
 |none=>k dflt
 |some x=>∃kk n,s.ev x=.c (.v (.int kk n))/\0<=n/\k n.toNat
def bndA (a:AV) (k:Nat->Prop):Prop:=match a with
 |.c (.v (.int _ n))=>0<=n/\k n.toNat
 |_=>False
theorem bndA_ (kk:IntKind) (n:Int) (k:Nat->Prop):bndA (.c (.v (.int kk n))) k=(0<=n/\k n.toNat):=(rfl)
theorem bnd_n (dflt:Nat) (k:Nat->Prop):bnd s none dflt k=k dflt:=(rfl)
theorem bnd_s (x:X) (dflt:Nat) (k:Nat->Prop):bnd s (some x) dflt k=bndA (s.ev x) k:=by
 simp only [bnd]
 apply propext
 constructor
 ·rintro ⟨kk,n,h1,h2⟩;rw [h1];exact h2
 ·intro h
  unfold bndA at h;split at h
  ·rename_i kk n he;exact ⟨kk,n,he,h⟩
  ·exact h.elim
theorem jlT (x:Option X) (dflt:Nat) (R:Nat->Prop):(∃l,jhO s x dflt l/\R l)=bnd s x dflt R:=by
 apply propext
 cases x with
 |none=>constructor
        ·rintro ⟨l,rfl,h⟩;exact h
        ·intro h;exact ⟨_,rfl,h⟩
 |some x=>
  constructor
  ·rintro ⟨l,⟨k,h1⟩,h2⟩;exact ⟨k,l,h1,Int.natCast_nonneg _,by simpa using h2⟩
  ·rintro ⟨k,n,h1,h2,h3⟩;exact ⟨n.toNat,⟨k,by rw [h1,Int.toNat_of_nonneg h2]⟩,h3⟩
def slA (d:Option Nat) (s:St) (K:St->Prop) (size:Nat) (lo hi:Option X):AV->Prop
 |.c (.v (.string b))=>size=0/\bnd s lo 0 λl=>bnd s hi b.size λh=>(l<=h/\h<=b.size)/\K (s.put d (.c (.v (.string (b.extract l h)))))
 |.c (.ro dd)=>(0<size/\dd.isSl=true/\dd.size=size)/\bnd s lo 0 λl=>bnd s hi dd.len λh=>(l<=h/\h<=dd.len)/\K (s.put d (.c (.ro (dd.sub l h))))
 |.c (.h k c p x)=>0<size/\jjb ((s.o k).own c) λd0 η=>η p=x/\joU (D.get p d0) λdd=>(dd.isSl=true/\dd.size=size)/\bnd s lo 0 λl=>bnd s hi dd.len λh=>(l<=h/\h<=dd.len)/\K (s.put d (.c (.hs k c p x size l (h-l))))
 |.c (.hs k c p x sz lo0 m)=>((∃dd,Is s (.hs k c p x sz lo0 m) dd)/\sz=size)/\bnd s lo 0 λl=>bnd s hi m λh=>(l<=h/\h<=m)/\K (s.put d (.c (.hs k c p x size (lo0+l) (h-l))))
 |_=>False
theorem jEl (size:Nat) (x:X) (lo hi:Option X):vp P β ⟨d,g,.sl size x lo hi⟩ s K=slA d s K size lo hi (s.ev x):=by
 have e:=jlh (P:=P) (β:=β) (s:=s) (d:=d) (g:=g) (K:=K) (i:=.sl size x lo hi) (G:=λav=>∃l h,jhO s lo 0 l/\l<=h/\(match s.ev x with
  |.c (.v (.string b))=>size=0/\jhO s hi b.size h/\h<=b.size/\av=.c (.v (.string (b.extract l h)))
  |.c (.ro d)=>0<size/\d.isSl=true/\d.size=size/\jhO s hi d.len h/\h<=d.len/\av=.c (.ro (d.sub l h))
  |.c (.h g c p hx)=>0<size/\(∃d,Is s (.h g c p hx) d/\d.size=size/\jhO s hi d.len h/\h<=d.len)/\av=.c (.hs g c p hx size l (h-l))
  |.c (.hs g c p hx sz lo m)=>(∃d,Is s (.hs g c p hx sz lo m) d)/\sz=size/\jhO s hi m h/\h<=m/\av=.c (.hs g c p hx size (lo+l) (h-l))
  |_=>False)) rfl (by
  intro _ _ av os;simp only [Gen];constructor
  ·rintro ⟨l,h,h1,h2,h3,h4⟩;exact ⟨⟨l,h,h1,h2,h3⟩,h4⟩
  ·rintro ⟨⟨l,h,h1,h2,h3⟩,h4⟩;exact ⟨l,h,h1,h2,h3,h4⟩)
 rw [e]
 apply propext
 cases hv:s.ev x with
 |c y=>
  cases y with
  |v u=>
   cases u with
   |string b=>
    simp only [slA,<-jlT];constructor
    ·rintro ⟨_,⟨l,h,h1,h2,h3,h4,h5,rfl⟩,h6⟩;exact ⟨h3,l,h1,h,h4,⟨h2,h5⟩,h6⟩
    ·rintro ⟨h3,l,h1,h,h4,⟨h2,h5⟩,h6⟩;exact ⟨_,⟨l,h,h1,h2,h3,h4,h5,rfl⟩,h6⟩
   |_=>simp [slA]
  |ro dd=>
   simp only [slA,<-jlT];constructor
   ·rintro ⟨_,⟨l,h,h1,h2,h3,h4,h5,h6,h7,rfl⟩,h8⟩;exact ⟨⟨h3,h4,h5⟩,l,h1,h,h6,⟨h2,h7⟩,h8⟩
   ·rintro ⟨⟨h3,h4,h5⟩,l,h1,h,h6,⟨h2,h7⟩,h8⟩;exact ⟨_,⟨l,h,h1,h2,h3,h4,h5,h6,h7,rfl⟩,h8⟩
  |h k c p hx=>
   simp only [slA];constructor
   ·rintro ⟨_,⟨l,h,h1,h2,h3,⟨dd,⟨d0,η,k1,k2,k3,k4⟩,k5,k6,k7⟩,rfl⟩,h8⟩
    refine ⟨h3,?_⟩;rw [<-jdr];refine ⟨d0,η,k1,k2,?_⟩;rw [k3];refine ⟨⟨k4,k5⟩,?_⟩;rw [<-jlT];refine ⟨l,h1,?_⟩;rw [<-jlT];exact ⟨h,k6,⟨h2,k7⟩,h8⟩
   ·rintro ⟨h3,h4⟩
    rw [<-jdr] at h4;obtain ⟨d0,η,k1,k2,k3⟩:=h4;cases hg:D.get p d0 with
    |none=>rw [hg] at k3;exact k3.elim
    |some dd=>
     rw [hg] at k3;obtain ⟨⟨k4,k5⟩,k6⟩:=k3;rw [<-jlT] at k6;obtain ⟨l,h1,k7⟩:=k6;rw [<-jlT] at k7;obtain ⟨h,k8,⟨h2,k9⟩,h8⟩:=k7;exact ⟨_,⟨l,h,h1,h2,h3,⟨dd,⟨d0,η,k1,k2,hg,k4⟩,k5,k8,k9⟩,rfl⟩,h8⟩
  |hs k c p hx sz lo0 m=>
   simp only [slA,<-jlT];constructor
   ·rintro ⟨_,⟨l,h,h1,h2,h3,h4,h5,h6,rfl⟩,h7⟩;exact ⟨⟨h3,h4⟩,l,h1,h,h5,⟨h2,h6⟩,h7⟩
   ·rintro ⟨⟨h3,h4⟩,l,h1,h,h5,⟨h2,h6⟩,h7⟩;exact ⟨_,⟨l,h,h1,h2,h3,h4,h5,h6,rfl⟩,h7⟩
  |_=>simp [slA]
 |_=>simp [slA]
theorem jBS (size:Nat) (lo hi:Option X) (b:ByteArray):slA d s K size lo hi (.c (.v (.string b)))=(size=0/\bnd s lo 0 λl=>bnd s hi b.size λh=>(l<=h/\h<=b.size)/\K (s.put d (.c (.v (.string (b.extract l h)))))):=(rfl)
theorem jD2 (size:Nat) (lo hi:Option X) (dd:D):slA d s K size lo hi (.c (.ro dd))=((0<size/\dd.isSl=true/\dd.size=size)/\bnd s lo 0 λl=>bnd s hi dd.len λh=>(l<=h/\h<=dd.len)/\K (s.put d (.c (.ro (dd.sub l h))))):=(rfl)
theorem slA_h (size:Nat) (lo hi:Option X) (k c:Nat) (p:List Nat) (x:Value):slA d s K size lo hi (.c (.h k c p x))=(0<size/\jjb ((s.o k).own c) λd0 η=>η p=x/\joU (D.get p d0) λdd=>(dd.isSl=true/\dd.size=size)/\bnd s lo 0 λl=>bnd s hi dd.len λh=>(l<=h/\h<=dd.len)/\K (s.put d (.c (.hs k c p x size l (h-l))))):=(rfl)
theorem jD3 (size:Nat) (lo hi:Option X) (k c:Nat) (p:List Nat) (x:Value) (sz lo0 m:Nat):slA d s K size lo hi (.c (.hs k c p x sz lo0 m))=(((∃dd,Is s (.hs k c p x sz lo0 m) dd)/\sz=size)/\bnd s lo 0 λl=>bnd s hi m λh=>(l<=h/\h<=m)/\K (s.put d (.c (.hs k c p x size (lo0+l) (h-l))))):=(rfl)
theorem jFj (k c:Nat) (p:List Nat) (x:Value) (sz lo n:Nat) (R:D->Prop):(∃d,Is s (.hs k c p x sz lo n) d/\R d)=jjb ((s.o k).own c) λd0 η=>η p=x/\joU (D.get p d0) λdd=>(dd.isSl=true/\dd.size=sz/\0<sz/\lo+n<=dd.len)/\R (dd.sub lo (lo+n)):=by
 apply propext
 rw [<-jdr];constructor
 ·rintro ⟨d,⟨d0,η,dd,h1,h2,h3,h4,h5,h6,h7,rfl⟩,h8⟩;exact ⟨d0,η,h1,h2,by rw [h3];exact ⟨⟨h4,h5,h6,h7⟩,h8⟩⟩
 ·rintro ⟨d0,η,h1,h2,h3⟩
  cases h:D.get p d0 with
  |none=>rw [h] at h3;exact h3.elim
  |some dd=>rw [h] at h3;obtain ⟨⟨h4,h5,h6,h7⟩,h8⟩:=h3;exact ⟨_,⟨d0,η,dd,h1,h2,h,h4,h5,h6,h7,rfl⟩,h8⟩
theorem jD0 (size k c:Nat) (p:List Nat) (x:Value) (sz lo n:Nat) (R:List D->St->Prop):jyq s size (.c (.hs k c p x sz lo n)) R=jjb ((s.o k).own c) λd0 η=>η p=x/\joU (D.get p d0) λdd=>(dd.isSl=true/\dd.size=sz/\0<sz/\lo+n<=dd.len)/\(dd.sub lo (lo+n)).size=size/\ka (dd.sub lo (lo+n)).cells=true/\R (dd.sub lo (lo+n)).cells s:=
 jFj (s:=s) k c p x sz lo n λd=>d.size=size/\ka d.cells=true/\R d.cells s
theorem jCK (k c:Nat) (p:List Nat) (x:Value) (sz lo n:Nat):jA7 d s K false (.c (.hs k c p x sz lo n))=((∃dd,Is s (.hs k c p x sz lo n) dd)/\K (s.put d (.c (.v (.int .i64 n))))):=by
 rw [jwZ]
 apply propext
 constructor
 ·rintro ⟨_,⟨h1,rfl⟩,h2⟩;exact ⟨h1,h2⟩
 ·rintro ⟨h1,h2⟩;exact ⟨_,⟨h1,rfl⟩,h2⟩
theorem jFs (size k c:Nat) (p:List Nat) (hx:Value) (sz lo m:Nat) (kk:IntKind) (n:Int):iaK d s K size (.c (.hs k c p hx sz lo m)) (.c (.v (.int kk n)))=((0<=n/\(∃dd,Is s (.hs k c p hx sz lo m) dd)/\sz=size/\n.toNat<m)/\K (s.put d (.c (.ep k c p ((lo+n.toNat)*size) hx)))):=(rfl)
theorem ret_r (rs:List R) (rt:RT):jzf rs rt .ret s=jvs rs rt s:=(rfl)
def St.n (s:St) (i:Nat):Nat:=match s.t i with|.c (.v (.int _ n))=>n.toNat|_=>0
theorem jaG {i:Nat} {k:IntKind} {n:Int} (h:s.t i=.c (.v (.int k n))):s.n i=n.toNat:=by simp [St.n,h]
theorem kU {x:Int} (h:-9223372036854775808<=x) (h':x<9223372036854775808):IntKind.i64.wrap x=x:=IntWalk.i64_in _ (by omega)
theorem is_v (x:Value):Is s (.v x) (.val x)=True:=by simp [Is]
theorem is_ro (d:D):Is s (.ro d) d=True:=by simp [Is]
theorem jA8 (size:Nat) (ty:TypeId):Is s (.v (.slice none 0 0)) (.sl size ty [])=True:=by simp [Is]
theorem jCR:IsL s [] []=True:=(rfl)
theorem jzK (a:A0) (l:List A0) (d:D) (ds:List D):IsL s (a::l) (d::ds)=(Is s a d/\IsL s l ds):=(rfl)
theorem jAu:zZ s [] []=True:=(rfl)
theorem jyi (a:AV) (l:List AV) (v:View) (vs:List View):zZ s (a::l) (v::vs)=(jmz s a v/\zZ s l vs):=(rfl)
theorem arg_c (a:A0) (d:D):jmz s (.c a) (.c d)=Is s a d:=(rfl)
theorem jDw (l:List A0) (ds:List D):jmz s (.agg l) (.agg ds)=IsL s l ds:=(rfl)
theorem jDv (a:A0) (ds:List D):jmz s (.c a) (.ptr ds)=Ptr s a ds:=(rfl)
theorem jF6 (f:Nat) (caps:List A0) (caps':List (List D)):jmz s (.fn f caps) (.fn f caps')=jAx s caps caps':=by simp [jmz]
theorem jzo:jAx s [] []=True:=(rfl)
theorem jwA (a:A0) (l:List A0) (d:List D) (ds:List (List D)):jAx s (a::l) (d::ds)=(Ptr s a d/\jAx s l ds):=(rfl)
theorem jEQ (ds:List D):Ptr s (.rp ds) ds=True:=by simp [Ptr]
theorem is_h0 (k c:Nat) (x:Value) (d:D):Is s (.h k c [] x) d=jjb ((s.o k).own c) λd0 η=>d0=d/\η []=x/\d.isSl=true:=by
 apply propext
 rw [<-jdr];simp only [Is,jov];constructor
 ·rintro ⟨d0,η,h1,h2,h3,h4⟩;cases h3;exact ⟨_,η,h1,rfl,h2,h4⟩
 ·rintro ⟨_,η,h1,rfl,h2,h3⟩;exact ⟨_,η,h1,h2,rfl,h3⟩
theorem jgV {k c:Nat} {x:Value} {ty:Nat} {cs:List D} {η:jg} {bs:List UInt8} (h1:(s.o k).own c=some (.sl 1 ty cs,η)) (h2:η []=x) (h3:cs=bs.map qv) (hk:K (s.put d (.c (.v (.string ⟨bs.toArray⟩))))):cvK d s K .text (.c (.h k c [] x)):=by
 subst h3;exact ⟨_,⟨_,ty,bs,rfl,⟨_,η,h1,h2,jov _,rfl⟩,rfl⟩,hk⟩
end
theorem jAb (s:Nat) (t:TypeId) (cs:List D):(D.sl s t cs).size=s:=(rfl)
theorem jxN (s:Nat) (t:TypeId) (cs:List D):(D.sl s t cs).cells=cs:=(rfl)
theorem jFM (s:Nat) (t:TypeId) (cs:List D):(D.sl s t cs).isSl=true:=(rfl)
theorem jDe (s:Nat) (t:TypeId) (cs:List D) (g:Nat) (η:jg):(D.sl s t cs).obj g η=[(g,.loose (.sl s t cs) η)]:=(rfl)
theorem jFO (v:Value) (g:Nat) (η:jg):(D.val v).obj g η=[]:=(rfl)
theorem jDd (s:Nat) (t:TypeId) (cs:List D) (g c:Nat) (p:List Nat) (η:jg):(D.sl s t cs).toOwn g c p η=.h g c p (η p):=(rfl)
theorem jFN (v:Value) (g c:Nat) (p:List Nat) (η:jg):(D.val v).toOwn g c p η=.v v:=(rfl)
theorem jDb (s:Nat) (t:TypeId) (cs:List D) (l h:Nat):(D.sl s t cs).sub l h=.sl s t ((cs.drop (l*s)).take ((h-l)*s)):=(rfl)
attribute [go_sem] jAb jxN jFM jDe jFO jDd jFN jDb jBB jCk jCi jCj jEs jEt jEu jEv jEw jEJ jEK jEL jEM jw8 juN jw9 juO jCN jCO jBZ jv7 I.looks AV.looks A0.looks AV.ids A0.ids List.flatMap_cons List.flatMap_nil List.append_nil List.contains_cons List.contains_nil Bool.or_false Bool.or_true Bool.or_self Bool.false_or Bool.true_or ite_true ite_false jEl jBS jD2 slA_h jD3 bnd_n bnd_s bndA_ jD0 jCK jFs jFb jpz jup List.tail_cons List.head?_cons Nat.zero_add jyC jDL jqY jAB jyD jBA jvx jvy thn_n thn_e thn_r blk_n blk_r blk_e jy8 jwb jB5 jB6 jB7 jB8 jB1 jy7 jEX jEq jFB jFD jFC jEn jFh jFi jCL ldB_ ldV_t ldV_f jEo jFr jC0 jB3 jCJ jzH jzJ jzI jCf jF1 jAr jAq jx6 jCg beqK_ jEj jBG jEr jDn jEm mmK_ jCa extK_ jFE jFF jB9 jFw jFx jy6 jEe jCd jAn jFZ jCc jCe jwc jEk jDY jCh jDZ src_h jAe jFP jDh jyW jyw ownK_ jFu jov jwO jCz ownC_ rm_o rm_t juA jzw jCo obK_ jxY jDr jDs jAl jz5 jxw jDl dat_v jDk jv4 jua jxs ju2 vQ jsq jDS jBK jyO one_i one_b one_s one_n A0.c1 ev_t ev_i ev_b ev_s ev_n put_t put_o jEg jEh jAw jyo jFm jFn View.av jEx jzN jcC jeu ret_r is_v is_ro jA8 jCR jzK jAu jyi arg_c jDw jDv jF6 jzo jwA jEQ is_h0 RT.flat jl2 RT.av jE1 jGe List.map_cons List.map_nil List.length_cons List.length_nil List.take_succ_cons List.take_zero List.drop_succ_cons List.drop_zero List.getElem?_cons_zero List.getElem?_cons_succ List.set_cons_zero List.set_cons_succ List.cons_append List.nil_append Option.getD_some Nat.lt_add_one and_true true_and and_self forall_const imp_self implies_true ge_iff_le gt_iff_lt decide_true decide_false Bool.not_true Bool.not_false Bool.and_self Bool.false_eq_true Int.toNat_natCast Int.natCast_nonneg not_false_eq_true ne_eq
attribute [go_sem_proc] Nat.reduceEqDiff Nat.reduceMul Nat.reduceAdd Nat.reduceLeDiff Nat.reduceLT Nat.reduceBEq Nat.reduceSub reduceCtorEq Int.reduceEq
attribute [go_sem_proc↓] reduceIte
section
variable {P:Program} {β:Nat} {s:St} {Q Q':Ex->St->Prop}
theorem jkN:∀{is:List Ins} {s:St} {K K':St->Prop},(∀s,K s->K' s)->jhV P β is s K->jhV P β is s K'
 |[],_,_,_,h,hk=>h _ hk
 |i::l,s,K,K',h,hk=>by
  simp only [jhV] at hk⊢;split
  ·rename_i hw;simp only [hw] at hk;exact jgh (λs'=>jkN h) hk
  ·rename_i hw;simp only [hw] at hk;exact jkN h hk
  ·rename_i hw;simp only [hw] at hk
theorem jbN:∀{t:T} {l:List (Nat×List Lk)} {s:St} {K K':St->Prop},(∀s,K s->K' s)->zD P β t l s K->zD P β t l s K'
 |.done,_,_,_,_,h,hk=>h _ hk
 |.stop,_,_,_,_,_,_=>trivial
 |.pure p i t,l,s,K,K',h,hk=>by
  simp only [zD] at hk⊢;split
  ·rename_i hw;simp only [hw] at hk;exact jgh (λs'=>jbN h) hk
  ·rename_i hw;simp only [hw] at hk;exact jbN h hk
  ·rename_i hw;simp only [hw] at hk
 |.alt i chk t r,l,s,K,K',h,hk=>by
  simp only [zD] at hk⊢;refine ⟨?_,jbN h hk.2⟩;have hk:=hk.1;split
  ·rename_i hw;simp only [hw] at hk;exact jgh (λs' ⟨h1,h2⟩=>⟨h1,jbN h h2⟩) hk
  ·rename_i hw;simp only [hw] at hk;exact jbN h hk
  ·rename_i hw;simp only [hw] at hk
theorem jgb {n n':St->Prop} (hn:∀s,n s->n' s) (hQ:∀e s,Q e s->Q' e s):∀e s,Ex.thn n Q e s->Ex.thn n' Q' e s
 |.normal,_,h=>hn _ h
 |.exit _,_,h=>hQ _ _ h
 |.ret,_,h=>hQ _ _ h
theorem jAo {id:Nat} (hQ:∀e s,Q e s->Q' e s):∀e s,Ex.inBlk id Q e s->Ex.inBlk id Q' e s
 |.normal,_,h=>hQ _ _ h
 |.exit id',_,h=>by
  simp only [Ex.inBlk] at h⊢;by_cases e:id'=id
  ·rw [if_pos e] at h⊢;exact hQ _ _ h
  ·rw [if_neg e] at h⊢;exact hQ _ _ h
 |.ret,_,h=>hQ _ _ h
theorem jaa:∀(c:C) {s:St} {Q Q':Ex->St->Prop},(∀e s,Q e s->Q' e s)->wpC P β c Q s->wpC P β c Q' s
 |.skip,_,_,_,h,hk=>h _ _ hk
 |.reg _,_,_,_,h,hk=>jkN (λ_=>h _ _) hk
 |.dreg _,_,_,_,h,hk=>jbN (λ_=>h _ _) hk
 |.seq a b,s,Q,Q',h,hk=>by
  rw [jqY] at hk⊢;exact jaa a (jgb (λ_=>jaa b h) h) hk
 |.cond x a b,_,_,_,h,⟨t,h1,h2,h3⟩=>⟨t,h1,λht=>jaa a h (h2 ht),λht=>jaa b h (h3 ht)⟩
 |.blk id a,s,Q,Q',h,hk=>by
  rw [jAB] at hk⊢;exact jaa a (jAo h) hk
 |.loop a,_,_,_,h,⟨ι,mk,J,μ,h1,h2⟩=>⟨ι,mk,J,μ,h1,λi hi=>jaa a (jgb (λ_ h=>h) h) (h2 i hi)⟩
 |.gh a,_,_,_,h,hk=>λ_ _ _ _ _ _ hr=>let ⟨s',F',h1,h2⟩:=hk _ _ _ _ _ _ hr;⟨s',F',h1,jaa a h h2⟩
 |.exit _,_,_,_,h,hk=>h _ _ hk
 |.ret,_,_,_,h,hk=>h _ _ hk
theorem Wk.refl (s:St):Wk s s:=λ_ _ _ _ _ F h=>⟨F,h,λg b hb=>⟨g,hb⟩⟩
theorem qI {a:C} {s:St} (J:St->Prop) (μ:St->Nat) (h:J s) (hr:∀s,J s->wpC P β a (Ex.thn (λs'=>J s'/\μ s'<μ s) Q) s):wpC P β (.loop a) Q s:=by
 refine ⟨St,id,J,μ,⟨s,h,.refl s⟩,λs hs=>jaa a (jgb (λs' ⟨h1,h2⟩=>⟨s',h1,.refl s',h2⟩) λ_ _ h=>h) (hr s hs)⟩
theorem jw3 {p:Nat->Prop} (h:∃n,p n):∃n,p n/\∀m,p m->n<=m:=by
 obtain ⟨n,hn⟩:=h
 induction n using Nat.strongRecOn with
 |_ n ih=>
  by_cases hm:∃m,m<n/\p m
  ·obtain ⟨m,h1,h2⟩:=hm
   exact ih m h1 h2
  ·exact ⟨n,hn,λm hp=>Nat.le_of_not_lt λaB=>hm ⟨m,aB,hp⟩⟩
def rounds (P:Program) (β:Nat) (a:C) (Q:Ex->St->Prop):Nat->St->Prop
 |0,_=>False
 |n+1,s=>wpC P β a (Ex.thn (rounds P β a Q n) Q) s
open Classical in
theorem jvw {a:C} {n:Nat} (h:rounds P β a Q n s):wpC P β (.loop a) Q s:=by
 refine qI (λs=>∃n,rounds P β a Q n s) (λs=>if h:∃n,rounds P β a Q n s then Classical.choose (jw3 h) else 0) ⟨n,h⟩ ?_
 intro s hs;obtain ⟨h1,h0⟩:=Classical.choose_spec (jw3 hs)
 obtain ⟨m,hm⟩:∃m,Classical.choose (jw3 hs)=m+1:=by
  cases hq:Classical.choose (jw3 hs) with
  |zero=>rw [hq] at h1;exact h1.elim
  |succ m=>exact ⟨m,rfl⟩
 rw [hm] at h1;refine jaa _ (jgb (λs' h2=>⟨⟨m,h2⟩,?_⟩) λ_ _ h=>h) h1
 have h3:∃n,rounds P β a Q n s':=⟨m,h2⟩;have h4:=(Classical.choose_spec (jw3 h3)).2 m h2;simp only [dif_pos hs,dif_pos h3,hm];omega
theorem jah {a:C} {s:St} (n:Nat) (h:wpC P β a (Ex.thn (rounds P β a Q n) Q) s):wpC P β (.loop a) Q s:=jvw (n:=n+1) h
theorem jCl (a:C) (n:Nat):rounds P β a Q (n+1) s=wpC P β a (Ex.thn (rounds P β a Q n) Q) s:=(rfl)
theorem jvz {t:Nat} {w:Bool} (h:s.t t=.c (.v undef)):zi s (some (t,w))=some false:=by
 simp only [zi,h];rfl
theorem jEp {t:Nat} {w:Bool} {d:Option Nat} {K:St->Prop} (i:I) (l:List Ins) (h:s.t t=.c (.v undef)):jhV P β (⟨d,some (t,w),i⟩::l) s K=jhV P β l (s.put d (.c (.v undef))) K:=by
 simp only [jhV,jvz h]
theorem rt_gu {t p:Nat} {w:Bool} {d:Option Nat} {l:List (Nat×List Lk)} {K:St->Prop} (i:I) (t':T) (h:s.t t=.c (.v undef)):zD P β (.pure p ⟨d,some (t,w),i⟩ t') l s K=zD P β t' l (s.put d (.c (.v undef))) K:=by
 simp only [zD,jvz h]
theorem ra_gu {t:Nat} {w:Bool} {d:Option Nat} {l:List (Nat×List Lk)} {K:St->Prop} (i:I) (chk:List Nat) (t' r:T) (h:s.t t=.c (.v undef)):zD P β (.alt ⟨d,some (t,w),i⟩ chk t' r) l s K=(zD P β t' l (s.put d (.c (.v undef))) K/\zD P β r l s K):=by
 simp only [zD,jvz h]
theorem jxd:IsD [] []=True:=by simp [IsD]
theorem jCT (x:Value) (l:List Cell) (d:D) (ds:List D):IsD (.a (.v x)::l) (d::ds)=((d=.val x\/x=.slice none 0 0/\∃size ty,d=.sl size ty [])/\IsD l ds):=rfl
theorem jCS (x:Value) (l:List Cell) (ds:List D):IsD (.a (.v x)::l) (.val x::ds)=IsD l ds:=by rw [jCT];simp
theorem isD_1 (x u:Value):IsD [.a (.v x)] [.val u]=(x=u):=by
 rw [jCT];simp only [jxd];apply propext;constructor
 ·rintro ⟨h|⟨_,_,_,h⟩,_⟩
  ·cases h;rfl
  ·cases h
 ·rintro rfl;exact ⟨.inl rfl,trivial⟩
theorem jgC (l:List Cell) (size:Nat) (ty:TypeId) (ds:List D):IsD (.a (.v (.slice none 0 0))::l) (.sl size ty []::ds)=IsD l ds:=by rw [jCT];simp
theorem jCU (d d':D) (η:jg) (l:List Cell) (ds:List D):IsD (.own d' η::l) (d::ds)=(d'=d/\IsD l ds):=(rfl)
def jwn (s:St):RT->AV->Prop
 |.c d,.c a=>qC s [a] λcs _=>IsD cs [d]
 |.agg ds,.agg l=>qC s l λcs _=>IsD cs ds
 |_,_=>False
theorem jEF (d:D) (a:A0):jwn s (.c d) (.c a)=qC s [a] λcs _=>IsD cs [d]:=(rfl)
theorem jzg (ds:List D) (l:List A0):jwn s (.agg ds) (.agg l)=qC s l λcs _=>IsD cs ds:=(rfl)
theorem ret_t (n:Nat) (rt:RT):jvs [.t n] rt s=jwn s rt (s.t n):=by
 apply propext
 simp only [jvs,jjs];cases h:s.t n with
 |c a=>cases rt<;>simp [jwn,ja6,RT.flat]
 |agg l=>cases rt<;>simp [jwn,ja6,RT.flat]
 |_=>cases rt<;>simp [jwn]
def jrg (s:St) (agg:Bool) (k:Nat) (rt:RT) (a:AV):Prop:=∃l,jaE s k l a/\(agg=true\/l.length=1)/\ja6 rt [(agg,l)]/\qC s ([(agg,l)].flatMap (·.2)) λcs _=>IsD cs rt.flat
theorem jze (n k:Nat) (agg:Bool) (rt:RT):jvs [.cell n agg k] rt s=jrg s agg k rt (s.t n):=(rfl)
theorem jui (k g c b:Nat) (agg:Bool) (rt:RT):jrg s agg k rt (.c (.bp g c b))=ldB (s.o g) g c b k λl=>ldV agg l λv=>jwn s rt v:=by
 apply propext
 simp only [jrg,jaE];cases ho:s.o g with
 |box b' ty cs=>
  simp only [ldB,Ob.box.injEq];constructor
  ·rintro ⟨l,⟨_,_,⟨rfl,rfl,rfl⟩,h2,rfl⟩,h3,h4,h5⟩
   refine ⟨rfl,h2,?_⟩;cases agg with
   |true=>cases rt<;>simp_all [ldV,jwn,ja6,RT.flat]
   |false=>
    obtain ⟨a,ha⟩:=List.length_eq_one_iff.1 (by simpa using h3)
    rw [ha] at h4 h5⊢;cases rt<;>simp_all [ldV,jwn,ja6,RT.flat]
  ·rintro ⟨rfl,h2,h3⟩
   refine ⟨_,⟨ty,cs,⟨rfl,rfl,rfl⟩,h2,rfl⟩,?_⟩;cases agg with
   |true=>cases rt<;>simp_all [ldV,jwn,ja6,RT.flat]
   |false=>
    generalize jeu g c ((cs.drop c).take k)=l at h3⊢
    match l,h3 with
    |[a],h3=>cases rt<;>simp_all [ldV,jwn,ja6,RT.flat]
 |_=>simp [ldB]
theorem ri_r (rs:List R) (K:AV->(Nat->Ob)->Prop):jGg rs K .ret s=jvt rs K s:=(rfl)
theorem ri_n (rs:List R) (K:AV->(Nat->Ob)->Prop):jGg rs K .normal s=jvt rs K s:=(rfl)
def retI (s:St) (K:AV->(Nat->Ob)->Prop):AV->Prop
 |.c a=>K (.c a) s.o
 |.agg l=>K (.agg l) s.o
 |_=>False
theorem jEE (K:AV->(Nat->Ob)->Prop) (a:A0):retI s K (.c a)=K (.c a) s.o:=(rfl)
theorem jEA (n:Nat) (K:AV->(Nat->Ob)->Prop):jvt [.t n] K s=retI s K (s.t n):=by
 simp only [jvt,jjs];cases h:s.t n<;>simp [retI]
theorem jEB (K:AV->(Nat->Ob)->Prop):jvt [] K s=K (.tup []) s.o:=(rfl)
def jnS (s:St) (agg:Bool) (k:Nat) (K:AV->(Nat->Ob)->Prop) (a:AV):Prop:=∃l,jaE s k l a/\(agg=true\/l.length=1)/\(match [(agg,l)] with
 |[(true,l)]=>K (.agg l) s.o
 |[(false,[a])]=>K (.c a) s.o
 |[]=>K (.tup []) s.o
 |p::q::r=>K (.tup (p::q::r)) s.o
 |_=>False)
theorem jwk (n k:Nat) (agg:Bool) (K:AV->(Nat->Ob)->Prop):jvt [.cell n agg k] K s=jnS s agg k K (s.t n):=(rfl)
theorem jrf (k g c b:Nat) (agg:Bool) (K:AV->(Nat->Ob)->Prop):jnS s agg k K (.c (.bp g c b))=ldB (s.o g) g c b k λl=>ldV agg l λv=>K v s.o:=by
 apply propext
 simp only [jnS,jaE];cases ho:s.o g with
 |box b' ty cs=>
  simp only [ldB,Ob.box.injEq];constructor
  ·rintro ⟨l,⟨_,_,⟨rfl,rfl,rfl⟩,h2,rfl⟩,h3,h4⟩
   refine ⟨rfl,h2,?_⟩;cases agg with
   |true=>exact h4
   |false=>
    obtain ⟨a,ha⟩:=List.length_eq_one_iff.1 (by simpa using h3)
    rw [ha] at h4⊢;exact h4
  ·rintro ⟨rfl,h2,h3⟩
   refine ⟨_,⟨ty,cs,⟨rfl,rfl,rfl⟩,h2,rfl⟩,?_⟩;cases agg with
   |true=>exact ⟨.inl rfl,h3⟩
   |false=>
    generalize jeu g c ((cs.drop c).take k)=l at h3⊢
    match l,h3 with
    |[a],h3=>exact ⟨.inr rfl,h3⟩
 |_=>simp [ldB]
theorem jBO (args:List AV) (o:Nat->Ob) (n:Nat):(St.start args o).t n=(args[n]?).getD .unk:=(rfl)
theorem jBP (args:List AV) (o:Nat->Ob):(St.start args o).o=o:=(rfl)
end
theorem jf7 (n:Int) (h:-1000000000000000<=n) (h':n<1000000000000000):IntKind.i64.wrap n=n:=kU (by omega) (by omega)
attribute [go_sem_proc] Int.reduceBEq Int.reduceBNe Nat.reduceBNe Int.reduceAdd Int.reduceSub Int.reduceMul Int.reduceLE Int.reduceLT Int.reduceGE Int.reduceGT Int.reduceTMod Int.reduceTDiv Int.reduceNe Int.reduceNeg Int.reduceToNat Nat.reduceDiv Nat.reduceMod Nat.reducePow Int.reduceNegSucc
attribute [go_sem] Int.cast_ofNat_Int jEp rt_gu ra_gu jCl jxd isD_1 jCS jgC jCU jBO jBP ri_r ri_n jEE jEA jEB jwk jrf ret_t jze jui jEF jzg
section
variable {P:Program} {f:FuncId}
theorem jDM {w:World} {v1 v2:View} {xs:List Value} (h:jag w [v1,v2] xs):∃a b,xs=[a,b]/\ViewRel w v1 a/\ViewRel w v2 b:=by
 obtain ⟨a,_,rfl,h1,b,_,rfl,h2,h3⟩:=h;rw [show _=_ from h3]
 exact ⟨a,b,rfl,h1,h2⟩
theorem jDN {w:World} {v1:View} {xs:List Value} (h:jag w [v1] xs):∃a,xs=[a]/\ViewRel w v1 a:=by
 obtain ⟨a,_,rfl,h1,h3⟩:=h;rw [show _=_ from h3]
 exact ⟨a,rfl,h1⟩
theorem jpB {v1 v2:View} {u:Value} (hn:jqT P f) (h:∀w a b,ViewRel w v1 a->ViewRel w v2 b->Calls P f #[a,b] w λe w'=>e=.returned u/\Below w.heap.size w w'):jZ P f [v1,v2] (.c (.val u)):=by
 refine ⟨hn,λw xs hv=>?_⟩
 obtain ⟨a,b,rfl,h1,h2⟩:=jDM hv;exact (h w a b h1 h2).mono λe w' ⟨he,hb⟩=>⟨u,[],he,⟨rfl,rfl⟩,Fresh.nil _,hb⟩
theorem jEP {v1:View} {u:Value} (hn:jqT P f) (h:∀w a,ViewRel w v1 a->Calls P f #[a] w λe w'=>e=.returned u/\Below w.heap.size w w'):jZ P f [v1] (.c (.val u)):=by
 refine ⟨hn,λw xs hv=>?_⟩
 obtain ⟨a,rfl,h1⟩:=jDN hv;exact (h w a h1).mono λe w' ⟨he,hb⟩=>⟨u,[],he,⟨rfl,rfl⟩,Fresh.nil _,hb⟩
theorem jwy {ds:List D} (hn:jqT P f) (h:∀w,Calls P f #[] w (jys w ds)):jZ P f [] (.agg ds):=by
 refine ⟨hn,λw xs hv=>?_⟩
 rw [show xs=[] from hv]
 exact (h w).mono λe w' h=>h
theorem jbf {w:World} {u a:Value} (h:ViewRel w (.c (.val u)) a):a=u:=by obtain ⟨S,h1,_⟩:=h;exact h1
end
attribute [go_sem] and_false false_and
open Go.RowKit
theorem iEn:(Tryz.prog.info? tEn).map (λi=>(i.zero,i.size,i.bytes))=some (some (.agg #[.int .i64 0,.int .i64 0,.int .i64 0,.int .i64 0]),4,32):=by kernel_rfl
theorem slEn:SlT Tryz.prog jq4 tEn 4 32 [.int .i64 0,.int .i64 0,.int .i64 0,.int .i64 0]:=⟨by kernel_rfl,jrQ iEn,rfl,by decide⟩
theorem jGd:(Tryz.prog.info? tEn).map (·.size)=some 4:=by kernel_rfl
theorem iEnS:(Tryz.prog.info? jq4).map (λi=>(i.zero,i.size,i.bytes))=some (some (.slice none 0 0),1,24):=by kernel_rfl
theorem jD1:SlT Tryz.prog tSh jq4 1 24 [.slice none 0 0]:=⟨by kernel_rfl,jrQ iEnS,rfl,by decide⟩
theorem iRn:(Tryz.prog.info? tRn).map (λi=>(i.zero,i.size,i.bytes))=some (some (.agg #[.int .i64 0,.int .i64 0,.int .i64 0,.int .i64 0,.int .i64 0,.slice none 0 0,.int .i64 0,.slice none 0 0]),8,96):=by kernel_rfl
theorem slRn:SlT Tryz.prog jDU tRn 8 96 [.int .i64 0,.int .i64 0,.int .i64 0,.int .i64 0,.int .i64 0,.slice none 0 0,.int .i64 0,.slice none 0 0]:=⟨by kernel_rfl,jrQ iRn,rfl,by decide⟩
theorem jxC:∀(y:En),∀d∈jj y,d.one:=by intro y d hd;simp [jj] at hd;rcases hd with rfl|rfl|rfl|rfl<;>trivial
theorem ju5:∀(y:List En),∀d∈[jf y],d.one:=by intro y d hd;simp at hd;subst hd;trivial
theorem zEnS (w:World):RepL w true [jf []] [.slice none 0 0] []:=RepL.cons_ (Rep.nil_ w 4 tEn) RepL.nil_
open Go.RowKit Go.Sort Go.BigFrame
theorem jbg (y:Yd) (id:Int) (a:Value) (S:List Nat) (w:World) (own:Bool) (ha:AggRep w own (jb y) a S):
 Calls Tryz.prog 26 #[a,.int .i64 id] w λe w'=>e=.returned (.int .i64 (runAt y id))/\Below w.heap.size w w':=by
 obtain ⟨_,rfl,ha⟩:=ha;obtain ⟨sv,rv,S1,S2,rfl,ah0,ah1,rfl⟩:=qW ha;clear ha ah0;obtain ⟨A,c,rfl,cT,cY,cM⟩:=Rep.open_ (size:=8) (enc:=jd) (λ_=>rfl) (by decide) ah1
 unfold maxLen at cY;have gM:y.aOH.length<=9223372036854775807:=by omega
 by_cases h8:8<y.aOH.length
 ·clear cM
  have hr:runAt y id=-1:=by simp [runAt,h8]
  rw [hr];clear hr
  go_enter Tryz.func26,Tryz.ntmps26
  go_wp2
  go_loop [5] (λi=>i=.int .i64 0) (λ_=>0)
  case atStart=>rfl
  case round=>
   subst hrel
   go_wp2
   all_goals go_ret
   all_goals exact ⟨rfl,(Below.refl _ _).alloc (by simp) _⟩
 ·have hr:runAt y id=jh2 y.aOH id:=by simp [runAt,h8]
  rw [hr];clear hr
  go_enter Tryz.func26,Tryz.ntmps26
  go_wp2
  go_loop [5] (λi=>∃k:Nat,k<=y.aOH.length/\i=.int .i64 k/\∀j,j<k->∀z,y.aOH[j]?=some z->z.id≠id) (λi=>y.aOH.length-(intOf i).toNat)
  case atStart=>exact ⟨0,by omega,rfl,by simp⟩
  case round=>
   obtain ⟨k,hk,rfl,eA⟩:=hrel;have HN:=Lib.hid eA;clear eA;by_cases aB:k<y.aOH.length
   ·obtain ⟨x,hx⟩:=ja aB
    obtain ⟨b1,o1,vk1,T1,rfl,-,cK,-,-,aZ,bA⟩:=cM k x hx;clear cM;obtain ⟨v0,v1,U0,U1,rfl,-,-,-⟩:=vE cK;have HX:=Lib.hid hx;clear hx;have p0:w.cell? ⟨b1,o1+k*8,none⟩=some (.int .i64 x.id):=bA 0 _ rfl;clear bA cK;by_cases he:x.id=id
    ·have hb:(x.id==id)=true:=by simpa using he
     have HE:=Lib.hid he;clear he
     go_wp2
     go_ret
     exact ⟨jh4 (jce HX.out HE.out HN.out).symm,(Below.refl _ _).alloc (by simp) _⟩
    ·have hb:(x.id==id)=false:=by simpa using he
     have HE:=Lib.hid he;clear he
     go_wp2
     go_round
     case rel=>
      refine ⟨k+1,by omega,by go_num,λj hj z hz=>?_⟩
      by_cases oE:j=k
      ·subst oE
       have:=HX.out;rw [hz] at this;cases this;exact HE.out
      ·exact HN.out j (by omega) z hz
     case measure=>simp [intOf];omega
   ·obtain rfl:k=y.aOH.length:=by omega
    clear cM
    go_wp2
    go_ret
    exact ⟨jh4 (jed HN.out).symm,(Below.refl _ _).alloc (by simp) _⟩
theorem jqf (x:Rn) (id:Int) (a:Value) (S:List Nat) (g:Nat) (w:World) (own:Bool) (ha:AggRep w own (jd x) a S) (hg:w.cell? ⟨g,0,none⟩=some (.int .i64 id)):
 Calls Tryz.prog 88 #[a,.pointer (some ⟨g,0,none⟩)] w λe w'=>e=.returned (.bool (x.id==id))/\Below w.heap.size w w':=by
 obtain ⟨_,rfl,ha⟩:=ha;obtain ⟨v0,v1,U0,U1,rfl,-,-,-⟩:=vE ha;clear ha;have aB:=World.block_lt_of_cell? w _ hg
 go_enter Tryz.func88,Tryz.ntmps88
 go_wp2
 go_ret
 exact ⟨rfl,(Below.refl _ _).alloc (by simp) _⟩
theorem jrT (rs:List Rn) (id:Int) (a:Value) (S:List Nat) (g:Nat) (w:World) (own:Bool) (ha:Rep w own (jG rs) a S) (hg:w.cell? ⟨g,0,none⟩=some (.int .i64 id)):
 Calls Tryz.prog 87 #[a,.func (.func 88) #[] #[.pointer (some ⟨g,0,none⟩)]] w λe w'=>e=.returned (.int .i64 (jh2 rs id))/\Below w.heap.size w w':=by
 obtain ⟨A,c,rfl,cT,cY,cM⟩:=Rep.open_ (size:=8) (enc:=jd) (λ_=>rfl) (by decide) ha
 unfold maxLen at cY;have gM:rs.length<=9223372036854775807:=by omega
 have aDR:=World.block_lt_of_cell? w _ hg;clear ha
 go_enter Tryz.func87,Tryz.ntmps87
 go_wp2
 go_loopw [5,8] (λ_ i wr=>∃k:Nat,k<=rs.length/\i=.int .i64 k/\(∀j,j<k->∀z,rs[j]?=some z->z.id≠id)/\Below w.heap.size w wr) (λ_ i _=>rs.length-(intOf i).toNat)
 case atStart=>exact ⟨0,by omega,rfl,by simp,Below.refl _ _⟩
 case round=>
  obtain ⟨k,hk,rfl,eA,aD⟩:=hrel;have HN:=Lib.hid eA;clear eA;have hgr:wr.cell? ⟨g,0,none⟩=some (.int .i64 id):=(aD.cell (p:=⟨g,0,none⟩) aDR).trans hg;by_cases aB:k<rs.length
  ·obtain ⟨x,hx⟩:=ja aB
   obtain ⟨b1,o1,vk1,T1,rfl,-,cK,-,-,aZ,bA⟩:=cM k x hx;clear cM;obtain ⟨v0,v1,U0,U1,rfl,-,-,-⟩:=vE cK;have HX:=Lib.hid hx;clear hx;have p0:=(aD.cell (p:=⟨b1,o1+k*8,none⟩) aZ).trans (bA 0 _ rfl:w.cell? ⟨b1,o1+k*8,none⟩=_);have p1:=(aD.cell (p:=⟨b1,o1+k*8+1,none⟩) aZ).trans (bA 1 _ rfl);have p2:=(aD.cell (p:=⟨b1,o1+k*8+2,none⟩) aZ).trans (bA 2 _ rfl);have p3:=(aD.cell (p:=⟨b1,o1+k*8+3,none⟩) aZ).trans (bA 3 _ rfl);have p4:=(aD.cell (p:=⟨b1,o1+k*8+4,none⟩) aZ).trans (bA 4 _ rfl);have p5:=(aD.cell (p:=⟨b1,o1+k*8+5,none⟩) aZ).trans (bA 5 _ rfl);have p6:=(aD.cell (p:=⟨b1,o1+k*8+6,none⟩) aZ).trans (bA 6 _ rfl);have p7:=(aD.cell (p:=⟨b1,o1+k*8+7,none⟩) aZ).trans (bA 7 _ rfl);clear bA;by_cases he:x.id=id
   ·have hb:(x.id==id)=true:=by simpa using he
    have HE:=Lib.hid he;clear he
    go_wp2_with (go_at_call 88;refine (jqf x id _ _ _ _ own ⟨_,rfl,cK.below aD (aPD _)⟩ hgr).mono ?_;rintro e w2 ⟨rfl,bF⟩)
    go_ret
    exact ⟨jh4 (jce HX.out HE.out HN.out).symm,jW aD bF⟩
   ·have hb:(x.id==id)=false:=by simpa using he
    have HE:=Lib.hid he;clear he
    go_wp2_with (go_at_call 88;refine (jqf x id _ _ _ _ own ⟨_,rfl,cK.below aD (aPD _)⟩ hgr).mono ?_;rintro e w2 ⟨rfl,bF⟩)
    go_roundw
    case rel=>
     refine ⟨k+1,by omega,by go_num,λj hj z hz=>?_,jW aD bF⟩
     by_cases oE:j=k
     ·subst oE
      have:=HX.out;rw [hz] at this;cases this;exact HE.out
     ·exact HN.out j (by omega) z hz
    case measure=>simp [intOf];omega
  ·obtain rfl:k=rs.length:=by omega
   clear cM
   go_wp2
   go_ret
   exact ⟨jh4 (jed HN.out).symm,aD⟩
theorem jbk (y:Yd) (id:Int) (a:Value) (S:List Nat) (w:World) (own:Bool) (ha:AggRep w own (jb y) a S):
 Calls Tryz.prog 25 #[a,.int .i64 id] w λe w'=>e=.returned (.int .i64 (runAt y id))/\Below w.heap.size w w':=by
 obtain ⟨_,rfl,ha⟩:=ha;obtain ⟨sv,rv,S1,S2,rfl,ah0,ah1,rfl⟩:=qW ha;clear ha ah0;obtain ⟨A,c,rfl,cT,cY,cM⟩:=Rep.open_ (size:=8) (enc:=jd) (λ_=>rfl) (by decide) ah1
 unfold maxLen at cY;have gM:y.aOH.length<=9223372036854775807:=by omega
 clear cM;by_cases h8:8<y.aOH.length
 ·have hr:runAt y id=-1:=by simp [runAt,h8]
  rw [hr];clear hr
  go_enter Tryz.func25,Tryz.ntmps25
  go_wp2
  go_ret
  exact ⟨rfl,((Below.refl _ _).alloc (by simp) _).alloc (by simp) _⟩
 ·have hr:runAt y id=jh2 y.aOH id:=by simp [runAt,h8]
  rw [hr];clear hr
  go_enter Tryz.func25,Tryz.ntmps25
  go_wp2_with (go_at_call 87;refine (jrT y.aOH id _ _ _ _ own (ah1.below (((Below.refl _ _).alloc (by simp) _).alloc (by simp) _) (aPD _)) (by simp [go_sem])).mono ?_;rintro e w2 ⟨rfl,bF⟩)
  go_ret
  exact ⟨rfl,jW (((Below.refl _ _).alloc (by simp) _).alloc (by simp) _) bF⟩
open Go.RowKit Go.ChangeShapes Go.WideShapes Go.Deep Go.ChangeAt
def inR (n:Int):Prop:=-9223372036854775808<=n/\n<=9223372036854775807
def ReadsAs (P:Program) (t:TypeId) {α:Type} (E:α->List D) (W:α->Prop):Prop:=
 ∀(H:Type) (enc:TypeId×Value->H) (w:World) (base:Nat) (spare:Nat->Bool) (l4:Bool) (n:Nat) (cs:List Value) (y:DataW H×List MemPlace),
  DataW.trod enc P w base spare l4 n t cs=some y->∃x,W x/\∃S,RepL w false (E x) cs S
section
variable {P:Program} {t e:TypeId} {α β:Type} {E:α->List D} {E':β->List D} {W:α->Prop} {W':β->Prop}
theorem ReadsAs.map (h:ReadsAs P t E W) (g:α->β) (hE:∀a,E' (g a)=E a) (hW:∀a,W a->W' (g a)):ReadsAs P t E' W':=by
 intro H enc w base spare l4 n cs y hy;obtain ⟨x,hx,S,hr⟩:=h H enc w base spare l4 n cs y hy;exact ⟨g x,hW x hx,S,by rw [hE];exact hr⟩
theorem jxZ {w:World} {a:Addr} {v:Value} (h:w.cell? a=some v):a=⟨a.block,a.off,none⟩:=by
 obtain ⟨b,o,s⟩:=a;cases s with
 |none=>rfl
 |some s=>simp only [World.cell?] at h;split at h<;>simp at h
theorem jzm {size:Nat} {ty:TypeId} (ht:P.underlying t=some (.slice e)) (h:ReadsAs P e E W) (hc:P.cellsOf e=size) (hl:∀x,(E x).length=size) (_hs:0<size):
 ReadsAs P t (λxs:List α=>[.sl size ty (xs.flatMap E)]) (λxs=>∀x∈xs,W x):=by
 intro H enc w base spare l4 n cs y hy;rcases open_slice ht hy with ⟨rfl,_⟩|⟨a,len,cap,m,n',D',Pl,rfl,hb,yD,oJ,hm,_,hi⟩
 ·have bH:Rep w false (.sl size ty (List.flatMap E [])) (.slice none 0 0) []:=⟨[],[],[],⟨by simp,none,0,0,rfl,by simp,aPD _,aPP _,λ_=>rfl,by simp⟩,RepL.nil_,rfl⟩
  exact ⟨[],by simp,[],RepL.cons_ bH RepL.nil_⟩
 ·have lJ:len<=m:=by rw [hm];split<;>omega
  have key:∀k,k<=len->∃(xs:List α) (vs:List Value) (S:List Nat),xs.length=k/\(∀x∈xs,W x)/\RepL w false (xs.flatMap E) vs S/\∀j u,vs[j]?=some u->w.cell? (a.add j)=some u:=by
   intro k
   induction k with
   |zero=>exact λ_=>⟨[],[],[],rfl,by simp,RepL.nil_,by simp⟩
   |succ k ih=>
    intro hk;obtain ⟨xs,vs,S,gH,hW,hr,bW⟩:=ih (by omega)
    obtain ⟨cs',fI,i9⟩:=hi k (by omega)
    obtain ⟨x,hx,S',bN⟩:=h H enc w base spare l4 n' cs' _ i9;obtain ⟨_,dN,fB⟩:=World.cells?_some fI;rw [hc] at fB dN;have bO:vs.length=k*size:=by rw [RepL.length _ hr,jD hl,gH]
    refine ⟨xs++[x],vs++cs',S++S',by simp [gH],?_,?_,?_⟩
    ·intro z hz
     rcases aOX.1 hz with hz|hz
     ·exact hW z hz
     ·simp at hz;subst hz;exact hx
    ·rw [aQO]
     exact RepL.append_ _ hr (by simpa using bN)
    ·intro j u hu
     by_cases hj:j<vs.length
     ·rw [aRH hj] at hu
      exact bW j u hu
     ·rw [aQF (by omega)] at hu
      have bJ:j-vs.length<cs'.length:=(aOS.1 hu).1;have h2:=fB (j-vs.length) (by omega)
      rw [hu,add_add,show k*size+(j-vs.length)=j by omega] at h2
      exact h2
  obtain ⟨xs,vs,S,gH,hW,hr,bW⟩:=key len (aPD _);have bO:vs.length=len*size:=by rw [RepL.length _ hr,jD hl,gH]
  refine ⟨xs,hW,?_⟩;by_cases aK:vs=[]
  ·subst aK
   refine ⟨S,?_⟩;have bH:Rep w false (.sl size ty (xs.flatMap E)) (.slice (some a) len cap) S:=⟨[],[],S,⟨by simp,some a,len,cap,rfl,bO,yD,oJ,(λe=>nomatch e),by simp⟩,hr,rfl⟩
   have:=RepL.cons_ bH (RepL.nil_ (w:=w) (own:=false));simpa using this
  ·obtain ⟨u,us,rfl⟩:=List.exists_cons_of_ne_nil aK
   have h0:=bW 0 u rfl;have ha:a.add 0=a:=by simp [Addr.add]
   rw [ha] at h0;have gR:=jxZ h0;have aB:=World.block_lt_of_cell? w _ h0;refine ⟨[a.block]++S,?_⟩
   have bH:Rep w false (.sl size ty (xs.flatMap E)) (.slice (some a) len cap) ([a.block]++S):=by
    refine ⟨u::us,[a.block],S,⟨by simpa using aB,some a,len,cap,rfl,bO,yD,oJ,(λe=>nomatch e),λ_=>⟨a.block,a.off,by rw [<-gR],rfl,λj v hv=>?_⟩⟩,hr,rfl⟩
    have:=bW j v hv;rw [gR] at this
    rwa [Addr.add_mid] at this
   have:=RepL.cons_ bH (RepL.nil_ (w:=w) (own:=false));simpa using this
end
def jfl:C:=iS [aN 6 0] (.seq (iS [aM 7 2,aM 8 1,aP 9 .lss 3 7 8,aM 10 9,iB 11 10 false (iM 0),iB 12 10 false (iM 1),iB 13 10 false (iP .lss 3 11 12),iA 14 (iY 10 (oT) (.t 13))] (iD 14 (iS [aM 15 1,aM 6 15] .ret) .skip)) (.seq (iS [aM 16 0,aM 17 2,aP 18 .gtr 3 16 17] (iD 18 (iS [aM 19 2,aM 6 19] .ret) .skip)) (iS [aM 20 0,aM 6 20] .ret)))
theorem jiK:fnC Tryz.prog Tryz.f134=some (jfl,[.t 6],21):=by kernel_rfl
def jfy:C:=iS [aN 6 0] (.seq (iS [aM 7 2,aM 8 1,aP 9 .lss 3 7 8,aM 10 9,iB 11 10 false (iM 0),iB 12 10 false (iM 1),iB 13 10 false (iP .lss 3 11 12),iA 14 (iY 10 (oT) (.t 13))] (iD 14 (iS [aM 15 1,aM 6 15] .ret) .skip)) (iS [aM 16 0,aM 17 2,iA 18 (.mm false (.t 16) (.t 17)),aM 6 18] .ret))
theorem jiX:fnC Tryz.prog Tryz.f83=some (jfy,[.t 6],19):=by kernel_rfl
def jcJ:C:=iS [iA 4 (.mov (.c (.slice none 0 0)))] (iS [aM 8 0,iA 9 (.call 134 [.t 8,oI 0,oI 3]),aM 0 9] (.seq (iS [aM 10 1,aQ 11 .lss 3 10 0] (iD 11 (.reg [aN 1 0]) .skip)) (iS [iA 12 (wA1 []),aM 5 12] (.seq (iS [aN 6 1] (.blk 0 (.loop (.seq (iS [aM 13 6,aQ 14 .lss 3 13 4] (iD 14 .skip (.exit 0))) (.seq (.blk 1 (.reg [aM 17 5,aM 18 0,aM 19 6,aP 20 .add 3 18 19,aQ 21 .rem 3 20 4,iA 22 (wAY [(0,1,.t 21)]),iA 23 (wA7 17 22),aM 5 23])) (.reg [aM 15 6,aQ 16 .add 3 15 1,aM 6 16])))))) (iS [aM 24 1,aM 25 5,aG 26 25,aP 27 .rem 3 24 26,aM 7 27] (.seq (.dreg (tA 1 29 (iM 5) (tA 2 30 (iM 7) (tA 3 31 (.sl 1 (.t 29) (some (.t 30)) none) (tA 5 33 (iM 5) (tA 6 34 (iM 7) (tA 7 35 (.sl 1 (.t 33) none (some (.t 34))) (tC 28 (wA1 []) [7,6,5,3,2,1] (tC 32 (wA7 28 31) [7,6,5] (tC 36 (wA7 32 35) [] (tA 9 4 (iM 36) .done) .stop) .stop) .stop)))))))) .ret))))))
theorem jfQ:fnC Tryz.prog Tryz.f69=some (jcJ,[.t 4],37):=by kernel_rfl
def jcQ:C:=iS [iA 4 (.mov (.c (.slice none 0 0)))] (iS [aM 7 0,iA 8 (.call 83 [.t 7,oI 0,oI 3]),aM 0 8] (iS [iA 5 (.mov (.c (.slice none 0 0)))] (.seq (iS [aN 6 0] (.blk 0 (.loop (.seq (iS [aM 9 6,aQ 10 .lss 3 9 3] (iD 10 .skip (.exit 0))) (.seq (.blk 1 (.reg [aM 13 5,aM 14 0,aQ 15 .add 3 14 1,aM 16 1,iA 17 (.mm true (.t 16) (oI 0)),aQ 18 .rem 3 17 3,aM 19 6,aP 20 .add 3 18 19,aQ 21 .rem 3 20 3,aP 22 .add 3 15 21,aQ 23 .rem 3 22 4,iA 24 (wAY [(0,1,.t 23)]),iA 25 (wA7 13 24),aM 5 25])) (.reg [aM 11 6,aQ 12 .add 3 11 1,aM 6 12])))))) (iS [aM 26 5,aM 4 26] .ret))))
theorem jfX:fnC Tryz.prog Tryz.f19=some (jcQ,[.t 4],27):=by kernel_rfl
def brI (n a b:Int):Int:=if b<a\/n<a then a else if n>b then b else n
theorem vM (n a b:Int):jZ Tryz.prog 134 [.c (.val (.int .i64 n)),.c (.val (.int .i64 a)),.c (.val (.int .i64 b))] (.c (.val (.int .i64 (brI n a b)))):=by
 refine jfH Tryz.func134 jiK (by simp) ?_
 unfold jfl;by_cases h1:b<a
 ·simp only [go_sem,h1]
  simp [brI,h1]
 ·by_cases h2:n<a
  ·simp only [go_sem,h1,h2]
   simp [brI,h1,h2]
  ·by_cases h3:b<n
   ·simp only [go_sem,h1,h2,h3]
    simp [brI,h1,h2,h3]
   ·simp only [go_sem,h1,h2,h3]
    simp [brI,h1,h2,h3]
theorem jmk (n a b:Int):jZ Tryz.prog 83 [.c (.val (.int .i64 n)),.c (.val (.int .i64 a)),.c (.val (.int .i64 b))] (.c (.val (.int .i64 (brI n a b)))):=by
 refine jfH Tryz.func83 jiX (by simp) ?_
 unfold jfy;by_cases h1:b<a
 ·simp only [go_sem,h1]
  simp [brI,h1]
 ·by_cases h2:n<a
  ·simp only [go_sem,h1,h2]
   simp [brI,h1,h2]
  ·simp only [go_sem,h1,h2]
   simp only [brI,h1,h2,or_self,if_false]
def ja9 (cL aOM:Int):List Int:=
 let h:=brI cL 0 3
 let k:=(if aOM<0 then 0 else aOM).tmod 3
 [(h+1+k.tmod 3).tmod 4,(h+1+(k+1).tmod 3).tmod 4,(h+1+(k+2).tmod 3).tmod 4]
theorem jFY (n:Int):brI n 0 3=0\/brI n 0 3=1\/brI n 0 3=2\/brI n 0 3=3:=by
 unfold brI;split
 ·omega
 ·split<;>omega
theorem jyL {n:Int} (h:0<=n):n.tmod 3=0\/n.tmod 3=1\/n.tmod 3=2:=by
 rw [aQA h];omega
theorem jsk (cL aOM h d:Int) (hh:brI cL 0 3=h) (hd:(if aOM<0 then 0 else aOM)=d) (hk:0<=h/\h<=3):(d.tmod 3=0->ja9 cL aOM=[(h+1).tmod 4,(h+2).tmod 4,(h+3).tmod 4])/\(d.tmod 3=1->ja9 cL aOM=[(h+2).tmod 4,(h+3).tmod 4,(h+1).tmod 4])/\(d.tmod 3=2->ja9 cL aOM=[(h+3).tmod 4,(h+1).tmod 4,(h+2).tmod 4]):=by
 have e1:h+1+1=h+2:=by omega
 have e2:h+1+2=h+3:=by omega
 have e0:h+1+0=h+1:=by omega
 refine ⟨λh3=>?_,λh3=>?_,λh3=>?_⟩<;>simp [ja9,hh,hd,h3,e0,e1,e2]
theorem jBq (n:Int):0<=brI n 0 3/\brI n 0 3<=3:=by have:=jFY n;omega
theorem jju (cL aOM:Int):jZ Tryz.prog 69 [.c (.val (.int .i64 cL)),.c (.val (.int .i64 aOM))] (.c (jc (ja9 cL aOM))):=by
 refine jfH Tryz.func69 jfQ (by simp) ?_
 unfold jcJ;simp only [go_sem];refine jw (vM cL 0 3) (by simp only [go_sem]) λη=>?_
 obtain ⟨d,hd,hdk⟩:∃d:Int,(if aOM<0 then 0 else aOM)=d/\0<=d:=⟨_,rfl,by split<;>omega⟩
 have hk:=jBq cL;have bO:=jsk cL aOM _ d rfl hd hk;have h3:=jyL hdk;generalize brI cL 0 3=h at*;have w1:IntKind.i64.wrap (h+1)=h+1:=jf7 _ (by omega) (by omega)
 have w2:IntKind.i64.wrap (h+2)=h+2:=jf7 _ (by omega) (by omega)
 have w3:IntKind.i64.wrap (h+3)=h+3:=jf7 _ (by omega) (by omega)
 obtain ⟨v0,v1,v2⟩:=bO;by_cases aV:aOM<0
 ·rw [if_pos aV] at hd
  subst hd;rw [v0 (by decide)]
  simp only [go_sem,aV];intro dF;refine jah 3 ?_;simp only [go_sem,jf7,w1,w2,w3,D.len,maxLen];intros;rfl
 ·rw [if_neg aV] at hd
  subst hd;rcases h3 with h3|h3|h3
  ·rw [v0 h3]
   simp only [go_sem,aV];intro dF;refine jah 3 ?_;simp only [go_sem,jf7,w1,w2,w3,D.len,maxLen,h3];intros;rfl
  ·rw [v1 h3]
   simp only [go_sem,aV];intro dF;refine jah 3 ?_;simp only [go_sem,jf7,w1,w2,w3,D.len,maxLen,h3];intros;rfl
  ·rw [v2 h3]
   simp only [go_sem,aV];intro dF;refine jah 3 ?_;simp only [go_sem,jf7,w1,w2,w3,D.len,maxLen,h3];intros;rfl
theorem jau (cL aOM:Int):jZ Tryz.prog 19 [.c (.val (.int .i64 cL)),.c (.val (.int .i64 aOM))] (.c (jc (ja9 cL aOM))):=by
 refine jfH Tryz.func19 jfX (by simp) ?_
 unfold jcQ;simp only [go_sem];refine jw (jmk cL 0 3) (by simp only [go_sem]) λη=>?_
 obtain ⟨d,hd,hdk⟩:∃d:Int,(if aOM<0 then 0 else aOM)=d/\0<=d:=⟨_,rfl,by split<;>omega⟩
 have hk:=jBq cL;have bO:=jsk cL aOM _ d rfl hd hk;have h3:=jyL hdk;generalize brI cL 0 3=h at*;have w1:IntKind.i64.wrap (h+1)=h+1:=jf7 _ (by omega) (by omega)
 have w0:IntKind.i64.wrap (h+1+0)=h+1:=by rw [jf7 _ (by omega) (by omega)];omega
 have w2:IntKind.i64.wrap (h+1+1)=h+2:=by rw [jf7 _ (by omega) (by omega)];omega
 have w3:IntKind.i64.wrap (h+1+2)=h+3:=by rw [jf7 _ (by omega) (by omega)];omega
 obtain ⟨v0,v1,v2⟩:=bO;rcases h3 with h3|h3|h3
 ·rw [v0 h3]
  simp only [go_sem];refine jah 3 ?_;simp only [go_sem,jf7,w0,w1,w2,w3,maxLen,hd,h3];intros;rfl
 ·rw [v1 h3]
  simp only [go_sem];refine jah 3 ?_;simp only [go_sem,jf7,w0,w1,w2,w3,maxLen,hd,h3];intros;rfl
 ·rw [v2 h3]
  simp only [go_sem];refine jah 3 ?_;simp only [go_sem,jf7,w0,w1,w2,w3,maxLen,hd,h3];intros;rfl
open Go.ChangeShapes Go.WideShapes Go.ChangeAt Go.RowKit
theorem own:ownKnob Tryz.prog.godebug=none:=by kernel_rfl
theorem laid:laidOutB Tryz.prog=true:=by kernel_rfl
section
variable {H:Type} {enc:TypeId×Value->H} {P:Program}
theorem jh8 {f:Func} {s:ChangeSpec} {apart jJ sE again:Bool} {W W':World} {args:Array Value} {v:Value} {ds gs:List (DataW H)} {before pa pv:List MemPlace}
 (hW:DataW.Whole enc P f.params.toList s.vars apart W args.toList ds gs before)
 (rS:∀(b:Nat) (sp:Nat->Bool) (hd:Bool),DataW.TrodAll enc P W' b sp hd f.resultTypes.toList (v.resultList f.resultTypes.size) (s.fn H (ds++gs)).results [])
 (cG:∀sp:Nat->Bool,(∀p∈before,sp p.block=true)->DataW.TrodAll enc P W' 0 sp true f.params.toList args.toList (s.fn H (ds++gs)).args pa)
 (sP:∀sp:Nat->Bool,(∀p∈before,sp p.block=true)->DataW.TrodVars enc P W' sp s.vars (s.fn H (ds++gs)).vars pv)
 (s8:before=pa++pv) (hb:Below W.heap.size W W')
 (aR:∀(j:Nat) (t:TypeId) (r:Value),f.resultTypes[j]?=some t->(v.resultList f.resultTypes.size)[j]?=some r->Value.okWide P W' .any 0 t r):
 s.post enc P f apart jJ sE again W args v W':=by
 have aB:∀p∈before,p.block<W.heap.size:=λp hp=>hW.lt p hp
 have oY:∀p∈before,(λb=>decide (b<W.heap.size)) p.block=true:=λp hp=>by simpa using aB p hp
 refine ⟨ds,gs,before,[],pa,pv,hW,rS _ _ _,cG _ oY,sP _ oY,World.keptBut_mono (λp hp=>⟨hp,?_⟩) (hb.frame (· ∈before)),λ_=>?_⟩
 ·rw [s8,aOX] at hp
  exact Or.inr hp
 ·obtain ⟨_,_,_,_,_,hz,hn⟩:=hW
  refine ⟨aR,_,_,([]++pa)++pv,⟨[]++pa,pv,trodAll_append (cG _ (λ_ _=>rfl)) (rS _ _ _),sP _ (λ_ _=>rfl),rfl,?_,?_⟩,?_⟩
  ·intro b off hp
   have cJ:MemPlace.cell b off∈before:=by rw [s8];simpa using hp
   rw [hb.frozen (aB _ cJ)];exact hz b off cJ
  ·intro ha
   have:=hn ha;rw [s8] at this;simpa using this
  ·intro p hp _
   rw [s8];simpa using hp
theorem jlW {t:TypeId} (hl:laidOutB P=true) (hr:P.readableRec t=true) (bD:t<P.types.size) {W W':World} {v:Value} {d:DataW H} {ps:List MemPlace} {sp:Nat->Bool}
 (h:DataW.Trod enc P W 0 (λ_=>true) true t v d ps) (hb:Below W.heap.size W W') (aB:∀x∈ps,x.block<W.heap.size) (gR:∀x∈ps,sp x.block=true):
 DataW.Trod enc P W' 0 sp true t v d ps:=
 WideElems.Trod_stays hl hr bD h (λx hx=>hb.same (aB x hx)) (λx hx=>gR x hx)
end
theorem jrx {H:Type} {enc:TypeId×Value->H} {P:Program} {t e:TypeId} {α:Type} {E:α->D} {X:α->Prop} (oC:ReadsAs P t (λx=>[E x]) X) (ht:P.underlying t=some (.slice e))
 {W:World} {v:Value} {d:DataW H} {p:List MemPlace} {base:Nat} {spare:Nat->Bool} {l4:Bool} {r:_root_.Go.Reach} {b0:Nat} (hv:Value.okWide P W r b0 t v) (h:DataW.Trod enc P W base spare l4 t v d p):
 ∃x,X x/\∃S,Rep W false (E x) v S:=by
 obtain ⟨a,len,cap,rfl⟩:=okWide_slice ht hv;obtain ⟨fuel,hf⟩:=h;obtain ⟨x,hx,S,hr⟩:=oC _ _ _ _ _ _ _ _ _ hf;obtain ⟨u,us,S1,S2,h1,rfl,h2,rfl,rfl⟩:=hr;have dG:[Value.slice a len cap]=[u]:=h1;cases dG;exact ⟨x,hx,S1,h2⟩
theorem jla {P:Program} {f:FuncId} {vs:List View} {args:List Value} {w:World} (h:jZ P f vs (.c (.val (.bool true)))) (hv:jag w vs args):
 Calls P f args.toArray w λe w'=>e=.returned (.bool true)/\Below w.heap.size w w':=
 (h.2 w args hv).mono λe w' ⟨v,S,he,hr,_,hb⟩=>⟨by rw [he,show v=_ from hr.1],hb⟩
