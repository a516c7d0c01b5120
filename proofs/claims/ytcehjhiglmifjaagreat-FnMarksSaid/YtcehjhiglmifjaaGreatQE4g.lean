/- Parts. -/
import Derived.Test.YtcehjhiglmifjaaGreatQE4e
import Derived.LoopN
import Derived.Test.YtcehjhiglmifjaaGreatProg
set_option linter.all false
set_option maxHeartbeats 2000000
set_option maxRecDepth 100000
namespace Go.Proofs.YtcehjhiglmifjaaGreat
open Go.RowKit Go.Sort
section
variable {P:Program} {β B N:Nat} {w w0:World} {s:St} {a:Act} {F:Nat->List Nat} {o:Oper} {K:St->Prop}
theorem OpOk.of_goes (h:RelF B w0 N s a w F) (hd:∀k,o.dst=some k->k<N) (hg:Goes P o a w (ku B w λav os=>K ((s.addO os).put o.dst av))):
 OpOk P o a w (λa' w'=>∃s' F',RelF B w0 N s' a' w' F'/\K s'):=by
 intro next Q hk;refine hg next Q λv w' ⟨av,os,S,h1,h2,h3,h4,h5⟩=>?_
 have hB:B<=w.heap.size:=aPC h.hB h.below.size
 obtain ⟨F',h6⟩:=(h.world h4).addO h2 (h3.mono hB) λg b hb aZ=>by
  have:=(h.ob g).lt b aZ;have:=h3.2 b hb;omega
 exact hk _ _ ⟨_,_,h6.put h1 hd,h5⟩
def jCy (P:Program) (o:Oper) (i:I):Prop:=∀{β B N:Nat} {w w0:World} {s:St} {a:Act} {F:Nat->List Nat} {K:St->Prop} {g:Option (Nat×Bool)},
 RelF B w0 N s a w F->(∀k,o.dst=some k->k<N)->vp P β ⟨o.dst,g,i⟩ s K->OpOk P o a w (λa' w'=>∃s' F',RelF B w0 N s' a' w' F'/\K s')
theorem jEk {c:Call} {i:I} (ho:o.op=.call c) (hc:joQ P c=some i):jCy P o i:=by
 intro β B N w w0 s a F K g h hd hr;unfold joQ at hc;split at hc
 ·rename_i x h1 h2
  split at hc
  ·rename_i x' h3 h4
   simp at hc;subst hc;obtain ⟨rt,hg⟩:=hr;exact .of_goes h hd (go_len (str:=true) h ho h1 h2 h3 h4 hg)
  ·rename_i e x' h3 h4
   simp at hc;subst hc;obtain ⟨rt,hg⟩:=hr;exact .of_goes h hd (go_len (str:=false) h ho h1 h2 ⟨_,h3⟩ h4 hg)
  ·simp at hc
 ·rename_i x y h1 h2
  split at hc
  ·rename_i t t' h3
   split at hc
   ·rename_i e e' h4 h5
    split at hc
    ·rename_i i' zs x' y' h6 h7 h8 h9
     split at hc
     ·rename_i lA
      simp at hc;subst hc;simp at lA;obtain ⟨gI,rfl⟩:=lA;exact jGg h ho h1 h2 h3 h4 h6 h7 gI h8 h9 hd hr
     ·simp at hc
    ·simp at hc
   ·rename_i e h4 h5
    split at hc
    ·rename_i i' x' y' h6 h7 h8 h9
     split at hc
     ·rename_i lA
      split at hc
      ·rename_i gI
       simp at hc;subst hc;simp at gI;exact jDG h ho h1 h2 h3 h4 h5 h7 lA gI.1 gI.2 h8 h9 hd hr
      ·simp at hc
     ·simp at hc
    ·simp at hc
   ·simp at hc
  ·simp at hc
 ·rename_i x h1 h2
  split at hc
  ·rename_i t h3
   split at hc
   ·rename_i e h4
    split at hc
    ·rename_i i' zs x' h6 h7 h8
     split at hc
     ·rename_i lA
      simp at hc;subst hc;exact jGd h ho h1 h2 h3 h4 h6 h7 lA h8 hr
     ·simp at hc
    ·simp at hc
   ·simp at hc
  ·simp at hc
 ·rename_i x y h1 h2
  split at hc
  ·rename_i x' y' h3 h4
   simp at hc;subst hc;obtain ⟨rt,hg⟩:=hr;exact .of_goes h hd (go_mm (mx:=true) h ho h1 h2 h3 h4 hg)
  ·simp at hc
 ·rename_i x y h1 h2
  split at hc
  ·rename_i x' y' h3 h4
   simp at hc;subst hc;obtain ⟨rt,hg⟩:=hr;exact .of_goes h hd (go_mm (mx:=false) h ho h1 h2 h3 h4 hg)
  ·simp at hc
 ·rename_i f h1
  split at hc
  ·rename_i fn l h3 h4
   split at hc
   ·simp at hc;subst hc
    rcases hr with ⟨rt,hg⟩|ht|ht
    ·exact .of_goes h hd (go_call h ho h1 h4 hg)
    ·exact jtn h (jdg (cs:=[]) ht.1 ho h1 rfl rfl) (by simpa using jkw (caps:=[]) (cs:=[]) h h4 rfl) hd ht
    ·exact jGc h (jdg (cs:=[]) ht.1 ho h1 rfl rfl) (by simpa using jkw (caps:=[]) (cs:=[]) h h4 rfl) hd ht
   ·simp at hc
  ·simp at hc
 ·rename_i t h1
  cases h2:zE c.args.toList with
  |none=>rw [h2] at hc;simp at hc
  |some l=>
   rw [h2] at hc;simp at hc;subst hc;rcases hr with ⟨rt,hg⟩|⟨f,caps,h0,ht⟩
   ·exact .of_goes h hd (go_callv h ho h1 h2 hg)
   ·have wV:=h.sl t
    rw [show s.t t=.fn f caps from h0] at wV
    obtain ⟨cs,k1,k2⟩:=wV;exact jtn h (jdg ht.1 ho h1 k1 rfl) (jkw h h2 k2) hd ht
 ·simp at hc
theorem jmL {lo hi:Option Operand} {n:Nat} {x:X} {i:I} (hc:(match lo.map jQ,hi.map jQ with
        |none,none=>some (I.sl n x none none)
        |some (some a),none=>some (.sl n x (some a) none)
        |none,some (some b)=>some (.sl n x none (some b))
        |some (some a),some (some b)=>some (.sl n x (some a) (some b))
        |_,_=>none)=some i):∃lo' nG,i=.sl n x lo' nG/\((lo=none/\lo'=none)\/∃y y',lo=some y/\lo'=some y'/\jQ y=some y')/\((hi=none/\nG=none)\/∃y y',hi=some y/\nG=some y'/\jQ y=some y'):=by
 cases lo<;>cases hi<;>simp only [Option.map_none,Option.map_some] at hc
 ·simp at hc;subst hc;exact ⟨_,_,rfl,.inl ⟨rfl,rfl⟩,.inl ⟨rfl,rfl⟩⟩
 ·split at hc<;>simp_all
 ·split at hc<;>simp_all
 ·split at hc<;>simp_all
theorem jGa {i:I} (hc:zA P o.op=some i):jCy P o i:=by
 intro β B N w w0 s a F K g h hd hr;cases ho:o.op with
 |move x=>
  simp only [ho,zA] at hc;cases h1:jQ x with
  |none=>simp [h1] at hc
  |some x'=>
   simp [h1] at hc;subst hc;obtain ⟨rt,hg⟩:=hr;exact .of_goes h hd (go_mov h (.inl ho) h1 hg)
 |assign x=>
  simp only [ho,zA] at hc;cases h1:jQ x with
  |none=>simp [h1] at hc
  |some x'=>
   simp [h1] at hc;subst hc;obtain ⟨rt,hg⟩:=hr;exact .of_goes h hd (go_mov h (.inr ho) h1 hg)
 |pick c x y=>
  simp only [ho,zA] at hc;split at hc
  ·rename_i c' x' y' h1 h2 h3
   simp at hc;subst hc;obtain ⟨rt,hg⟩:=hr;exact .of_goes h hd (go_pick h ho h1 h2 h3 hg)
  ·simp at hc
 |alloc e=>
  simp only [ho,zA] at hc;cases h1:vE P e with
  |none=>simp [h1] at hc
  |some z=>
   simp [h1] at hc;subst hc;obtain ⟨rt,hg⟩:=hr;exact .of_goes h hd (go_alloc h ho h1 hg)
 |box e x=>
  simp only [ho,zA] at hc;split at hc
  ·rename_i n x' h1 h2
   simp at hc;subst hc;exact jGf h ho h2 hd hr
  ·simp at hc
 |build t ps=>
  simp only [ho,zA] at hc;split at hc
  ·rename_i fs z h1 h2
   split at hc
   ·simp at hc
   ·rename_i h3
    simp only [Option.map_eq_some_iff] at hc;obtain ⟨ps',h4,rfl⟩:=hc;obtain ⟨rt,hg⟩:=hr;exact .of_goes h hd (go_bld h ho h1 h2 (by cases hq:(fs.toList.all λf=>(P.info? f.type).isSome) with|true=>rfl|false=>exact absurd (by rw [hq];rfl) h3) h4 hg)
  ·simp at hc
 |buildSlice t n ps=>
  simp only [ho,zA] at hc;split at hc
  ·rename_i e h1
   split at hc
   ·rename_i size h2
    split at hc
    ·rename_i h3
     simp only [Option.map_eq_some_iff] at hc;obtain ⟨ps',h4,rfl⟩:=hc;simp only [aOF,aOJ,aPV] at h3;obtain ⟨⟨⟨h5,h6⟩,h7⟩,h8⟩:=h3;obtain ⟨z,hz⟩:=Option.isSome_iff_exists.1 h6;exact jGe h ho h1 h2 h5 hz h7 h8 h4 hd hr
    ·simp at hc
   ·simp at hc
  ·simp at hc
 |load t x=>
  simp only [ho,zA] at hc;split at hc
  ·rename_i fs n x' h1 h2 h3
   simp at hc;subst hc;obtain ⟨rt,hg⟩:=hr;exact .of_goes h hd (go_ld h ho h1 rfl h2 h3 hg)
  ·simp at hc
  ·rename_i dsc x' d9 rM h1 h2 h3
   simp at hc;subst hc;obtain ⟨rt,hg⟩:=hr;refine .of_goes h hd (go_ld h ho h1 ?_ h2 h3 hg);cases dsc<;>simp_all [jEK]
  ·simp at hc
 |store t x y=>
  simp only [ho,zA] at hc;split at hc
  ·rename_i n x' y' h1 h2 h3
   simp at hc;subst hc;exact ok_st h ho h1 h2 h3 hr
  ·simp at hc
 |binOp op t x y t'=>
  simp only [ho,zA] at hc;split at hc
  ·rename_i x' y' h1 h2
   split at hc
   ·rename_i h3
    split at hc
    ·simp at hc;subst hc
     obtain ⟨rt,hg⟩:=hr;exact .of_goes h hd (go_beq (neg:=false) h ho h3 h1 h2 hg)
    ·simp at hc;subst hc
     obtain ⟨rt,hg⟩:=hr;exact .of_goes h hd (go_beq (neg:=true) h ho h3 h1 h2 hg)
    ·simp at hc
   ·simp at hc;subst hc
    obtain ⟨rt,hg⟩:=hr;exact .of_goes h hd (go_bin h ho h1 h2 hg)
   ·simp at hc
  ·simp at hc
 |unOp op t x=>
  simp only [ho,zA] at hc;cases h1:jQ x with
  |none=>simp [h1] at hc
  |some x'=>
   simp [h1] at hc;subst hc;obtain ⟨rt,hg⟩:=hr;exact .of_goes h hd (go_un h ho h1 hg)
 |convert t t' x=>
  simp only [ho,zA] at hc;split at hc
  ·rename_i k0 k x' h1 h2 h3
   simp at hc;subst hc;obtain ⟨rt,hg⟩:=hr;exact .of_goes h hd (go_num h ho h1 h2 h3 hg)
  ·rename_i e x' h1 h2 h3
   split at hc
   ·rename_i h4
    simp at hc;subst hc;obtain ⟨rt,hg⟩:=hr;exact .of_goes h hd (go_text h ho h1 h4 h2 h3 hg)
   ·simp at hc
  ·simp at hc
 |makeSlice t l c=>
  simp only [ho,zA] at hc;split at hc
  ·rename_i e l' c' h1 h2 h3
   split at hc
   ·rename_i i' z h4 h5
    split at hc
    ·rename_i h6
     simp at hc;subst hc;obtain ⟨rt,hg⟩:=hr;exact .of_goes h hd (go_mks h ho h1 h4 h5 h6 h2 h3 hg)
    ·simp at hc
   ·simp at hc
  ·simp at hc
 |slice t x lo hi m=>
  cases m with
  |some m=>simp [ho,zA] at hc
  |none=>
   simp only [ho,zA] at hc;split at hc
   ·rename_i e x' h1 h2
    split at hc
    ·rename_i n h3
     obtain ⟨lo',nG,rfl,h4,h5⟩:=jmL hc;obtain ⟨rt,hg⟩:=hr;exact .of_goes h hd (go_sl_ro h ho h1 h3 h2 h4 h5 hg)
    ·simp at hc
   ·rename_i x' h1 h2
    obtain ⟨lo',nG,rfl,h4,h5⟩:=jmL hc;obtain ⟨rt,hg⟩:=hr;exact .of_goes h hd (go_sl_str h ho h1 h2 h4 h5 hg)
   ·simp at hc
 |nilCheck x=>
  simp only [ho,zA,Option.map_eq_some_iff] at hc;obtain ⟨x',h1,rfl⟩:=hc;obtain ⟨rt,hg⟩:=hr;exact .of_goes h hd (go_nc h ho h1 hg)
 |fieldAddr t x f=>
  simp only [ho,zA] at hc;split at hc
  ·rename_i fs x' h1 h2
   split at hc
   ·rename_i fd h3
    split at hc
    ·rename_i n h4
     simp at hc;subst hc;obtain ⟨rt,hg⟩:=hr;exact .of_goes h hd (go_fa h ho h1 h3 h4 h2 hg)
    ·simp at hc
   ·simp at hc
  ·simp at hc
 |indexAddr t x j=>
  simp only [ho,zA] at hc;split at hc
  ·rename_i e x' j' h1 h2 h3
   split at hc
   ·rename_i n h4
    simp at hc;subst hc;obtain ⟨rt,hg⟩:=hr;exact .of_goes h hd (go_ia h ho h1 h4 h2 h3 hg)
   ·simp at hc
  ·simp at hc
 |index t x j=>
  simp only [ho,zA] at hc;split at hc
  ·rename_i x' j' h1 h2 h3
   simp at hc;subst hc;obtain ⟨rt,hg⟩:=hr;exact .of_goes h hd (go_sidx h ho h1 h2 h3 hg)
  ·simp at hc
 |extract x j=>
  simp only [ho,zA] at hc;cases h1:jQ x with
  |none=>simp [h1] at hc
  |some x'=>
   simp [h1] at hc;subst hc;obtain ⟨rt,hg⟩:=hr;exact .of_goes h hd (go_ext h ho h1 hg)
 |field t x f=>
  simp only [ho,zA] at hc;split at hc
  ·rename_i fs x' h1 h2
   split at hc
   ·rename_i fd h3
    split at hc
    ·rename_i n h4 h5
     simp at hc;subst hc;obtain ⟨rt,hg⟩:=hr;exact .of_goes h hd (go_fld h ho h1 h3 h4 rfl h5 h2 hg)
    ·simp at hc
    ·rename_i dsc h4 h5 h6 h7
     simp at hc;subst hc;obtain ⟨rt,hg⟩:=hr;exact .of_goes h hd (go_fld h ho h1 h3 h6 (by cases dsc<;>first|rfl|simp_all) h7 h2 hg)
    ·simp at hc
   ·simp at hc
  ·simp at hc
 |makeFunc fn first caps=>
  cases fn with
  |func f=>
   simp only [ho,zA] at hc;split at hc
   ·rename_i h1
    cases h2:zE caps.toList with
    |none=>simp [h2] at hc
    |some l=>
     simp [h2] at hc;subst hc;obtain ⟨rt,hg⟩:=hr;exact .of_goes h hd (go_mkf h ho (by simpa using h1) h2 hg)
   ·simp at hc
  |_=>simp [ho,zA] at hc
 |call c=>simp only [ho,zA] at hc;exact jEk ho hc h hd hr
 |_=>simp [ho,zA] at hc
def jsI (N:Nat) (ops:Array Oper) (g:Option (Nat×Bool)) (g':Option (Nat×Bool)):Prop:=match g with
 |none=>g'=none
 |some (j,want)=>∃t,(ops[j]?).bind (·.dst)=some t/\t<N/\g'=some (t,want)
theorem jkb (h:RelF B w0 N s a w F) {ops:Array Oper} {g':Option (Nat×Bool)} {b:Bool} (hg:jsI N ops o.guard g') (hw:zf s g'=some b):
 Region.wanted o (yielded ops a.tmps)=b:=by
 unfold Region.wanted;cases ho:o.guard with
 |none=>rw [ho] at hg;simp only [jsI] at hg;subst hg;simp [zf] at hw;simpa using hw
 |some p=>
  obtain ⟨j,want⟩:=p;rw [ho] at hg;obtain ⟨t,h1,h2,rfl⟩:=hg;have hv:=h.sl t;have aB:t<a.tmps.size:=by rw [h.sz];exact h2
  have he:a.tmps.getD t undef=a.tmps[t]:=by simp [Array.getD_eq_getD_getElem?,aB]
  rw [he] at hv;simp only [zf] at hw;simp only [yielded,h1,Option.bind_some,Array.getElem?_eq_getElem aB];split at hw
  ·rename_i b' hb
   rw [hb] at hv;rw [show a.tmps[t]=.bool b' from hv]
   simp at hw;subst hw;cases b'<;>cases want<;>rfl
  ·rename_i u hu hb
   rw [hb] at hv;have sL:a.tmps[t]=u:=hv;rw [sL];simp at hw;subst hw;cases u<;>simp_all
  ·simp at hw
theorem jt1 {ops:Array Oper} {i:Ins} (hc:jBp P N ops o=some i):i.d=o.dst/\zA P o.op=some i.i/\(∀k,o.dst=some k->k<N)/\jsI N ops o.guard i.g:=by
 unfold jBp at hc;split at hc
 ·rename_i j h1 h2
  have hd:∀k,o.dst=some k->k<N:=λk hk=>by rw [hk] at h2;simpa using h2
  cases hg:o.guard with
  |none=>rw [hg] at hc;simp at hc;subst hc;exact ⟨rfl,h1,hd,rfl⟩
  |some p=>
   obtain ⟨k,want⟩:=p;rw [hg] at hc;simp only at hc;split at hc
   ·rename_i t ht
    split at hc
    ·rename_i aB
     simp at hc;subst hc;exact ⟨rfl,h1,hd,t,ht,aB,rfl⟩
    ·simp at hc
   ·simp at hc
 ·simp at hc
theorem jr6 {ops:Array Oper} {Q:Exit->Act->World->Prop} (hQ:∀s a w F,RelF B w0 N s a w F->K s->Q .normal a w):∀{l:List Oper} {is:List Ins} {s:St} {a:Act} {w:World} {F:Nat->List Nat},
 jlw P N ops l=some is->RelF B w0 N s a w F->jhO P β is s K->wpList P ops Q l a w
 |[],is,s,a,w,F,hc,h,hr=>by simp [jlw] at hc;subst hc;exact hQ _ _ _ _ h hr
 |o::l,is,s,a,w,F,hc,h,hr=>by
  simp only [jlw] at hc;split at hc
  ·rename_i i r h1 h2
   simp at hc;subst hc;obtain ⟨e1,e2,e3,e4⟩:=jt1 h1;simp only [jhO] at hr;unfold wpList;split at hr
   ·rename_i hw
    rw [if_pos (jkb h e4 hw)];refine .inl (jGa e2 (g:=i.g) (K:=λs'=>jhO P β r s' K) h e3 (by rw [<-e1];exact hr) _ _ λa' w' ⟨s',F',h3,h4⟩=>jr6 hQ h2 h3 h4)
   ·rename_i hw
    rw [if_neg (by rw [jkb h e4 hw];simp)]
    rw [e1] at hr;exact jr6 hQ h2 (h.put (u:=undef) (v:=.c (.v undef)) rfl e3) hr
   ·exact hr.elim
  ·simp at hc
end
section
variable {P:Program} {β:Nat} {s s2:St}
theorem jtR {x:X} (h:∀n,x=.t n->s2.t n=s.t n):s2.ev x=s.ev x:=by
 cases x with
 |t n=>exact h n rfl
 |c v=>rfl
 |f n=>rfl
theorem zr {a:A0} {d:D} (ho:∀g∈a.ids,s2.o g=s.o g) (h:Is s a d):Is s2 a d:=by
 cases a with
 |h g c p x=>simp only [Is] at h⊢;rw [ho g (by simp [A0.ids])];exact h
 |hs g c p x sz lo n=>simp only [Is] at h⊢;rw [ho g (by simp [A0.ids])];exact h
 |_=>exact h
theorem jqn:∀{l:List A0} {ds:List D},(∀a∈l,∀g∈a.ids,s2.o g=s.o g)->IsL s l ds->IsL s2 l ds
 |[],[],_,_=>trivial
 |[],_::_,_,h=>h.elim
 |_::_,[],_,h=>h.elim
 |a::l,d::ds,ho,⟨h1,h2⟩=>⟨zr (ho a (by simp)) h1,jqn (λb hb=>ho b (by simp [hb])) h2⟩
theorem jfI {g b:Nat}:∀{l:List Cell} {c:Nat} {ds:List D},Ptr.go s g b l c ds->Ptr.go s2 g b l c ds
 |[],_,[],_=>trivial
 |[],_,_::_,h=>h.elim
 |.a _::_,_,[],h=>h.elim
 |.own _ _::_,_,[],h=>h.elim
 |.a x::l,c,d::ds,⟨h1,h2⟩=>⟨h1,jfI h2⟩
 |.own d' η::l,c,d::ds,⟨h1,h2⟩=>⟨h1,jfI h2⟩
theorem jpL {a:A0} {ds:List D} (ho:∀g∈a.ids,s2.o g=s.o g) (h:Ptr s a ds):Ptr s2 a ds:=by
 cases a with
 |bp g c b=>
  obtain ⟨ty,cs,h1,l,h2,h3⟩:=h;exact ⟨ty,cs,by rw [ho g (by simp [A0.ids])];exact h1,l,h2,jfI h3⟩
 |_=>exact h
theorem jmX:∀{l:List A0} {ds:List (List D)},(∀a∈l,∀g∈a.ids,s2.o g=s.o g)->jBD s l ds->jBD s2 l ds
 |[],[],_,_=>trivial
 |[],_::_,_,h=>h.elim
 |_::_,[],_,h=>h.elim
 |a::l,d::ds,ho,⟨h1,h2⟩=>⟨jpL (ho a (by simp)) h1,jmX (λb hb=>ho b (by simp [hb])) h2⟩
theorem jzo {a:AV} {v:View} (ho:s2.o=s.o) (h:jmB s a v):jmB s2 a v:=by
 cases a with
 |c x=>cases v with
  |c d=>exact zr (λg _=>by rw [ho]) h
  |ptr ds=>exact jpL (λg _=>by rw [ho]) h
  |_=>exact h.elim
 |agg l=>cases v with
  |agg ds=>exact jqn (λ_ _ g _=>by rw [ho]) h
  |_=>exact h.elim
 |fn f l=>cases v with
  |fn f' ds=>exact ⟨h.1,jmX (λ_ _ g _=>by rw [ho]) h.2⟩
  |_=>exact h.elim
 |_=>cases v<;>exact h.elim
theorem jiY:∀{l:List AV} {vs:List View},s2.o=s.o->zR s l vs->zR s2 l vs
 |[],[],_,_=>trivial
 |[],_::_,_,h=>h.elim
 |_::_,[],_,h=>h.elim
 |_::_,_::_,ho,⟨h1,h2⟩=>⟨jzo ho h1,jiY ho h2⟩
theorem jnh:∀{ps:List (Nat×Nat×X)} {cs:List A0},(∀x∈ps.map (·.2.2),s2.ev x=s.ev x)->jjC s2 cs ps=jjC s cs ps
 |[],_,_=>rfl
 |(off,size,x)::ps,cs,h=>by
  have h1:s2.ev x=s.ev x:=h x (by simp)
  simp only [jjC,h1];split
  ·split
   ·exact jnh λy hy=>h y (by simp at hy⊢;exact .inr hy)
   ·rfl
  ·rfl
theorem jqU:∀{ps:List (Nat×Nat×X)},(∀x∈ps.map (·.2.2),s2.ev x=s.ev x)->jvM s2 ps=jvM s ps
 |[],_=>rfl
 |(off,size,x)::ps,h=>by
  have h1:s2.ev x=s.ev x:=h x (by simp)
  have h2:jvM s2 ps=jvM s ps:=jqU λy hy=>h y (by simp at hy⊢;exact .inr hy)
  simp only [jvM,h1,h2]
theorem jnn:∀{l:List X},(∀x∈l,s2.ev x=s.ev x)->jcF s2 l=jcF s l
 |[],_=>rfl
 |x::l,h=>by
  have h1:s2.ev x=s.ev x:=h x (by simp)
  have h2:jcF s2 l=jcF s l:=jnn λy hy=>h y (by simp [hy])
  simp only [jcF,h1,h2]
theorem jaZ {x:Option X} {d n:Nat} (h:∀y,x=some y->s2.ev y=s.ev y) (hb:jhK s x d n):jhK s2 x d n:=by
 cases x with
 |none=>exact hb
 |some y=>obtain ⟨k,h1⟩:=hb;exact ⟨k,by rw [h y rfl];exact h1⟩
theorem jdw {l:List X} (h:∀x∈l,s2.ev x=s.ev x):l.map s2.ev=l.map s.ev:=List.map_congr_left h
theorem jqu {d:Nat} {rt:RT} {st:jzt} {i:I} {av:AV} {os:List (Nat×Ob)} (hx:∀x∈i.xs,s2.ev x=s.ev x) (ho:∀k∈i.looks s,jtD s s2 k) (hn:i.pureB=false->s2.o=s.o) (h:Gen P s d rt st i av os):Gen P s2 d rt st i av os:=by
 cases i with
 |mov x=>simp only [Gen] at h⊢;rw [hx x (by simp [I.xs])];exact h
 |pick c a b=>simp only [Gen] at h⊢;rw [hx c (by simp [I.xs]),hx a (by simp [I.xs]),hx b (by simp [I.xs])];exact h
 |box ty n x=>exact h
 |alloc ty zs=>exact h
 |bld zs ps=>simp only [Gen] at h⊢;rw [jnh (s:=s) (s2:=s2) λx bT=>hx x (by simpa [I.xs] using bT)];exact h
 |bsl e size n ks ps=>exact h
 |ld agg n x=>
  simp only [Gen] at h⊢;obtain ⟨l,h1,h2⟩:=h;refine ⟨l,?_,h2⟩;rw [hx x (by simp [I.xs])]
  have fL:∀k∈(s.ev x).looks n,jtD s s2 k:=ho;cases hv:s.ev x with
  |c a=>
   rw [hv] at h1 fL;cases a with
   |bp g c b=>
    have h3:juI g c n (s2.o g) (s.o g):=fL (.cs g c n) (by simp [AV.looks,A0.looks])
    obtain ⟨ty,cs,k1,k2,k3⟩:=h1;rw [k1] at h3;cases h4:s2.o g with
    |box b' ty' cs'=>
     rw [h4] at h3;obtain ⟨rfl,rfl,e3,e4⟩:=h3;exact ⟨_,_,h4,by omega,by rw [e4];exact k3⟩
    |none=>rw [h4] at h3;cases h3
    |loose d η=>rw [h4] at h3;cases h3
   |ep g c p k y=>
    have h3:s2.o g=s.o g:=fL (.ob g) (by simp [AV.looks,A0.looks])
    simp only [jaw] at h1⊢;rw [h3];exact h1
   |_=>exact h1
  |_=>rw [hv] at h1;exact h1
 |st n ks a x=>exact h
 |fa off x=>simp only [Gen] at h⊢;rw [hx x (by simp [I.xs])];exact h
 |ia size x i=>
  simp only [Gen] at h⊢;have fL:∀g∈(s.ev x).ids,s2.o g=s.o g:=λg hg=>ho (.ob g) (aPS.2 ⟨g,hg,rfl⟩)
  rw [hx x (by simp [I.xs]),hx i (by simp [I.xs])]
  obtain ⟨k,n,h1,h2,h3,h4⟩:=h;refine ⟨k,n,h1,h2,?_,h4⟩;cases hv:s.ev x with
  |c a=>
   rw [hv] at h3 fL;cases a with
   |h g c p y=>obtain ⟨⟨dd,k1,k2⟩,k3⟩:=h3;exact ⟨⟨dd,zr fL (by exact k1),k2⟩,k3⟩
   |hs g c p y sz lo m=>obtain ⟨⟨dd,k1⟩,k3⟩:=h3;exact ⟨⟨dd,zr fL (by exact k1)⟩,k3⟩
   |_=>exact h3
  |_=>rw [hv] at h3;exact h3
 |sidx x i=>simp only [Gen] at h⊢;rw [hx x (by simp [I.xs]),hx i (by simp [I.xs])];exact h
 |bin op ty x y=>simp only [Gen] at h⊢;rw [hx x (by simp [I.xs]),hx y (by simp [I.xs])];exact h
 |beq neg x y=>simp only [Gen] at h⊢;rw [hx x (by simp [I.xs]),hx y (by simp [I.xs])];exact h
 |un op x=>simp only [Gen] at h⊢;rw [hx x (by simp [I.xs])];exact h
 |cv c e x=>
  simp only [Gen] at h⊢;have fL:∀g∈(s.ev x).ids,s2.o g=s.o g:=λg hg=>ho (.ob g) (aPS.2 ⟨g,hg,rfl⟩)
  rw [hx x (by simp [I.xs])]
  cases c with
  |text=>
   obtain ⟨⟨a,ty,bs,h1,h2,h3⟩,h4⟩:=h;rw [h1] at fL;exact ⟨⟨a,ty,bs,h1,zr fL h2,h3⟩,h4⟩
  |_=>exact h
 |len str x=>
  simp only [Gen] at h⊢;have fL:∀g∈(s.ev x).ids,s2.o g=s.o g:=λg hg=>ho (.ob g) (aPS.2 ⟨g,hg,rfl⟩)
  obtain ⟨n,h1,h2⟩:=h;refine ⟨n,?_,h2⟩;rw [hx x (by simp [I.xs])]
  cases hv:s.ev x with
  |c a=>
   rw [hv] at h1 fL;cases a with
   |h g c p y=>
    cases str with
    |true=>exact h1
    |false=>obtain ⟨dd,k1,k2⟩:=h1;exact ⟨dd,zr fL (by exact k1),k2⟩
   |hs g c p y sz lo m=>
    cases str with
    |true=>exact h1
    |false=>obtain ⟨⟨dd,k1⟩,k2⟩:=h1;exact ⟨⟨dd,zr fL (by exact k1)⟩,k2⟩
   |v u=>cases str<;>cases u<;>first|exact h1|(rename_i a l c;cases a<;>cases l<;>cases c<;>exact h1)
   |_=>cases str<;>exact h1
  |_=>rw [hv] at h1;cases str<;>exact h1
 |app e size bytes x y=>exact h
 |apps e x y=>exact h
 |clr size zs x=>exact h
 |mm mx x y=>simp only [Gen] at h⊢;rw [hx x (by simp [I.xs]),hx y (by simp [I.xs])];exact h
 |mks e size bytes zs l c=>simp only [Gen] at h⊢;rw [hx l (by simp [I.xs]),hx c (by simp [I.xs])];exact h
 |sl size x lo hi=>
  simp only [Gen] at h⊢;have fL:∀g∈(s.ev x).ids,s2.o g=s.o g:=λg hg=>ho (.ob g) (aPS.2 ⟨g,hg,rfl⟩)
  have sU:∀y,lo=some y->s2.ev y=s.ev y:=λy hy=>hx y (by simp [I.xs,hy])
  have oW:∀y,hi=some y->s2.ev y=s.ev y:=λy hy=>hx y (by simp [I.xs,hy])
  rw [hx x (by simp [I.xs])]
  obtain ⟨l,hh,h1,h2,h3,h4⟩:=h;refine ⟨l,hh,jaZ sU h1,h2,?_,h4⟩;cases hv:s.ev x with
  |c a=>
   rw [hv] at h3 fL;cases a with
   |v u=>
    cases u with
    |string b=>exact ⟨h3.1,jaZ oW h3.2.1,h3.2.2⟩
    |_=>exact h3
   |ro dd=>exact ⟨h3.1,h3.2.1,h3.2.2.1,jaZ oW h3.2.2.2.1,h3.2.2.2.2⟩
   |h g c p y=>obtain ⟨k0,⟨dd,k1,k2,k3,k4⟩,k5⟩:=h3;exact ⟨k0,⟨dd,zr fL (by exact k1),k2,jaZ oW k3,k4⟩,k5⟩
   |hs g c p y sz lo m=>obtain ⟨⟨dd,k1⟩,k2,k3,k4⟩:=h3;exact ⟨⟨dd,zr fL (by exact k1)⟩,k2,jaZ oW k3,k4⟩
   |_=>exact h3
  |_=>rw [hv] at h3;exact h3
 |ext x i=>simp only [Gen] at h⊢;rw [hx x (by simp [I.xs])];exact h
 |fld agg off n x=>simp only [Gen] at h⊢;rw [hx x (by simp [I.xs])];exact h
 |mkf f caps=>simp only [Gen] at h⊢;rw [jnn (s:=s) (s2:=s2) λx bT=>hx x (by simpa [I.xs] using bT)];exact h
 |call f args=>
  simp only [Gen] at h⊢;rw [jdw (s:=s) (s2:=s2) λx bT=>hx x (by simpa [I.xs] using bT)]
  obtain ⟨vs,h1,h2⟩:=h;exact ⟨vs,jiY (hn rfl) h1,h2⟩
 |callv x args=>
  simp only [Gen] at h⊢;rw [jdw (s:=s) (s2:=s2) (l:=args) λy hy=>hx y (by simp [I.xs,hy]),hx x (by simp [I.xs])]
  obtain ⟨f,caps,vs,h0,h1,h2⟩:=h;exact ⟨f,caps,vs,h0,jiY (hn rfl) h1,h2⟩
theorem jr5 {i:I} (hx:∀x∈i.xs,s2.ev x=s.ev x):i.looks s2=i.looks s:=by
 cases i<;>first|rfl|(simp only [I.looks];rw [hx _ (by simp [I.xs])])
theorem jAY {d d':Nat} {rt rt':RT} {st st':jzt} {i:I} {av:AV} {os:List (Nat×Ob)} (hp:i.pureB=true) (h:Gen P s d rt st i av os):Gen P s d' rt' st' i av []/\os=[]:=by
 cases i<;>first|cases hp|skip
 case mov=>obtain ⟨h1,rfl⟩:=h;exact ⟨⟨h1,rfl⟩,rfl⟩
 case pick=>obtain ⟨t,h1,h2,rfl⟩:=h;exact ⟨⟨t,h1,h2,rfl⟩,rfl⟩
 case bld=>obtain ⟨t,h1,h2,rfl⟩:=h;exact ⟨⟨t,h1,h2,rfl⟩,rfl⟩
 case ld=>obtain ⟨t,h1,h2,rfl⟩:=h;exact ⟨⟨t,h1,h2,rfl⟩,rfl⟩
 case fa=>obtain ⟨h1,rfl⟩:=h;exact ⟨⟨h1,rfl⟩,rfl⟩
 case ia=>obtain ⟨k,n,h1,h2,h3,rfl⟩:=h;exact ⟨⟨k,n,h1,h2,h3,rfl⟩,rfl⟩
 case sidx=>obtain ⟨b,k,n,u,h1,h2,h3,h4,h5,rfl⟩:=h;exact ⟨⟨b,k,n,u,h1,h2,h3,h4,h5,rfl⟩,rfl⟩
 case bin=>obtain ⟨h1,rfl⟩:=h;exact ⟨⟨h1,rfl⟩,rfl⟩
 case beq=>obtain ⟨a,b,h1,h2,h3,rfl⟩:=h;exact ⟨⟨a,b,h1,h2,h3,rfl⟩,rfl⟩
 case un=>obtain ⟨h1,rfl⟩:=h;exact ⟨⟨h1,rfl⟩,rfl⟩
 case cv=>obtain ⟨h1,rfl⟩:=h;exact ⟨⟨h1,rfl⟩,rfl⟩
 case len=>obtain ⟨n,h1,h2,rfl⟩:=h;exact ⟨⟨n,h1,h2,rfl⟩,rfl⟩
 case mm=>obtain ⟨k,k',a,b,h1,h2,h3,rfl⟩:=h;exact ⟨⟨k,k',a,b,h1,h2,h3,rfl⟩,rfl⟩
 case sl=>obtain ⟨l,hh,h1,h2,h3,rfl⟩:=h;exact ⟨⟨l,hh,h1,h2,h3,rfl⟩,rfl⟩
 case ext=>obtain ⟨l,b,az,h1,h2,h3,rfl⟩:=h;exact ⟨⟨l,b,az,h1,h2,h3,rfl⟩,rfl⟩
 case fld=>obtain ⟨l,h1,h2,h3,rfl⟩:=h;exact ⟨⟨l,h1,h2,h3,rfl⟩,rfl⟩
 case mkf=>obtain ⟨l,h1,h2,rfl⟩:=h;exact ⟨⟨l,h1,h2,rfl⟩,rfl⟩
theorem jkO {i:Ins} (hp:i.i.pureB=true) {K:St->Prop}:vp P β i s K=(∃rt,∀st,∃av os,Gen P s (β+i.d.getD 0) rt st i.i av os/\K ((s.addO os).put i.d av)):=by
 obtain ⟨d,g,i⟩:=i;cases i<;>first|rfl|cases hp
theorem Turns.mono {f:FuncId} {args:List AV} {o:Nat->Ob} {R R':RT->(Nat->Ob)->Prop} (h:∀rt o',R rt o'->R' rt o') (ht:Turns P f args o R):Turns P f args o R':=
 ⟨ht.1,λB w F xs h1 h2=>(ht.2 B w F xs h1 h2).mono λe w' ⟨v,rt,o',S,F',k1,k2,k3,k4,k5,k6⟩=>⟨v,rt,o',S,F',k1,k2,k3,k4,k5,h _ _ k6⟩⟩
theorem Inl.mono {f:FuncId} {args:List AV} {o:Nat->Ob} {R R':AV->(Nat->Ob)->Prop} (h:∀av o',R av o'->R' av o') (ht:Inl P f args o R):Inl P f args o R':=
 ⟨ht.1,λB w F xs h1 h2=>(ht.2 B w F xs h1 h2).mono λe w' ⟨v,av,o',F',k1,k2,k3,k4⟩=>⟨v,av,o',F',k1,k2,k3,h _ _ k4⟩⟩
theorem jw2 {i:Ins} {d:Option Nat} {v:AV} {K K':St->Prop} (hd:∀k,d=some k->(∀x∈i.i.xs,x≠.t k)/\i.d≠some k) (h:∀s2:St,(∀n,i.d≠some n->s2.t n=s.t n)->K (s2.put d v)->K' s2) (hr:vp P β i (s.put d v) K):vp P β i s K':=by
 obtain ⟨id,ig,i⟩:=i;simp only at hd
 have fU:∀x∈i.xs,(s.put d v).ev x=s.ev x:=λx hx=>by
  cases d with
  |none=>rfl
  |some k=>
   refine jtR λn hn=>?_
   have:=(hd k rfl).1 x hx;show (if n=k then v else s.t n)=s.t n
   rw [if_neg λe=>this (by rw [hn,e])]
 have ho:(s.put d v).o=s.o:=by cases d<;>rfl
 have cK:∀(s1:St) (os:List (Nat×Ob)) (av:AV),s1.t=s.t->K ((((s1.put d v).addO os)).put id av)->K' ((s1.addO os).put id av):=λs1 os av h1 hk=>by
  have e1:∀(os:List (Nat×Ob)) (s1:St),(s1.put d v).addO os=(s1.addO os).put d v:=by
   intro os
   induction os with
   |nil=>intro s1;rfl
   |cons p os ih=>
    intro s1;obtain ⟨g,ob⟩:=p;show ((s1.put d v).setO g ob).addO os=((s1.setO g ob).addO os).put d v;rw [<-ih]
    congr 1
    cases d<;>rfl
  have e2:∀s1:St,(s1.put d v).put id av=(s1.put id av).put d v:=λs1=>by
   cases d with
   |none=>rfl
   |some k=>
    cases id with
    |none=>rfl
    |some j=>
     have aJ:j≠k:=λe=>(hd k rfl).2 (by rw [e])
     simp only [St.put,St.mk.injEq,and_true]
     funext n
     by_cases h1:n=j<;>by_cases h2:n=k<;>simp_all
  have e3:∀(os:List (Nat×Ob)) (s1:St),(s1.addO os).t=s1.t:=by
   intro os
   induction os with
   |nil=>intro s1;rfl
   |cons p os ih=>intro s1;obtain ⟨g,ob⟩:=p;show ((s1.setO g ob).addO os).t=_;rw [ih];rfl
  rw [e1,e2] at hk;refine h _ (λn hn=>?_) hk
  cases id with
  |none=>show (s1.addO os).t n=_;rw [e3,h1]
  |some j=>
   show (if n=j then av else (s1.addO os).t n)=_
   rw [if_neg λe=>hn (by rw [e]),e3,h1]
 have uI:∀j:I,(∀x∈j.xs,(s.put d v).ev x=s.ev x)->(∃rt,∀st,∃av os,Gen P (s.put d v) (β+id.getD 0) rt st j av os/\K (((s.put d v).addO os).put id av))->
  ∃rt,∀st,∃av os,Gen P s (β+id.getD 0) rt st j av os/\K' ((s.addO os).put id av):=λj hj ⟨rt,hg⟩=>⟨rt,λst=>by
  obtain ⟨av,os,h1,h2⟩:=hg st;exact ⟨av,os,jqu (λx hx=>(hj x hx).symm) (λg _=>jx0) (λ_=>ho.symm) h1,cK s os av rfl h2⟩⟩
 have gY:∀{l:List A0} {s1:St} {R R':List Cell->St->Prop},s1.t=s.t->(∀cs s2,s2.t=s.t->R cs (s2.put d v)->R' cs s2)->qz (s1.put d v) l R->qz s1 l R':=by
  intro l
  induction l with
  |nil=>intro s1 R R' h1 h2 hk;exact h2 _ _ h1 hk
  |cons x l ih=>
   intro s1 R R' h1 h2 hk;have plain:∀a:A0,qz (s1.put d v) l (λcs s'=>R (.a a::cs) s')->qz s1 l (λcs s'=>R' (.a a::cs) s'):=λa hk=>ih h1 (λcs s2 h3=>h2 _ s2 h3) hk
   cases x with
   |h g c p x=>
    obtain ⟨k1,d0,η,k2,k3,k4⟩:=hk;have rL:(s1.put d v).o=s1.o:=by cases d<;>rfl
    have rH:(s1.put d v).rm g c=(s1.rm g c).put d v:=by cases d<;>rfl
    rw [rL] at k2;rw [rH] at k4;exact ⟨k1,d0,η,k2,k3,ih (by exact h1) (λcs s2 h3=>h2 _ s2 h3) k4⟩
   |_=>exact ⟨hk.1,plain _ hk.2⟩
 have tF:∀{e size:Nat} {a:AV} {s1:St} {R R':List D->St->Prop},s1.t=s.t->(∀cs s2,s2.t=s.t->R cs (s2.put d v)->R' cs s2)->jf5 (s1.put d v) e size a R->jf5 s1 e size a R':=by
  intro e size a s1 R R' h1 h2 hk;unfold jf5 at hk⊢;split
  ·exact h2 _ _ h1 hk
  ·have rL:(s1.put d v).o=s1.o:=by cases d<;>rfl
   rw [rL] at hk;have rH:∀g c,(s1.put d v).rm g c=(s1.rm g c).put d v:=λg c=>by cases d<;>rfl
   have aH:∀g ob,(s1.put d v).setO g ob=(s1.setO g ob).put d v:=λg ob=>by cases d<;>rfl
   rcases hk with ⟨k1,cs,η,k2,k3,k4⟩|⟨k,k1,sz,tyo,ds0,cs,η,k2,k3,k4,k5⟩
   ·rw [rH] at k4
    exact .inl ⟨k1,cs,η,k2,k3,h2 _ _ h1 k4⟩
   ·refine .inr ⟨k,k1,sz,tyo,ds0,cs,η,k2,k3,k4,λaC hη=>?_⟩
    have k6:=k5 aC hη;rw [aH] at k6;exact h2 _ _ h1 k6
  ·simp_all
 have lL:∀{size:Nat} {a:AV} {s1:St} {R R':List D->St->Prop},s1.t=s.t->(∀cs s2,s2.t=s.t->R cs (s2.put d v)->R' cs s2)->jzu (s1.put d v) size a R->jzu s1 size a R':=by
  intro size a s1 R R' h1 h2 hk;have rL:(s1.put d v).o=s1.o:=by cases d<;>rfl
  unfold jzu at hk⊢;split
  ·exact h2 _ _ h1 hk
  ·obtain ⟨k1,k2,k3,k4⟩:=hk;exact ⟨k1,k2,k3,h2 _ _ h1 k4⟩
  ·obtain ⟨dd,k1,k2,k3,k4⟩:=hk;exact ⟨dd,zr (λg _=>by rw [rL]) k1,k2,k3,h2 _ _ h1 k4⟩
  ·obtain ⟨dd,k1,k2,k3⟩:=hk
   refine ⟨dd,zr (λg _=>by rw [rL]) k1,k2,?_⟩
   have rH:∀g c,(s1.put d v).rm g c=(s1.rm g c).put d v:=λg c=>by cases d<;>rfl
   split
   ·rw [if_pos (by assumption)] at k3;exact h2 _ _ h1 k3
   ·rw [if_neg (by assumption),rH] at k3;exact ⟨k3.1,k3.2.1,h2 _ _ (by exact h1) k3.2.2⟩
  ·simp_all
 cases i with
 |box ty n x=>
  obtain ⟨l,h1,h2,h3⟩:=hr;rw [fU x (by simp [I.xs])] at h1
  exact ⟨l,h1,h2,gY rfl (λcs s2 h4 h5 b=>cK s2 _ _ h4 (h5 b)) h3⟩
 |bsl e size n ks ps=>
  obtain ⟨l,h1,h3⟩:=hr;rw [jqU (s:=s) λx hx=>fU x (by simpa [I.xs] using hx)] at h1
  exact ⟨l,h1,gY rfl (λcs s2 h4 ⟨ds,h5,h6⟩=>⟨ds,h5,λη=>cK s2 _ _ h4 (h6 η)⟩) h3⟩
 |st n ks a x=>
  obtain ⟨h0,l,h1,h2,h3⟩:=hr;simp only at h0;subst h0;rw [fU x (by simp [I.xs])] at h1
  rw [fU a (by simp [I.xs])] at h3
  refine ⟨rfl,l,h1,h2,gY rfl (λcs s2 h4 h5=>?_) h3⟩
  have sQ:(s2.put d v).o=s2.o:=by cases d<;>rfl
  have fM:∀g ob,K ((s2.put d v).setO g ob)->K' (s2.setO g ob):=λg ob hk=>cK s2 [(g,ob)] (.unk) h4 hk
  split at h5
  ·obtain ⟨ty,ds,k1,k2,k3⟩:=h5
   rw [sQ] at k1;exact ⟨ty,ds,k1,k2,fM _ _ k3⟩
  ·obtain ⟨k0,ds,k1,d0,η,dd,k2,k3,k4,k5,k6,k7⟩:=h5
   rw [sQ] at k2 k7;exact ⟨k0,ds,k1,d0,η,dd,k2,k3,k4,k5,k6,jsW (λaC hk=>fM _ _ hk) k7⟩
  ·exact h5.elim
 |app e size bytes x y=>
  have bH:=hr;simp only [vp] at bH⊢;rw [fU x (by simp [I.xs]),fU y (by simp [I.xs])] at bH
  exact lL rfl (λys s1 h1 hk=>tF h1 (λxs s2 h2 ⟨k1,k2,k3⟩=>⟨k1,k2,λη=>cK s2 _ _ h2 (k3 η)⟩) hk) bH
 |apps e x y=>
  obtain ⟨b,h1,h2⟩:=hr;rw [fU y (by simp [I.xs])] at h1
  rw [fU x (by simp [I.xs])] at h2
  exact ⟨b,h1,tF rfl (λxs s2 h2 ⟨k1,k3⟩=>⟨k1,λη=>cK s2 _ _ h2 (k3 η)⟩) h2⟩
 |clr size zs x=>
  obtain ⟨h0,h3⟩:=hr;simp only at h0;subst h0;rw [fU x (by simp [I.xs])] at h3
  refine ⟨rfl,?_⟩;split at h3
  ·exact cK s [] .unk rfl h3
  ·obtain ⟨k0,k1,d0,η,dd,k2,k3,k4,k5,k6,k7,k8⟩:=h3
   rw [ho] at k2 k8;exact ⟨k0,k1,d0,η,dd,k2,k3,k4,k5,k6,k7,jsW (λaC hk=>cK s [(_,_)] .unk rfl hk) k8⟩
  ·exact h3.elim
 |call f args=>
  rcases hr with hg|ht|ht
  ·exact .inl (uI _ fU hg)
  ·right;left
   rw [jdw (s:=s) λx hx=>fU x (by simpa [I.xs] using hx),ho] at ht
   refine ht.mono λrt o' hR η=>?_
   have:=hR η;exact cK ⟨s.t,o'⟩ _ _ rfl (by cases d<;>exact this)
  ·right;right
   rw [jdw (s:=s) λx hx=>fU x (by simpa [I.xs] using hx),ho] at ht
   refine ht.mono λav o' hR=>?_
   exact cK ⟨s.t,o'⟩ [] av rfl (by cases d<;>exact hR)
 |callv x args=>
  rcases hr with hg|⟨f,caps,h0,ht⟩
  ·exact .inl (uI _ fU hg)
  ·right
   rw [fU x (by simp [I.xs])] at h0
   rw [jdw (s:=s) (l:=args) λy hy=>fU y (by simp [I.xs,hy]),ho] at ht
   refine ⟨f,caps,h0,ht.mono λrt o' hR η=>?_⟩
   have:=hR η;exact cK ⟨s.t,o'⟩ _ _ rfl (by cases d<;>exact this)
 |_=>exact uI _ fU hr
theorem jgj {i:Ins} {K K':St->Prop} (h:∀s,K s->K' s) (hr:vp P β i s K):vp P β i s K':=
 jw2 (d:=none) (v:=.unk) (λk hk=>by cases hk) (λs2 _ hk=>h s2 hk) hr
end
inductive Reach (ops:Array Oper):Nat->Nat->Prop where
 |one {j i:Nat} {o:Oper} {e:Edge} (hj:ops[j]?=some o) (he:e∈o.after) (hb:Region.binds .any e=true) (hi:e.on=i):Reach ops j i
 |more {j i:Nat} {o:Oper} {e:Edge} (hj:ops[j]?=some o) (he:e∈o.after) (hb:Region.binds .any e=true) (hi:Reach ops e.on i):Reach ops j i
theorem Reach.trans {ops:Array Oper} {j i k:Nat} (h:Reach ops j i) (h2:Reach ops i k):Reach ops j k:=by
 induction h with
 |one hj he hb hi=>subst hi;exact .more hj he hb h2
 |more hj he hb _ ih=>exact .more hj he hb (ih h2)
theorem jlX {ops:Array Oper} {j0:Nat}:∀{n:Nat} {seen todo:List Nat},(∀x∈seen,Reach ops j0 x)->(∀x∈todo,x=j0\/Reach ops j0 x)->∀x∈jEF ops n seen todo,Reach ops j0 x
 |0,_,_,h,_,x,hx=>h x (by simpa [jEF] using hx)
 |n+1,_,[],h,_,x,hx=>h x (by simpa [jEF] using hx)
 |n+1,seen,j::todo,h,h2,x,hx=>by
  simp only [jEF] at hx;split at hx
  ·rename_i o ho
   have cD:∀y∈(o.after.toList.filter λe=>Region.binds .any e&&!seen.contains e.on).map (·.on),Reach ops j0 y:=by
    intro y hy;obtain ⟨e,he,rfl⟩:=aPS.1 hy;obtain ⟨mU,cC⟩:=aPM.1 he
    have hb:Region.binds .any e=true:=by
     cases hq:Region.binds .any e with
     |true=>rfl
     |false=>rw [hq] at cC;simp at cC
    have h1:Reach ops j e.on:=.one ho (by simpa using mU) hb rfl
    rcases h2 j (by simp) with rfl|h3
    ·exact h1
    ·exact h3.trans h1
   refine jlX (n:=n) ?_ ?_ x hx
   ·intro y hy
    rcases aNT.1 hy with hy|hy
    ·exact cD y hy
    ·exact h y hy
   ·intro y hy
    rcases aNT.1 hy with hy|hy
    ·exact .inr (cD y hy)
    ·exact h2 y (by simp [hy])
  ·exact jlX (n:=n) h (λy hy=>h2 y (by simp [hy])) x hx
theorem jri {ops:Array Oper} {n j i:Nat} (h:jpa ops n j i=true):Reach ops j i:=by
 unfold jpa at h;rw [List.contains_iff_mem] at h;exact jlX (by simp) (by simp) i h
def Closed (ops:Array Oper) (listed:Array Bool):Prop:=∀(k:Nat) (o:Oper),ops[k]?=some o->listed.getD k false=true->∀e∈o.after,Region.binds .any e=true->listed.getD e.on false=true
theorem Closed.reach {ops:Array Oper} {listed:Array Bool} (h:Closed ops listed):∀{j i:Nat},Reach ops j i->(∀(o:Oper),ops[j]?=some o->∀e∈o.after,Region.binds .any e=true->listed.getD e.on false=true)->listed.getD i false=true:=by
 intro j i hr
 induction hr with
 |one hj he hb hi=>intro hl;subst hi;exact hl _ hj _ he hb
 |more hj he hb _ ih=>intro hl;exact ih λo ho e' eZ aZ=>h _ o ho (hl _ hj _ he hb) e' eZ aZ
theorem Closed.add {ops:Array Oper} {listed:Array Bool} {j:Nat} (h:Closed ops listed) (hj:j∈Region.ready .any ops listed):Closed ops (listed.setIfInBounds j true):=by
 intro k o ho hk e he hb;obtain ⟨_,oj,uD,cX⟩:=mem_ready.1 hj;by_cases hkj:k=j
 ·subst hkj
  rw [ho] at uD;cases uD;exact getD_set_true (cX e he hb)
 ·rw [getD_set_ne false (Ne.symm hkj)] at hk
  exact getD_set_true (h k o ho hk e he hb)
theorem jD6 {listed:Array Bool} {i:Nat} (h:listed.getD i true=false):listed.getD i false=false:=by
 rcases Nat.lt_or_ge i listed.size with h'|h'
 ·simpa [h'] using h
 ·simp [Array.getElem?_eq_none h'] at h
section
variable {P:Program} {β N:Nat} {ops:Array Oper} {is:List Ins} {Q:St->Prop}
def jjE (P:Program) (β:Nat) (is:List Ins) (j:Nat) (K:St->Prop) (s:St):Prop:=match is[j]? with
 |none=>False
 |some i=>match zf s i.g with
  |some true=>vp P β i s K
  |some false=>K (s.put i.d (.c (.v undef)))
  |none=>False
def jDT (ops:Array Oper) (j:Nat) (l:List (Nat×List Lk)) (s s':St):Prop:=∀p∈l,¬Reach ops j p.1->∀k∈p.2,jtD s s' k
def jyG (P:Program) (β:Nat) (ops:Array Oper) (is:List Ins) (Q:St->Prop):Nat->List (Nat×List Lk)->Array Bool->St->Prop
 |0,_,listed,s=>Region.ready .any ops listed=[]/\Q s
 |f+1,l,listed,s=>(Region.ready .any ops listed=[]->Q s)/\∀j∈Region.ready .any ops listed,jjE P β is j (λs'=>jDT ops j l s s'/\jyG P β ops is Q f l (listed.setIfInBounds j true) s') s
theorem jnj {j:Nat} {K K':St->Prop} {s:St} (h:∀s,K s->K' s) (hs:jjE P β is j K s):jjE P β is j K' s:=by
 unfold jjE at hs⊢;split
 ·simp_all
 ·rename_i i hi
  simp only [hi] at hs;split
  ·rename_i hw;simp only [hw] at hs;exact jgj h hs
  ·rename_i hw;simp only [hw] at hs;exact h _ hs
  ·rename_i hw;simp only [hw] at hs
theorem jlv:∀{l:List Oper} {is:List Ins},jlw P N ops l=some is->is.length=l.length/\∀(j:Nat) (o:Oper),l[j]?=some o->∃i,is[j]?=some i/\jBp P N ops o=some i
 |[],is,h=>by simp [jlw] at h;subst h;simp
 |o::l,is,h=>by
  simp only [jlw] at h;split at h
  ·rename_i i r h1 h2
   simp at h;subst h;obtain ⟨h3,h4⟩:=jlv h2;refine ⟨by simp [h3],λj o' ho=>?_⟩
   cases j with
   |zero=>simp at ho;subst ho;exact ⟨i,rfl,h1⟩
   |succ j=>exact h4 j o' (by simpa using ho)
  ·simp at h
theorem jzq {B:Nat} {w0:World} {Q':Exit->Act->World->Prop} (hc:jlw P N ops ops.toList=some is) (hQ:∀s a w F,RelF B w0 N s a w F->Q s->Q' .normal a w):∀(f:Nat) (l:List (Nat×List Lk)) (listed:Array Bool) (s:St) (a:Act) (w:World) (F:Nat->List Nat),
 RelF B w0 N s a w F->jyG P β ops is Q f l listed s->wpAny P .any ops Q' f listed a w
 |0,_,_,s,a,w,F,h,hs=>⟨hs.1,hQ _ _ _ _ h hs.2⟩
 |f+1,l,listed,s,a,w,F,h,hs=>by
  refine ⟨λh0=>hQ _ _ _ _ h (hs.1 h0),λj hj=>?_⟩
  have aH:=hs.2 j hj;obtain ⟨_,o,ho,_⟩:=mem_ready.1 hj;obtain ⟨i,hi,hci⟩:=(jlv hc).2 j o (by simpa using ho)
  obtain ⟨e1,e2,e3,e4⟩:=jt1 hci;unfold jjE at aH;simp only [hi] at aH;unfold wpOp;simp only [ho];split at aH
  ·rename_i hw
   rw [if_pos (jkb h e4 hw)];refine .inl (jGa e2 (g:=i.g) (β:=β) (K:=λs'=>jDT ops j l s s'/\jyG P β ops is Q f l (listed.setIfInBounds j true) s') h e3 (by rw [<-e1];exact aH) _ _ λa' w' ⟨s',F',h3,h4⟩=>jzq hc hQ f l _ _ _ _ _ h3 h4.2)
  ·rename_i hw
   rw [if_neg (by rw [jkb h e4 hw];simp)]
   rw [e1] at aH;exact jzq hc hQ f l _ _ _ _ _ (h.put (u:=undef) (v:=.c (.v undef)) rfl e3) aH.2
  ·exact aH.elim
theorem jug {p:Nat×List Lk}:∀(f:Nat) (l:List (Nat×List Lk)) (listed:Array Bool) (s:St),jyG P β ops is Q f (p::l) listed s->jyG P β ops is Q f l listed s
 |0,_,_,_,h=>h
 |f+1,l,listed,s,h=>⟨h.1,λj hj=>jnj (λs' ⟨h1,h2⟩=>⟨λq hq=>h1 q (by simp [hq]),jug f l _ s' h2⟩) (h.2 j hj)⟩
theorem jzp {i:Nat}:∀(f:Nat) (l:List (Nat×List Lk)) (listed:Array Bool) (s:St),jyG P β ops is Q f l listed s->jyG P β ops is Q f ((i,[])::l) listed s
 |0,_,_,_,h=>h
 |f+1,l,listed,s,h=>⟨h.1,λj hj=>jnj (λs' ⟨h1,h2⟩=>⟨λq hq hr g hg=>by
   rcases aOK.1 hq with rfl|hq
   ·simp at hg
   ·exact h1 q hq hr g hg,jzp f l _ s' h2⟩) (h.2 j hj)⟩
def EY (P:Program) (x:Ins) (s:St) (v:AV) (ids:List Lk):Prop:=
 (zf s x.g=some true/\x.i.pureB=true/\ids=x.i.looks s/\∀d rt st,Gen P s d rt st x.i v [])\/(zf s x.g=some false/\v=.c (.v undef)/\ids=[])
theorem EY.run {x:Ins} {s:St} {v:AV} {ids:List Lk} {i:Nat} {K:St->Prop} (pX:is[i]?=some x) (h:EY P x s v ids) (hk:K (s.put x.d v)):jjE P β is i K s:=by
 unfold jjE;simp only [pX];rcases h with ⟨h1,h2,_,h3⟩|⟨h1,rfl,_⟩
 ·simp only [h1]
  rw [jkO h2];exact ⟨.c (.val undef),λst=>⟨v,[],h3 _ _ _,hk⟩⟩
 ·simp only [h1];exact hk
theorem jmC {s s2:St} {g:Option (Nat×Bool)} (h:∀t w,g=some (t,w)->s2.t t=s.t t):zf s2 g=zf s g:=by
 cases g with
 |none=>rfl
 |some p=>obtain ⟨t,w⟩:=p;simp only [zf,h t w rfl]
theorem EY.stable {x:Ins} {s s2:St} {v:AV} {ids:List Lk} (h:EY P x s v ids) (ht:∀n∈x.uses,s2.t n=s.t n) (ho:∀k∈ids,jtD s s2 k):EY P x s2 v ids:=by
 have fU:∀y∈x.i.xs,s2.ev y=s.ev y:=λy hy=>jtR λn hn=>ht n (by
  subst hn;exact List.mem_append_left _ (List.mem_filterMap.2 ⟨_,hy,rfl⟩))
 have hw:zf s2 x.g=zf s x.g:=jmC λt w hg=>ht t (by simp [Ins.uses,hg])
 rcases h with ⟨h1,h2,h3,h4⟩|⟨h1,h2,h3⟩
 ·refine .inl ⟨by rw [hw];exact h1,h2,by rw [jr5 fU];exact h3,λd rt st=>jqu fU (λg hg=>ho g (by rw [h3];exact hg)) (λhp=>by rw [h2] at hp;cases hp) (h4 d rt st)⟩
 ·exact .inr ⟨by rw [hw];exact h1,h2,h3⟩
theorem jvW {x y:Ins} (h:jnw x y=true):(∀d,x.d=some d->d∉y.uses/\y.d≠some d)/\∀d,y.d=some d->d∉x.uses:=by
 simp only [jnw,aOF] at h;refine ⟨λd hd=>?_,λd hd=>?_⟩
 ·have:=h.1;rw [hd] at this;simpa using this
 ·have:=h.2;rw [hd] at this;simpa using this
theorem jyF {j:Nat} {x y:Ins} {s:St} {v:AV} {K K':St->Prop} (hy:is[j]?=some y) (hap:jnw x y=true) (h:∀s2:St,(∀n∈x.uses,s2.t n=s.t n)->K (s2.put x.d v)->K' s2) (hs:jjE P β is j K (s.put x.d v)):jjE P β is j K' s:=by
 obtain ⟨h1,h2⟩:=jvW hap
 have hw:zf (s.put x.d v) y.g=zf s y.g:=jmC λt w hg=>by
  cases hd:x.d with
  |none=>rfl
  |some d=>
   have aJ:t≠d:=λe=>(h1 d hd).1 (by simp [Ins.uses,hg,e])
   show (if t=d then v else s.t t)=_
   rw [if_neg aJ]
 unfold jjE at hs⊢;simp only [hy,hw] at hs⊢;split at hs
 ·refine jw2 (λk hk=>⟨λz hz e=>(h1 k hk).1 ?_,(h1 k hk).2⟩) (λs2 ht hk=>h s2 (λn hn=>ht n λe=>h2 n e hn) hk) hs
  subst e;exact List.mem_append_left _ (List.mem_filterMap.2 ⟨_,hz,rfl⟩)
 ·refine h _ (λn hn=>?_) ?_
  ·cases hd:y.d with
   |none=>rfl
   |some d=>
    show (if n=d then _ else s.t n)=_
    rw [if_neg λ(e:n=d)=>h2 d hd (e▸hn)]
  ·have e:(s.put x.d v).put y.d (.c (.v undef))=(s.put y.d (.c (.v undef))).put x.d v:=by
    cases hd:x.d with
    |none=>rfl
    |some k=>
     cases gF:y.d with
     |none=>rfl
     |some m=>
      have aJ:m≠k:=λe=>(h1 k hd).2 (by rw [gF,e])
      simp only [St.put,St.mk.injEq,and_true]
      funext n
      by_cases h1:n=m<;>by_cases h2:n=k<;>simp_all
   rw [<-e];exact hs
 ·exact hs
theorem jq8 {i:Nat} {x:Ins} {v:AV} {ids:List Lk} (aD:is.length=ops.size) (pX:is[i]?=some x):∀(f:Nat) (l:List (Nat×List Lk)) (listed:Array Bool) (s:St),Closed ops listed->
 (∀(j:Nat) (oj:Oper) (y:Ins),ops[j]?=some oj->is[j]?=some y->j≠i->listed.getD j true=false->(∀e∈oj.after,Region.binds .any e=true->e.on≠i)->jnw x y=true)->
 i∈Region.ready .any ops listed->EY P x s v ids->jyG P β ops is Q f ((i,ids)::l) (listed.setIfInBounds i true) (s.put x.d v)->jyG P β ops is Q (f+1) l listed s:=by
 intro f
 induction f with
 |zero=>
  intro l listed s _ _ hr hy H;refine ⟨λh=>(by rw [h] at hr;cases hr),λj hj=>?_⟩
  by_cases rO:j=i
  ·subst rO
   exact hy.run pX ⟨λp _ _ g _=>jot,H⟩
  ·have:=ready_mono hj rO
   rw [H.1] at this;cases this
 |succ f ih=>
  intro l listed s cV mT hr hy H;refine ⟨λh=>(by rw [h] at hr;cases hr),λj hj=>?_⟩
  by_cases rO:j=i
  ·subst rO
   exact hy.run pX ⟨λp _ _ g _=>jot,jug _ _ _ _ H⟩
  ·have h1:=H.2 j (ready_mono hj rO)
   obtain ⟨xX,oj,uD,cX⟩:=mem_ready.1 hj;have aCX:=(mem_ready.1 hr).1
   have hnr:¬Reach ops j i:=λhh=>by
    have:=cV.reach hh λo ho e he hb=>by rw [uD] at ho;cases ho;exact cX e he hb
    rw [jD6 aCX] at this;cases this
   have aCJ:∀e∈oj.after,Region.binds .any e=true->e.on≠i:=λe he hb eR=>hnr (.one uD he hb eR)
   have aCV:j<is.length:=by rw [aD];exact (Array.getElem?_eq_some_iff.1 uD).1
   obtain ⟨y,hyj⟩:∃y,is[j]?=some y:=⟨is[j],aNS aCV⟩;refine jyF hyj (mT j oj y uD hyj rO xX aCJ) (λs2 ht ⟨k1,k2⟩=>?_) h1
   refine ⟨λp hp hnp g hg=>?_,?_⟩
   ·have:=k1 p (by simp [hp]) hnp g hg
    exact kept_put2.1 this
   ·have fI:EY P x s2 v ids:=hy.stable ht λg hg=>by
     have:=k1 (i,ids) (by simp) hnr g hg
     exact kept_put2.1 this
    refine ih l (listed.setIfInBounds j true) s2 (cV.add hj) (λk ok z hk hz hki y7 eK=>?_) (ready_mono hr (Ne.symm rO)) fI ?_
    ·refine mT k ok z hk hz hki ?_ eK
     by_cases nZ:j=k
     ·subst nZ;exact xX
     ·rw [getD_set_ne true nZ] at y7;exact y7
    ·rw [Array.setIfInBounds_comm _ _ rO]
     exact k2
theorem jyi {i:Nat} {x:Ins} {listed:Array Bool} (pX:is[i]?=some x) (h:jD8 ops is listed i=true):x.i.pureB=true/\∀(j:Nat) (oj:Oper) (y:Ins),ops[j]?=some oj->is[j]?=some y->j≠i->listed.getD j true=false->(∀e∈oj.after,Region.binds .any e=true->e.on≠i)->jnw x y=true:=by
 simp only [jD8,pX,aOF,List.all_eq_true,aQX] at h;refine ⟨h.1,λj oj y hj hy aJ y7 eK=>?_⟩
 have h1:=h.2 j (Array.getElem?_eq_some_iff.1 hj).1;simp only [hj,hy,Bool.or_eq_true,aPV,aJ,false_or,y7,aQF] at h1;rcases h1 with h1|h1
 ·obtain ⟨e,he,hb⟩:=Array.any_eq_true'.1 h1
  simp only [aOF,aPV] at hb;exact absurd hb.2 (eK e he hb.1)
 ·exact h1
theorem jqk {s s':St}:∀{l:List Lk},jr8 s s' l->∀g∈l,jtD s s' g
 |[],_,g,hg=>by simp at hg
 |k::l,h,g,hg=>by
  rcases aOK.1 hg with rfl|hg
  ·exact h.1
  ·exact jqk h.2 g hg
theorem jqj {s s':St} {chk:List Nat}:∀{l:List (Nat×List Lk)},jov s s' chk l->∀p∈l,p.1∈chk->∀g∈p.2,jtD s s' g
 |[],_,p,hp,_=>by simp at hp
 |(q,ids)::l,h,p,hp,hc=>by
  rcases aOK.1 hp with rfl|hp
  ·have:=h.1
   rw [if_pos (by simpa using hc)] at this
   exact jqk this
  ·exact jqj h.2 p hp hc
theorem jbz (aD:is.length=ops.size):∀(f:Nat) (pures:List Nat) (listed:Array Bool) (t:T) (l:List (Nat×List Lk)) (s:St),mkT ops is f pures listed=some t->(∀p∈l,p.1∈pures)->Closed ops listed->zz P β t l s Q->jyG P β ops is Q f l listed s
 |0,pures,listed,t,l,s,h,_,_,hr=>by
  simp only [mkT] at h;split at h
  ·rename_i he
   simp at h;subst h;exact ⟨by simpa using he,hr⟩
  ·simp at h
 |f+1,pures,listed,t,l,s,h,hl,cV,hr=>by
  simp only [mkT] at h;split at h
  ·rename_i he
   simp at h;subst h;have eZ:Region.ready .any ops listed=[]:=by simpa using he
   exact ⟨λ_=>hr,λj hj=>by rw [eZ] at hj;cases hj⟩
  ·rename_i aJ
   split at h
   ·rename_i i hfi
    have iZ:=List.mem_of_find?_eq_some hfi;have mT:=List.find?_some hfi;split at h
    ·rename_i x t' pX ht
     simp at h;subst h;obtain ⟨hp,gE⟩:=jyi pX mT;simp only [zz] at hr;split at hr
     ·rename_i hw
      rw [jkO hp] at hr;obtain ⟨rt,hg⟩:=hr;obtain ⟨av,os,h1,h2⟩:=hg ⟨0,λ_ _=>undef⟩
      have h3:=λd rt st=>jAY (d':=d) (rt':=rt) (st':=st) hp h1
      obtain rfl:=(h3 0 rt ⟨0,λ_ _=>undef⟩).2
      exact jq8 aD pX f l listed s cV gE iZ (.inl ⟨hw,hp,rfl,λd rt st=>(h3 d rt st).1⟩) (jbz aD f _ _ _ _ _ ht (λp l9=>by
       rcases aOK.1 l9 with rfl|l9
       ·simp
       ·simp [hl p l9]) (cV.add iZ) h2)
     ·rename_i hw
      exact jq8 aD pX f l listed s cV gE iZ (.inr ⟨hw,rfl,rfl⟩) (jzp _ _ _ _ (jbz aD f _ _ _ _ _ ht (λp l9=>by simp [hl p l9]) (cV.add iZ) hr))
     ·exact hr.elim
    ·simp at h
   ·rename_i hnf
    refine ⟨λh0=>absurd (by simpa using h0) aJ,?_⟩
    have key:∀(r:List Nat) (t:T),(∀j∈r,j∈Region.ready .any ops listed)->(r.foldr (λj acc=>match is[j]?,mkT ops is f pures (listed.setIfInBounds j true),acc with
     |some x,some t,some rest=>some (.alt x (pures.filter λp=>!jpa ops ops.size j p) t rest)
     |_,_,_=>none) (some .stop))=some t->zz P β t l s Q->∀j∈r,jjE P β is j (λs'=>jDT ops j l s s'/\jyG P β ops is Q f l (listed.setIfInBounds j true) s') s:=by
     intro r
     induction r with
     |nil=>intro _ _ _ _ j hj;cases hj
     |cons k r ih=>
      intro t bA h hr j hj;simp only [List.foldr_cons] at h;split at h
      ·rename_i x t' rest hx ht xD
       simp at h;subst h;obtain ⟨dC,cR⟩:=hr;rcases aOK.1 hj with rfl|hj
       ·have hjr:=bA j (by simp)
        unfold jjE;simp only [hx];split at dC
        ·rename_i hw
         simp only [hw];refine jgj (λs' ⟨k1,k2⟩=>⟨λp hp hnp g hg=>?_,jbz aD f _ _ _ _ _ ht hl (cV.add hjr) k2⟩) dC
         refine jqj k1 p hp (aPM.2 ⟨hl p hp,?_⟩) g hg;cases m9:jpa ops ops.size j p.1 with
         |false=>rfl
         |true=>exact absurd (jri m9) hnp
        ·rename_i hw
         simp only [hw];exact ⟨λp _ _ g _=>jot,jbz aD f _ _ _ _ _ ht hl (cV.add hjr) dC⟩
        ·exact dC.elim
       ·exact ih rest (λk hk=>bA k (by simp [hk])) xD cR j hj
      ·simp at h
    exact key _ t (λj hj=>hj) h hr
theorem jEh {B:Nat} {w0 w:World} {s:St} {a:Act} {F:Nat->List Nat} {id:Nat} {t:T} {Q':Exit->Act->World->Prop} (h:RelF B w0 N s a w F) (hc:jBo P N ops=some t) (hr:zz P β t [] s Q) (hQ:∀s a w F,RelF B w0 N s a w F->Q s->Q' .normal a w):
 (Code.region id ops true).wp P Q' a w:=by
 unfold jBo at hc;split at hc
 ·rename_i hm
  split at hc
  ·rename_i is cV
   have aD:=(jlv cV).1;simp only [aQB] at aD;refine wp_region_any hm (jzq cV hQ ops.size [] _ s a _ F (h.world (w':=w.drew) (jyJ w)) (jbz aD _ _ _ _ _ _ hc (by simp) (λk o ho hk=>?_) hr))
   exfalso;have aB:=(Array.getElem?_eq_some_iff.1 ho).1;simp [aB] at hk
  ·simp at hc
 ·simp at hc
end
def Ex.to:Ex->Exit
 |.normal=>.normal
 |.exit id=>.exit id
 |.ret=>.ret
section
variable {P:Program} {β B N:Nat} {w w0:World} {s:St} {a:Act} {F:Nat->List Nat}
theorem vi {c:Code} {c0:C} (h:comp P N c=some c0):match c0 with
 |.skip=>c=.skip
 |.reg is=>∃id ops,c=.region id ops false/\jlw P N ops ops.toList=some is
 |.dreg t=>∃id ops,c=.region id ops true/\jBo P N ops=some t
 |.seq a b=>∃x y,c=.seq x y/\comp P N x=some a/\comp P N y=some b
 |.cond x a b=>∃x' y z,c=.cond x' y z/\jQ x'=some x/\comp P N y=some a/\comp P N z=some b
 |.blk id a=>∃x,c=.block id x/\comp P N x=some a
 |.loop a=>∃x,c=.loop x/\comp P N x=some a
 |.exit id=>c=.exit id
 |.ret=>c=.ret
 |.gh _=>False:=by
 cases c with
 |skip=>simp [comp] at h;subst h;rfl
 |region id ops d=>
  cases d with
  |true=>simp only [comp,Option.map_eq_some_iff] at h;obtain ⟨t,h1,rfl⟩:=h;exact ⟨_,_,rfl,h1⟩
  |false=>simp only [comp,Option.map_eq_some_iff] at h;obtain ⟨t,h1,rfl⟩:=h;exact ⟨_,_,rfl,h1⟩
 |seq x y=>
  simp only [comp] at h;split at h
  ·rename_i x' y' h1 h2;simp at h;subst h;exact ⟨_,_,rfl,h1,h2⟩
  ·simp at h
 |cond x y z=>
  simp only [comp] at h;split at h
  ·rename_i x' y' z' h1 h2 h3;simp at h;subst h;exact ⟨_,_,_,rfl,h1,h2,h3⟩
  ·simp at h
 |block id x=>simp only [comp,Option.map_eq_some_iff] at h;obtain ⟨t,h1,rfl⟩:=h;exact ⟨_,rfl,h1⟩
 |loop x=>simp only [comp,Option.map_eq_some_iff] at h;obtain ⟨t,h1,rfl⟩:=h;exact ⟨_,rfl,h1⟩
 |exit id=>simp [comp] at h;subst h;rfl
 |ret=>simp [comp] at h;subst h;rfl
 |_=>simp [comp] at h
theorem jbu:∀{c':C} {c:Code} {s:St} {a:Act} {w:World} {F:Nat->List Nat} {Qc:Ex->St->Prop} {Q:Exit->Act->World->Prop},
 comp P N c=some c'.er->RelF B w0 N s a w F->wpC P β c' Qc s->(∀e s a w F,RelF B w0 N s a w F->Qc e s->Q e.to a w)->c.wp P Q a w
 |.gh x,c,s,a,w,F,Qc,Q,hc,h,hw,hQ=>by
  obtain ⟨s',F',h3,h2⟩:=hw _ _ _ _ _ _ h;exact jbu (c':=x) hc h3 h2 hQ
 |.skip,c,s,a,w,F,Qc,Q,hc,h,hw,hQ=>by
  have e:c=.skip:=vi hc;subst e;exact wp_skip (hQ .normal _ _ _ _ h hw)
 |.dreg t,c,s,a,w,F,Qc,Q,hc,h,hw,hQ=>by
  obtain ⟨id,ops,rfl,h1⟩:=vi hc;exact jEh h h1 hw λs a w F h hk=>hQ .normal _ _ _ _ h hk
 |.reg is,c,s,a,w,F,Qc,Q,hc,h,hw,hQ=>by
  obtain ⟨id,ops,rfl,h1⟩:=vi hc;exact wp_region_list (jr6 (λs a w F h hk=>hQ .normal _ _ _ _ h hk) h1 h hw)
 |.seq x' y',c,s,a,w,F,Qc,Q,hc,h,hw,hQ=>by
  obtain ⟨x,y,rfl,h1,h2⟩:=vi hc;refine wp_seq (jbu h1 h hw λe s a w F h hk=>?_)
  cases e with
  |normal=>exact jbu h2 h hk hQ
  |exit id=>exact hQ (.exit id) _ _ _ _ h hk
  |ret=>exact hQ .ret _ _ _ _ h hk
 |.cond x' y' z',c,s,a,w,F,Qc,Q,hc,h,hw,hQ=>by
  obtain ⟨x,y,z,rfl,h1,h2,h3⟩:=vi hc;obtain ⟨t,h4,h5,h6⟩:=hw;exact wp_cond_split (jjD h h1 h4) (λht=>jbu h2 h (h5 ht) hQ) (λht=>jbu h3 h (h6 ht) hQ)
 |.blk id x',c,s,a,w,F,Qc,Q,hc,h,hw,hQ=>by
  obtain ⟨x,rfl,h1⟩:=vi hc;refine wp_block (jbu h1 h hw λe s a w F h hk=>?_)
  cases e with
  |normal=>exact hQ .normal _ _ _ _ h hk
  |exit id'=>
   simp only [Ex.inBlk] at hk;simp only [Ex.to,Exit.inBlock];split
   ·rename_i e;rw [if_pos e] at hk;exact hQ .normal _ _ _ _ h hk
   ·rename_i e;rw [if_neg e] at hk;exact hQ (.exit id') _ _ _ _ h hk
  |ret=>exact hQ .ret _ _ _ _ h hk
 |.loop x',c,s,a,w,F,Qc,Q,hc,h,hw,hQ=>by
  obtain ⟨x,rfl,h1⟩:=vi hc;obtain ⟨ι,mk,J,μ,⟨i0,h2,h4⟩,h3⟩:=hw
  have key:∀(n:Nat) (i:ι) (a:Act) (w:World) (F:Nat->List Nat),RelF B w0 N (mk i) a w F->J i->μ i<n->Code.rounds P x Q n a w:=by
   intro n
   induction n with
   |zero=>intro _ _ _ _ _ _ aB;omega
   |succ n ih=>
    intro i a w F h hJ aB;refine jbu h1 h (h3 i hJ) λe s' a' w' F' h' hk=>?_
    cases e with
    |normal=>
     obtain ⟨i',k1,k2,k3⟩:=hk;obtain ⟨F2,k4,_⟩:=k2 _ _ _ _ _ _ h';exact ih _ _ _ _ k4 k1 (by omega)
    |exit id=>exact hQ (.exit id) _ _ _ _ h' hk
    |ret=>exact hQ .ret _ _ _ _ h' hk
  obtain ⟨F2,h5,_⟩:=h4 _ _ _ _ _ _ h;exact wp_loop_rounds _ (key (μ i0+1) _ _ _ _ h5 h2 (by omega))
 |.exit id,c,s,a,w,F,Qc,Q,hc,h,hw,hQ=>by
  have e:c=.exit id:=vi hc;subst e;exact wp_exit (hQ (.exit id) _ _ _ _ h hw)
 |.ret,c,s,a,w,F,Qc,Q,hc,h,hw,hQ=>by
  have e:c=.ret:=vi hc;subst e;exact wp_ret (hQ .ret _ _ _ _ h hw)
theorem jfN:∀{c':C} {c:Code},comp P N c=some c'->c'.er=c'
 |.skip,_,_|.reg _,_,_|.dreg _,_,_|.exit _,_,_|.ret,_,_=>rfl
 |.seq a b,c,h=>by obtain ⟨x,y,_,h1,h2⟩:=vi h;simp only [C.er,jfN h1,jfN h2]
 |.cond x a b,c,h=>by obtain ⟨_,y,z,_,_,h1,h2⟩:=vi h;simp only [C.er,jfN h1,jfN h2]
 |.blk id a,c,h=>by obtain ⟨x,_,h1⟩:=vi h;simp only [C.er,jfN h1]
 |.loop a,c,h=>by obtain ⟨x,_,h1⟩:=vi h;simp only [C.er,jfN h1]
 |.gh a,c,h=>(vi h).elim
theorem jfM:∀(p:List Nat) (c:C),(C.ghAt p c).er=c.er
 |[],c=>by cases c<;>rfl
 |0::p,.seq a b=>by simp only [C.ghAt,C.er,jfM p a]
 |(k+1)::p,.seq a b=>by simp only [C.ghAt,C.er,jfM p b]
 |0::p,.cond x a b=>by simp only [C.ghAt,C.er,jfM p a]
 |(k+1)::p,.cond x a b=>by simp only [C.ghAt,C.er,jfM p b]
 |k::p,.blk id a=>by simp only [C.ghAt,C.er,jfM p a]
 |k::p,.loop a=>by simp only [C.ghAt,C.er,jfM p a]
 |k::_,.skip=>by cases k<;>rfl
 |k::_,.reg _=>by cases k<;>rfl
 |k::_,.dreg _=>by cases k<;>rfl
 |k::_,.exit _=>by cases k<;>rfl
 |k::_,.ret=>by cases k<;>rfl
 |k::_,.gh _=>by cases k<;>rfl
def C.ghs (ps:List (List Nat)) (c:C):C:=ps.foldr C.ghAt c
theorem jGP (ps:List (List Nat)) (c:C):(C.ghs ps c).er=c.er:=by
 induction ps with
 |nil=>rfl
 |cons p ps ih=>rw [show C.ghs (p::ps) c=C.ghAt p (C.ghs ps c) from rfl,jfM,ih]
theorem joP {c:Code} {c':C} (ps:List (List Nat)) (h:comp P N c=some c'):comp P N c=some (C.ghs ps c').er:=by rw [jGP,jfN h];exact h
theorem jt4 {ds:List D} {x:Value} (h:ViewRel.CellsAt w ds x):A0Rel w.heap.size w (.rp ds) x:=by
 obtain ⟨b,o,us,S,h1,h2,h3⟩:=h;refine ⟨b,o,us,S,h1,h2,RepL.lt ds h2,λaJ=>?_,h3⟩
 have hl:=RepL.length ds h2;cases us with
 |nil=>exact absurd (aON (by simpa using hl.symm)) aJ
 |cons u us=>
  have:=h3 0 u rfl;unfold World.cell? at this;split at this
  ·rename_i hh;exact jbN hh
  all_goals simp at this
theorem jy4:∀{caps:List (List D)} {xs:List Value},ViewRel.All2 w caps xs->A0RelL w.heap.size w (caps.map .rp) xs
 |[],_,h=>h
 |_::_,_,⟨x,xs',h1,h2,h3⟩=>⟨x,xs',h1,jt4 h2,jy4 h3⟩
theorem jFD {d:D} {u:Value} {S:List Nat} (h:Rep w false d u S):A0Rel w.heap.size w d.toRo u:=by
 cases d with
 |val x=>exact h.1
 |sl size ty cs=>exact ⟨rfl,S,h,Rep.lt _ h⟩
theorem jBV:∀{ds:List D} {us:List Value} {S:List Nat},RepL w false ds us S->A0RelL w.heap.size w (ds.map D.toRo) us
 |[],_,_,⟨h,_⟩=>h
 |_::_,_,_,⟨u,us',S1,S2,h1,_,h3,h4⟩=>⟨u,us',h1,jFD h3,jBV h4⟩
theorem jCG:∀{v:View} {x:Value},ViewRel w v x->VRel w.heap.size w v.av x
 |.c d,x,⟨S,h⟩=>jFD h
 |.agg ds,x,⟨S,us,h1,h2⟩=>⟨us,h1,jBV h2⟩
 |.ptr ds,x,h=>jt4 h
 |.fn f caps,x,⟨xs,h1,h2⟩=>⟨xs,h1,jy4 h2⟩
theorem jpc:∀{vs:List View} {xs:List Value},jab w vs xs->xs.length=vs.length/\∀(n:Nat) (v:View) (x:Value),vs[n]?=some v->xs[n]?=some x->ViewRel w v x
 |[],_,h=>by rw [show _=_ from h];simp
 |v::vs,_,⟨x,xs',h1,h2,h3⟩=>by
  subst h1;obtain ⟨h4,h5⟩:=jpc h3;refine ⟨by simp [h4],λn v' x' hv hx=>?_⟩
  cases n with
  |zero=>simp at hv hx;subst hv hx;exact h2
  |succ n=>exact h5 n v' x' (by simpa using hv) (by simpa using hx)
theorem jwG {vs:List View} {xs:List Value} (hv:jab w vs xs) (hN:vs.length<=N):
 RelF w.heap.size w N (St.init vs) {tmps:=xs.toArray++Array.replicate (N-xs.toArray.size) undef,defers:=[]} w (λ_=>[]):=by
 obtain ⟨hl,hg⟩:=jpc hv;refine ⟨Below.refl _ _,aOC _,rfl,by simp;omega,λn=>?_,λ_=>rfl,λ_=>Fresh.nil _,λ_ _ _ _ h=>by simp at h⟩
 simp only [St.init];cases lI:vs[n]? with
 |none=>simp [lI,VRel]
 |some v=>
  have aB:n<vs.length:=(aNP.1 lI).1;have xR:n<xs.length:=by omega
  have wT:xs[n]?=some xs[n]:=aNS xR;have:=jCG (hg n v _ lI wT)
  have e:(xs.toArray++Array.replicate (N-xs.toArray.size) undef).getD n undef=xs[n]:=by
   simp [Array.getD_eq_getD_getElem?,Array.getElem?_append,xR]
  simp only [aQK,lI,Option.map_some,aNZ];rw [e];exact this
theorem jow:∀{cs:List Cell} {us:List Value} {S:List Nat} {ds:List D},CRel B w cs us S->IsD cs ds->RepL w true ds us S
 |[],us,S,ds,h,hd=>by rw [show ds=[] from hd];exact h
 |.a x::cs,us,S,ds,⟨u,us',h1,h2,h3⟩,hd=>by
  cases x with
  |v x=>
   cases ds with
   |nil=>exact hd.elim
   |cons d ds=>
    obtain ⟨h4,h5⟩:=hd;subst h1;have h6:=jow h3 h5;rw [show u=x from h2]
    rcases h4 with rfl|⟨rfl,size,ty,rfl⟩
    ·exact RepL.val_ h6
    ·exact RepL.cons_ (S1:=[]) (Rep.nil_ w size ty) h6
  |_=>cases ds<;>exact hd.elim
 |.own d η::cs,us,S,ds,⟨u,us',S1,S2,h1,h2,_,h4,_,h6⟩,hd=>by
  cases ds with
  |nil=>exact hd.elim
  |cons d' ds=>
   obtain ⟨rfl,h5⟩:=hd;subst h1 h2;exact RepL.cons_ h4 (jow h6 h5)
def jsH:List (Bool×List A0)->List Value->List Value->Prop
 |[],vals,us=>vals=[]/\us=[]
 |(b,az)::ps,vals,us=>∃v vals' xs us',vals=v::vals'/\us=xs++us'/\xs.length=az.length/\(if b then v=.agg xs.toArray else xs=[v])/\jsH ps vals' us'
def jmZ (tmps:Array Value):ResultVar->Sem Value
 |.tmp t=>pure (tmps.getD t undef)
 |.cell x t=>do loadVar t (<-asAddr (tmps.getD x undef))
theorem jh1 (fn:Func) (tmps:Array Value):results fn tmps=(do let vs<-fn.results.mapM (jmZ tmps);pure (if h:vs.size=1 then vs[0] else .tuple vs)):=by
 unfold results
 congr 1
theorem A0RelL.app:∀{l m:List A0} {us vs:List Value},A0RelL B w l us->A0RelL B w m vs->A0RelL B w (l++m) (us++vs)
 |[],_,_,_,h1,h2=>by rw [show _=_ from h1];exact h2
 |_::_,_,_,_,⟨u,us',h1,h2,h3⟩,h4=>by subst h1;exact ⟨u,_,rfl,h2,h3.app h4⟩
theorem jh2 (h:RelF B w0 N s a w F):∀{rs:List ResultVar} {rs':List R} {K:List (Bool×List A0)->Prop},jlu P N rs=some rs'->jju s rs' K->
 ∃ps vals us,K ps/\A0RelL B w (ps.flatMap (·.2)) us/\jsH ps vals us/\(rs.mapM (jmZ a.tmps)).run P w=.ok vals w
 |[],rs',K,hc,hk=>by
  simp [jlu] at hc;subst hc;exact ⟨[],[],[],hk,rfl,⟨rfl,rfl⟩,by simp⟩
 |.tmp n::rs,rs',K,hc,hk=>by
  simp only [jlu] at hc;split at hc
  ·simp only [Option.map_eq_some_iff] at hc
   obtain ⟨r,h1,rfl⟩:=hc;simp only [jju] at hk;have hv:=h.sl n;split at hk
   ·rename_i l he
    rw [he] at hv;obtain ⟨xs,k1,k2⟩:=hv;obtain ⟨ps,vals,us,k3,k4,k5,k6⟩:=jh2 h h1 hk;refine ⟨_,.agg xs.toArray::vals,xs++us,k3,A0RelL.app k2 k4,⟨_,_,xs,us,rfl,rfl,k2.len,by simp,k5⟩,?_⟩
    simp [List.mapM_cons,jmZ,k1,k6]
   ·rename_i a0 he
    rw [he] at hv;obtain ⟨ps,vals,us,k3,k4,k5,k6⟩:=jh2 h h1 hk;refine ⟨_,a.tmps.getD n undef::vals,_::us,k3,⟨_,us,rfl,hv,k4⟩,⟨_,_,[_],us,rfl,rfl,rfl,by simp,k5⟩,?_⟩
    simp [List.mapM_cons,jmZ,k6]
   ·exact hk.elim
  ·simp at hc
 |.cell n t::rs,rs',K,hc,hk=>by
  simp only [jlu] at hc
  have key:∀{dsc:TypeDesc} {agg:Bool} {k:Nat} {r:List R},P.underlying t=some dsc->agg=jEK dsc->qk P t=some k->jlu P N rs=some r->jju s (.cell n agg k::r) K->
   ∃ps vals us,K ps/\A0RelL B w (ps.flatMap (·.2)) us/\jsH ps vals us/\((ResultVar.cell n t::rs).mapM (jmZ a.tmps)).run P w=.ok vals w:=by
   intro dsc agg k r ht gW hn hr hk;obtain ⟨l,h1,h2,h3⟩:=hk;obtain ⟨b,o,xs,e1,e2,e3,e4,e5⟩:=jty h (h.sl n) h1;obtain ⟨ps,vals,us,k3,k4,k5,k6⟩:=jh2 h hr h3
   obtain ⟨v,hv⟩:∃v,if agg then v=.agg xs.toArray else xs=[v]:=by
    cases agg with
    |true=>exact ⟨_,rfl⟩
    |false=>
     have h4:l.length=1:=by simpa using h2
     have:xs.length=1:=by omega
     obtain ⟨v,rfl⟩:=List.length_eq_one_iff.1 this;exact ⟨v,by simp⟩
   have aV:=joq (P:=P) ht gW hn e2 e4 hv;refine ⟨_,v::vals,xs++us,k3,A0RelL.app e5 k4,⟨_,_,xs,us,rfl,rfl,by omega,hv,k5⟩,?_⟩
   simp [List.mapM_cons,jmZ,e1,asAddr,aV,k6]
  split at hc
  ·split at hc
   ·rename_i fs k r h1 h2 h3
    simp at hc;subst hc;exact key h1 rfl h2 h3 hk
   ·simp at hc
   ·rename_i dsc k r d9 rM h1 h2 h3
    simp at hc;subst hc;refine key h1 ?_ h2 h3 hk;cases dsc<;>simp_all [jEK]
   ·simp at hc
  ·simp at hc
theorem jkG:∀{l:List (Bool×List D)} {ps:List (Bool×List A0)} {vals us:List Value} {S:List Nat},jsH ps vals us->ps.map (λp=>(p.1,p.2.length))=l.map (λp=>(p.1,p.2.length))->RepL w true (l.flatMap (·.2)) us S->juk w l vals S
 |[],ps,vals,us,S,h,he,hr=>by
  cases ps with
  |nil=>obtain ⟨rfl,rfl⟩:=h;exact ⟨rfl,hr.2⟩
  |cons p ps=>simp at he
 |(b,ds)::l,ps,vals,us,S,h,he,hr=>by
  cases ps with
  |nil=>simp at he
  |cons p ps=>
   obtain ⟨b',az⟩:=p;simp at he;obtain ⟨⟨rfl,e1⟩,e2⟩:=he;obtain ⟨v,vals',xs,us',rfl,rfl,h3,h4,h5⟩:=h;simp only [aOM] at hr;obtain ⟨v1,v2,S1,S2,e3,rfl,h6,h7⟩:=RepL.append_inv _ hr;have hl:=RepL.length _ h6;obtain ⟨rfl,rfl⟩:=List.append_inj e3 (by omega)
   exact ⟨v,vals',xs,S1,S2,rfl,rfl,h6,h4,jkG h5 e2 h7⟩
theorem jyA (h:RelF B w0 N s a w F) {fn:Func} {rs:List R} {rt:RT} (hc:jlu P N fn.results.toList=some rs) (hq:jv2 rs rt s):
 ∃v S,(results fn a.tmps).run P w=.ok v w/\jl0 w rt v S/\Fresh B S:=by
 obtain ⟨ps,vals,us,⟨h1,h2⟩,h3,h4,h5⟩:=jh2 h hc hq;obtain ⟨cs,s',S,F',k1,k2,k3,k4,_⟩:=jb8 h h3 h2;have hr:=jow k2 k1
 have aV:(results fn a.tmps).run P w=.ok (if hs:vals.toArray.size=1 then vals.toArray[0] else .tuple vals.toArray) w:=by
  rw [jh1,Array.mapM_eq_mapM_toList];simp [h5]
 cases rt with
 |c d=>
  obtain ⟨a0,rfl⟩:=h1;obtain ⟨v,vals',xs,us',rfl,rfl,e1,e2,⟨rfl,rfl⟩⟩:=h4;simp at e2;subst e2;obtain ⟨u,us'',S1,S2,e3,rfl,e5,⟨rfl,rfl⟩⟩:=hr;simp at e3;subst e3;exact ⟨v,S1++[],by simpa using aV,(by simpa using e5:Rep w true d v (S1++[])),k4⟩
 |agg ds=>
  obtain ⟨l,rfl⟩:=h1;obtain ⟨v,vals',xs,us',rfl,rfl,e1,e2,⟨rfl,rfl⟩⟩:=h4;simp at e2;subst e2;exact ⟨_,S,by simpa using aV,⟨xs,rfl,by simpa [RT.flat] using hr⟩,k4⟩
 |tup l=>
  obtain ⟨aJ,h1⟩:=h1
  have aD:vals.length=ps.length:=by
   have:∀{ps:List (Bool×List A0)} {vals us:List Value},jsH ps vals us->vals.length=ps.length:=by
    intro ps
    induction ps with
    |nil=>intro vals us h;rw [h.1];rfl
    |cons p ps ih=>obtain ⟨b,az⟩:=p;rintro vals us ⟨v,vals',xs,us',rfl,_,_,_,h⟩;simp [ih h]
   exact this h4
  refine ⟨_,S,aV,⟨vals,?_,jkG h4 h1 hr⟩,k4⟩;rw [dif_neg (by simpa [aD] using aJ)]
theorem jDw {f:FuncId} {fn:Func} {c:Code} {c':C} {vs:List View} {rs:List R} {rt:RT} (hf:P.funcs[f]?=some fn) (hb:fn.body=some c) (hn:(fn.name != "runtime.NumGoroutine")=true)
 (hc:comp P fn.ntmps c=some c'.er) (hr:jlu P fn.ntmps fn.results.toList=some rs) (hN:vs.length<=fn.ntmps) (hw:wpC P 0 c' (jAj rs rt) (St.init vs)):jW P f vs rt:=by
 refine ⟨⟨fn,hf,by rw [hb];rfl,hn⟩,λw xs hv=>calls_of_wp hf hb (jbu hc (jwG hv hN) hw λe s a w' F h hk=>?_)⟩
 cases e with
 |exit id=>exact hk.elim
 |normal=>
  obtain ⟨v,S,k1,k2,k3⟩:=jyA h hr hk;exact ⟨h.df,v,k1,v,S,rfl,k2,k3,h.below⟩
 |ret=>
  obtain ⟨v,S,k1,k2,k3⟩:=jyA h hr hk;exact ⟨h.df,v,k1,v,S,rfl,k2,k3,h.below⟩
theorem vr (ps:List (List Nat)) {f:FuncId} {fn:Func} {c:C} {vs:List View} {rs:List R} {rt:RT} (hf:P.funcs[f]?=some fn) (hc:fnC P fn=some (c,rs,N)) (hN:vs.length<=N) (hw:wpC P 0 (C.ghs ps c) (jAj rs rt) (St.init vs)):jW P f vs rt:=by
 unfold fnC at hc;split at hc
 ·rename_i b hb
  split at hc
  ·rename_i hn
   split at hc
   ·rename_i c' rs' h1 h2
    simp only [Option.some.injEq,Prod.mk.injEq] at hc;obtain ⟨rfl,rfl,rfl⟩:=hc;exact jDw hf hb hn (joP ps h1) h2 hN hw
   ·simp at hc
  ·simp at hc
 ·simp at hc
theorem jfH {f:FuncId} {fn:Func} {c:C} {vs:List View} {rs:List R} {rt:RT} (hf:P.funcs[f]?=some fn) (hc:fnC P fn=some (c,rs,N)) (hN:vs.length<=N) (hw:wpC P 0 c (jAj rs rt) (St.init vs)):jW P f vs rt:=vr [] hf hc hN hw
theorem jsK:∀{args:List AV} {xs:List Value},jlZ B w args xs->xs.length=args.length/\∀(n:Nat) (v:AV) (x:Value),args[n]?=some v->xs[n]?=some x->VRel B w v x
 |[],_,h=>by rw [show _=_ from h];simp
 |v::vs,_,⟨x,xs',h1,h2,h3⟩=>by
  subst h1;obtain ⟨h4,h5⟩:=jsK h3;refine ⟨by simp [h4],λn v' x' hv hx=>?_⟩
  cases n with
  |zero=>simp at hv hx;subst hv hx;exact h2
  |succ n=>exact h5 n v' x' (by simpa using hv) (by simpa using hx)
theorem jmH {args:List AV} {xs:List Value} {o:Nat->Ob} (h:RelF B w 0 (.only o) Act.bare w F) (hv:jlZ B w args xs) (hN:args.length<=N):
 RelF B w N (St.start args o) {tmps:=xs.toArray++Array.replicate (N-xs.toArray.size) undef,defers:=[]} w F:=by
 obtain ⟨hl,hg⟩:=jsK hv;refine ⟨Below.refl _ _,h.hB,rfl,by simp;omega,λn=>?_,h.ob,h.fr,h.dj⟩
 simp only [St.start];cases lI:args[n]? with
 |none=>simp [VRel]
 |some v=>
  have aB:n<args.length:=(aNP.1 lI).1;have xR:n<xs.length:=by omega
  have wT:xs[n]?=some xs[n]:=aNS xR;have:=hg n v _ lI wT
  have e:(xs.toArray++Array.replicate (N-xs.toArray.size) undef).getD n undef=xs[n]:=by
   simp [Array.getD_eq_getD_getElem?,Array.getElem?_append,xR]
  simp only [aNZ];rw [e];exact this
theorem jtS (h:RelF B w0 N s a w F) {fn:Func} {rs:List R} {R:RT->(Nat->Ob)->Prop} (hc:jlu P N fn.results.toList=some rs) (hq:RetT rs R s):
 ∃v rt o' S,∃F':Nat->List Nat,(results fn a.tmps).run P w=.ok v w/\jl0 w rt v S/\Fresh B S/\(∀g,∀b∈S,b∉F' g)/\(∀g,ORel B w (o' g) (F' g))/\(∀g,Fresh B (F' g))/\(∀g g',g≠g'->∀b∈F' g,b∉F' g')/\R rt o':=by
 obtain ⟨ps,vals,us,⟨rt,h1,h2⟩,h3,h4,h5⟩:=jh2 h hc hq;obtain ⟨cs,s',S,F',⟨k1,kR⟩,k2,k3,k4,k6,_⟩:=jb8 h h3 h2;have hr:=jow k2 k1
 have aV:(results fn a.tmps).run P w=.ok (if hs:vals.toArray.size=1 then vals.toArray[0] else .tuple vals.toArray) w:=by
  rw [jh1,Array.mapM_eq_mapM_toList];simp [h5]
 have fin:∀v S,(results fn a.tmps).run P w=.ok v w->jl0 w rt v S->Fresh B S->(∀g,∀b∈S,b∉F' g)->∃v rt o' S,∃F':Nat->List Nat,(results fn a.tmps).run P w=.ok v w/\jl0 w rt v S/\Fresh B S/\(∀g,∀b∈S,b∉F' g)/\(∀g,ORel B w (o' g) (F' g))/\(∀g,Fresh B (F' g))/\(∀g g',g≠g'->∀b∈F' g,b∉F' g')/\R rt o':=
  λv S m1 m2 m3 m4=>⟨v,rt,s'.o,S,F',m1,m2,m3,m4,k3.ob,k3.fr,k3.dj,kR⟩
 cases rt with
 |c d=>
  obtain ⟨a0,rfl⟩:=h1;obtain ⟨v,vals',xs,us',rfl,rfl,e1,e2,⟨rfl,rfl⟩⟩:=h4;simp at e2;subst e2;obtain ⟨u,us'',S1,S2,e3,rfl,e5,⟨rfl,rfl⟩⟩:=hr;simp at e3;subst e3;exact fin v (S1++[]) (by simpa using aV) (by simpa using e5:Rep w true d v (S1++[])) k4 k6
 |agg ds=>
  obtain ⟨l,rfl⟩:=h1;obtain ⟨v,vals',xs,us',rfl,rfl,e1,e2,⟨rfl,rfl⟩⟩:=h4;simp at e2;subst e2;exact fin _ S (by simpa using aV) ⟨xs,rfl,by simpa [RT.flat] using hr⟩ k4 k6
 |tup l=>
  obtain ⟨aJ,h1⟩:=h1
  have aD:vals.length=ps.length:=by
   have:∀{ps:List (Bool×List A0)} {vals us:List Value},jsH ps vals us->vals.length=ps.length:=by
    intro ps
    induction ps with
    |nil=>intro vals us h;rw [h.1];rfl
    |cons p ps ih=>obtain ⟨b,az⟩:=p;rintro vals us ⟨v,vals',xs,us',rfl,_,_,_,h⟩;simp [ih h]
   exact this h4
  exact fin _ S aV ⟨vals,by rw [dif_neg (by simpa [aD] using aJ)],jkG h4 h1 hr⟩ k4 k6
theorem jzL (ps:List (List Nat)) {f:FuncId} {fn:Func} {c:C} {args:List AV} {o:Nat->Ob} {rs:List R} {R:RT->(Nat->Ob)->Prop} (hf:P.funcs[f]?=some fn) (hc:fnC P fn=some (c,rs,N)) (hN:args.length<=N) (hw:wpC P β (C.ghs ps c) (jEV rs R) (St.start args o)):Turns P f args o R:=by
 unfold fnC at hc;split at hc
 ·rename_i b hb
  split at hc
  ·rename_i hn
   split at hc
   ·rename_i c' rs' h1 h2
    simp only [Option.some.injEq,Prod.mk.injEq] at hc;obtain ⟨rfl,rfl,rfl⟩:=hc;refine ⟨⟨fn,hf,by rw [hb];rfl,hn⟩,λB w F xs hF hv=>calls_of_wp hf hb (jbu (joP ps h1) (jmH hF hv hN) hw λe s a w' F' h hk=>?_)⟩
    cases e with
    |exit id=>exact hk.elim
    |normal=>
     obtain ⟨v,rt,o',S,F2,k1,k2,k3,k4,k5,k6,k7,k8⟩:=jtS h h2 hk;exact ⟨h.df,v,k1,v,rt,o',S,F2,rfl,⟨h.below,h.hB,rfl,rfl,λ_=>trivial,k5,k6,k7⟩,k2,k3,k4,k8⟩
    |ret=>
     obtain ⟨v,rt,o',S,F2,k1,k2,k3,k4,k5,k6,k7,k8⟩:=jtS h h2 hk;exact ⟨h.df,v,k1,v,rt,o',S,F2,rfl,⟨h.below,h.hB,rfl,rfl,λ_=>trivial,k5,k6,k7⟩,k2,k3,k4,k8⟩
   ·simp at hc
  ·simp at hc
 ·simp at hc
theorem jkd {f:FuncId} {fn:Func} {c:C} {args:List AV} {o:Nat->Ob} {rs:List R} {R:RT->(Nat->Ob)->Prop} (hf:P.funcs[f]?=some fn) (hc:fnC P fn=some (c,rs,N)) (hN:args.length<=N) (hw:wpC P β c (jEV rs R) (St.start args o)):Turns P f args o R:=jzL [] hf hc hN hw
theorem jBO:∀{ps:List (Bool×List A0)} {vals us:List Value},jsH ps vals us->A0RelL B w (ps.flatMap (·.2)) us->TRelL B w ps vals
 |[],vals,us,⟨h1,_⟩,_=>h1
 |(b,az)::ps,vals,us,⟨v,vals',xs,us',h1,h2,h3,h4,h5⟩,hr=>by
  subst h1 h2;simp only [aOM] at hr
  have key:∀{l m:List A0} {xs ys:List Value},xs.length=l.length->A0RelL B w (l++m) (xs++ys)->A0RelL B w l xs/\A0RelL B w m ys:=by
   intro l
   induction l with
   |nil=>intro m xs ys hl h;obtain rfl:xs=[]:=aON hl;exact ⟨rfl,h⟩
   |cons x l ih=>
    intro m xs ys hl h;cases xs with
    |nil=>simp at hl
    |cons y xs=>
     obtain ⟨u,us',e1,e2,e3⟩:=h;simp only [aOU,List.cons.injEq] at e1;obtain ⟨rfl,rfl⟩:=e1;obtain ⟨k1,k2⟩:=ih (by simpa using hl) e3
     exact ⟨⟨y,xs,rfl,e2,k1⟩,k2⟩
  obtain ⟨k1,k2⟩:=key h3 hr;exact ⟨v,vals',xs,rfl,k1,h4,jBO h5 k2⟩
theorem jlf (ps:List (List Nat)) {f:FuncId} {fn:Func} {c:C} {args:List AV} {o:Nat->Ob} {rs:List R} {R:AV->(Nat->Ob)->Prop} (hf:P.funcs[f]?=some fn) (hc:fnC P fn=some (c,rs,N)) (hN:args.length<=N) (hw:wpC P β (C.ghs ps c) (jHp rs R) (St.start args o)):Inl P f args o R:=by
 unfold fnC at hc;split at hc
 ·rename_i b hb
  split at hc
  ·rename_i hn
   split at hc
   ·rename_i c' rs' h1 h2
    simp only [Option.some.injEq,Prod.mk.injEq] at hc;obtain ⟨rfl,rfl,rfl⟩:=hc
    have fin:∀{s:St} {a:Act} {w w':World} {F':Nat->List Nat} {B:Nat},RelF B w fn.ntmps s a w' F'->jv3 rs' R s->∃v,(results fn a.tmps).run P w'=.ok v w'/\∃av o',∃F2:Nat->List Nat,RelF B w 0 (.only o') Act.bare w' F2/\VRel B w' av v/\R av o':=λ{s a w w' F' B} h hk=>by
     obtain ⟨ps,vals,us,k1,k2,k3,k4⟩:=jh2 h h2 hk
     have aV:(results fn a.tmps).run P w'=.ok (if hs:vals.toArray.size=1 then vals.toArray[0] else .tuple vals.toArray) w':=by
      rw [jh1,Array.mapM_eq_mapM_toList];simp [k4]
     have bS:RelF B w 0 (.only s.o) Act.bare w' F':=⟨h.below,h.hB,rfl,rfl,λ_=>trivial,h.ob,h.fr,h.dj⟩
     have lM:=jBO k3 k2
     match ps,k1,lM with
     |[],k1,lM=>
      obtain rfl:vals=[]:=lM;exact ⟨_,aV,.tup [],s.o,F',bS,⟨[],by simp,rfl⟩,k1⟩
     |[(true,l)],k1,⟨v,vals',xs,e1,e2,e3,e4⟩=>
      obtain rfl:vals'=[]:=e4;subst e1;exact ⟨v,by simpa using aV,.agg l,s.o,F',bS,⟨xs,by simpa using e3,e2⟩,k1⟩
     |[(false,[a0])],k1,⟨v,vals',xs,e1,e2,e3,e4⟩=>
      obtain rfl:vals'=[]:=e4;subst e1;obtain rfl:xs=[v]:=by simpa using e3
      obtain ⟨u,us',e5,e6,_⟩:=e2;cases e5;exact ⟨v,by simpa using aV,.c a0,s.o,F',bS,e6,k1⟩
     |p::q::r,k1,lM=>
      have hl:vals.length≠1:=by
       obtain ⟨_,vals',_,e1,_,_,e4⟩:=lM;obtain ⟨_,vals'',_,e5,_,_,_⟩:=e4;subst e1 e5;simp
      have k1':R (.tup (p::q::r)) s.o:=by
       obtain ⟨b,l⟩:=p;cases b
       ·cases l with
        |nil=>exact k1
        |cons x l=>cases l<;>exact k1
       ·exact k1
      exact ⟨_,by rw [aV,dif_neg (by simpa using hl)],.tup (p::q::r),s.o,F',bS,⟨vals,rfl,lM⟩,k1'⟩
    refine ⟨⟨fn,hf,by rw [hb];rfl,hn⟩,λB w F xs hF hv=>calls_of_wp hf hb (jbu (joP ps h1) (jmH hF hv hN) hw λe s a w' F' h hk=>?_)⟩
    cases e with
    |exit id=>exact hk.elim
    |normal=>
     obtain ⟨v,k1,av,o',F2,k2,k3,k4⟩:=fin h hk;exact ⟨h.df,v,k1,v,av,o',F2,rfl,k2,k3,k4⟩
    |ret=>
     obtain ⟨v,k1,av,o',F2,k2,k3,k4⟩:=fin h hk;exact ⟨h.df,v,k1,v,av,o',F2,rfl,k2,k3,k4⟩
   ·simp at hc
  ·simp at hc
 ·simp at hc
theorem qo {f:FuncId} {fn:Func} {c:C} {args:List AV} {o:Nat->Ob} {rs:List R} {R:AV->(Nat->Ob)->Prop} (hf:P.funcs[f]?=some fn) (hc:fnC P fn=some (c,rs,N)) (hN:args.length<=N) (hw:wpC P β c (jHp rs R) (St.start args o)):Inl P f args o R:=jlf [] hf hc hN hw
end
section
variable {P:Program} {β:Nat} {s:St} {d:Option Nat} {g:Option (Nat×Bool)} {K:St->Prop} {Q:Ex->St->Prop}
def jjb (o:Option (D×jf)) (k:D->jf->Prop):Prop:=match o with
 |some (d,η)=>k d η
 |none=>False
def jo5 (o:Option D) (k:D->Prop):Prop:=match o with
 |some d=>k d
 |none=>False
theorem ownK_ (d:D) (η:jf) (k:D->jf->Prop):jjb (some (d,η)) k=k d η:=(rfl)
theorem jGE (d:D) (k:D->Prop):jo5 (some d) k=k d:=(rfl)
theorem jdt (o:Option (D×jf)) (k:D->jf->Prop):(∃d η,o=some (d,η)/\k d η)=jjb o k:=by
 cases o with
 |none=>simp [jjb]
 |some p=>
  obtain ⟨d,η⟩:=p
  apply propext
  constructor
  ·rintro ⟨_,_,h,h2⟩;cases h;exact h2
  ·intro h;exact ⟨d,η,rfl,h⟩
theorem joC (d:D):D.get [] d=some d:=by cases d<;>rfl
theorem jDU (k c:Nat) (p:List Nat) (x:Value) (R:D->Prop):(∃d,Is s (.h k c p x) d/\R d)=jjb ((s.o k).own c) λd0 η=>η p=x/\jo5 (D.get p d0) λd=>d.isSl=true/\R d:=by
 apply propext
 rw [<-jdt];constructor
 ·rintro ⟨d,⟨d0,η,h1,h2,h3,h4⟩,h5⟩;exact ⟨d0,η,h1,h2,by rw [h3];exact ⟨h4,h5⟩⟩
 ·rintro ⟨d0,η,h1,h2,h3⟩
  cases h:D.get p d0 with
  |none=>rw [h] at h3;exact h3.elim
  |some d=>rw [h] at h3;exact ⟨d,⟨d0,η,h1,h2,h,h3.1⟩,h3.2⟩
theorem jxC (d:D) (η:jf):(Ob.loose d η).own 0=some (d,η):=(rfl)
def ownC:Option Cell->Option (D×jf)
 |some (.own d η)=>some (d,η)
 |_=>none
theorem jDC (b ty:Nat) (cs:List Cell) (c:Nat):(Ob.box b ty cs).own c=ownC cs[c]?:=by
 simp only [Ob.own,ownC];split<;>simp_all
theorem ownC_ (d:D) (η:jf):ownC (some (.own d η))=some (d,η):=(rfl)
theorem rm_o (k c n:Nat):(s.rm k c).o n=if n=k then (s.o k).rm c else s.o n:=(rfl)
theorem rm_t (k c n:Nat):(s.rm k c).t n=s.t n:=(rfl)
theorem ju5 (d:D) (η:jf):(Ob.loose d η).rm 0=.none:=(rfl)
theorem jAz (b ty:Nat) (cs:List Cell) (c:Nat):(Ob.box b ty cs).rm c=.box b ty (rmC cs c cs[c]?):=(rfl)
theorem jDq (cs:List Cell) (c:Nat) (d:D) (η:jf):rmC cs c (some (.own d η))=cs.set c (.a (.v (η []))):=(rfl)
theorem jAK (k c:Nat) (p:List Nat) (x:Value):jB8 d s K false (.c (.h k c p x))=jjb ((s.o k).own c) λd0 η=>η p=x/\jo5 (D.get p d0) λdd=>dd.isSl=true/\0<dd.size/\K (s.put d (.c (.v (.int .i64 dd.len)))):=by
 rw [jGp,jDU]
theorem jD4 (size k c:Nat) (p:List Nat) (hx:Value) (kk:IntKind) (n:Int):iaK d s K size (.c (.h k c p hx)) (.c (.v (.int kk n)))=((0<=n/\jjb ((s.o k).own c) λd0 η=>η p=hx/\jo5 (D.get p d0) λdd=>dd.isSl=true/\dd.size=size/\n.toNat<dd.len)/\K (s.put d (.c (.ep k c p (n.toNat*size) hx)))):=by
 rw [iaK_h,jDU]
theorem jDP (agg:Bool) (n k c:Nat) (p:List Nat) (i:Nat) (x:Value):ldK d s K agg n (.c (.ep k c p i x))=jjb ((s.o k).own c) λd0 η=>η p=x/\jo5 (D.get p d0) λdd=>dd.isSl=true/\i+n<=dd.cells.length/\ldV agg (jig k c p η i ((dd.cells.drop i).take n)) λv=>K (s.put d v):=by
 apply propext
 rw [<-jdt];simp only [ldK];constructor
 ·rintro ⟨d0,η,dd,h1,h2,h3,h4⟩;exact ⟨d0,η,h1,h2,by rw [h3];exact h4⟩
 ·rintro ⟨d0,η,h1,h2,h3⟩
  cases h:D.get p d0 with
  |none=>rw [h] at h3;exact h3.elim
  |some dd=>rw [h] at h3;exact ⟨d0,η,dd,h1,h2,h,h3⟩
theorem jzR (k c:Nat) (x:Value) (l:List A0) (R:List Cell->St->Prop):qz s (.h k c [] x::l) R=jjb ((s.o k).own c) λd η=>η []=x/\qz (s.rm k c) l (λcs s'=>R (.own d η::cs) s'):=by
 rw [jEY,jdt]
def jcE (a:AV) (n:Nat) (k:List A0->Prop):Prop:=∃l,a.cells=some l/\l.length=n/\k l
theorem jy1 (l:List A0) (n:Nat) (k:List A0->Prop):jcE (.agg l) n k=(l.length=n/\k l):=by simp [jcE,AV.cells]
theorem jEz (a:A0) (n:Nat) (k:List A0->Prop):jcE (.c a) n k=(a.c1=true/\1=n/\k [a]):=by
 simp only [jcE,AV.cells];cases h:a.c1<;>simp
def jCq (s:St):List (Nat×Nat×X)->(List A0->Prop)->Prop
 |[],k=>k []
 |(_,size,x)::ps,k=>jcE (s.ev x) size λl=>jCq s ps λr=>k (l++r)
theorem jy3:∀(ps:List (Nat×Nat×X)) (k:List A0->Prop),(∃l,jvM s ps=some l/\k l)=jCq s ps k
 |[],k=>by simp [jvM,jCq]
 |(o,size,x)::ps,k=>by
  apply propext
  simp only [jCq,jcE,jvM];constructor
  ·rintro ⟨l,h1,h2⟩
   split at h1
   ·rename_i l1 r h3 h4
    split at h1
    ·rename_i h5
     simp at h1;subst h1;refine ⟨l1,h3,h5,?_⟩;rw [<-jy3 ps];exact ⟨r,h4,h2⟩
    ·simp at h1
   ·simp at h1
  ·rintro ⟨l1,h3,h5,h6⟩
   rw [<-jy3 ps] at h6;obtain ⟨r,h7,h8⟩:=h6;exact ⟨l1++r,by rw [h3,h7];simp [h5],h8⟩
theorem jEA (k:List A0->Prop):jCq s [] k=k []:=(rfl)
theorem jBq (o size:Nat) (x:X) (ps:List (Nat×Nat×X)) (k:List A0->Prop):jCq s ((o,size,x)::ps) k=jcE (s.ev x) size λl=>jCq s ps λr=>k (l++r):=(rfl)
def jqC (s:St):List A0->List (Nat×Nat×X)->(List A0->Prop)->Prop
 |cs,[],k=>k cs
 |cs,(off,size,x)::ps,k=>jcE (s.ev x) size λl=>off+size<=cs.length/\jqC s (ky cs off l) ps k
theorem jst:∀(ps:List (Nat×Nat×X)) (cs:List A0) (k:List A0->Prop),(∃l,jjC s cs ps=some l/\k l)=jqC s cs ps k
 |[],cs,k=>by simp [jjC,jqC]
 |(o,size,x)::ps,cs,k=>by
  apply propext
  simp only [jqC,jcE,jjC];constructor
  ·rintro ⟨l,h1,h2⟩
   split at h1
   ·rename_i l1 h3
    split at h1
    ·rename_i h5
     exact ⟨l1,h3,h5.1,h5.2,by rw [<-jst ps];exact ⟨l,h1,h2⟩⟩
    ·simp at h1
   ·simp at h1
  ·rintro ⟨l1,h3,h5,h6,h7⟩
   rw [<-jst ps] at h7;obtain ⟨r,h8,h9⟩:=h7;exact ⟨r,by rw [h3];simp [h5,h6,h8],h9⟩
theorem jA7 (cs:List A0) (k:List A0->Prop):jqC s cs [] k=k cs:=(rfl)
theorem jyt (cs:List A0) (off size:Nat) (x:X) (ps:List (Nat×Nat×X)) (k:List A0->Prop):jqC s cs ((off,size,x)::ps) k=jcE (s.ev x) size λl=>off+size<=cs.length/\jqC s (ky cs off l) ps k:=(rfl)
theorem jDg (zs:List Value) (ps:List (Nat×Nat×X)):vp P β ⟨d,g,.bld zs ps⟩ s K=jqC s (zs.map .v) ps λl=>K (s.put d (.agg l)):=by
 have e:=joD (P:=P) (β:=β) (s:=s) (d:=d) (g:=g) (K:=K) (i:=.bld zs ps) (G:=λav=>∃l,jjC s (zs.map .v) ps=some l/\av=.agg l) rfl (by
  intro _ _ av os;simp only [Gen];constructor
  ·rintro ⟨l,h1,h2,h3⟩;exact ⟨⟨l,h1,h2⟩,h3⟩
  ·rintro ⟨⟨l,h1,h2⟩,h3⟩;exact ⟨l,h1,h2,h3⟩)
 rw [e,<-jst]
 apply propext
 constructor
 ·rintro ⟨_,⟨l,h1,rfl⟩,h2⟩;exact ⟨l,h1,h2⟩
 ·rintro ⟨l,h1,h2⟩;exact ⟨_,⟨l,h1,rfl⟩,h2⟩
def jv1 (ks:List (Option (Nat×Nat))) (cs:List Cell) (k:List D->Prop):Prop:=∃ds,jas ks cs=some ds/\k ds
theorem jEt (ks:List (Option (Nat×Nat))) (k:List D->Prop):jv1 ks [] k=k []:=by simp [jv1,jas]
theorem dat_v (ks:List (Option (Nat×Nat))) (x:Value) (l:List Cell) (k:List D->Prop):jv1 ks (.a (.v x)::l) k=jv1 ks.tail l λr=>k (jre (ks.head?.getD none) x::r):=by
 simp only [jv1,jas];cases jas ks.tail l<;>simp
theorem jEs (ks:List (Option (Nat×Nat))) (dd:D) (η:jf) (l:List Cell) (k:List D->Prop):jv1 ks (.own dd η::l) k=jv1 ks.tail l λr=>k (dd::r):=by
 simp only [jv1,jas];cases jas ks.tail l<;>simp
theorem jGk (x:Value):jre none x=.val x:=(rfl)
theorem jDe (e size n:Nat) (ks:List (Option (Nat×Nat))) (ps:List (Nat×Nat×X)):vp P β ⟨d,g,.bsl e size n ks ps⟩ s K=jCq s ps λl=>qz s l λcs s'=>jv1 ks cs λds=>∀η,K ((s'.addO [(100*(β+d.getD 0),.loose (.sl size e ds) η)]).put d (.c (.h (100*(β+d.getD 0)) 0 [] (η [])))):=by
 rw [<-jy3];rfl
theorem jw4 (ty:Nat) (zs:List Value):vp P β ⟨d,g,.alloc ty zs⟩ s K=∀b,K ((s.addO [(100*(β+d.getD 0),.box b ty (zs.map λz=>.a (.v z)))]).put d (.c (.bp (100*(β+d.getD 0)) 0 b))):=by
 apply propext
 constructor
 ·rintro ⟨_,h⟩ b
  obtain ⟨_,_,⟨rfl,rfl⟩,h2⟩:=h ⟨b,λ_ _=>undef⟩
  exact h2
 ·intro h
  exact ⟨.c (.val undef),λst=>⟨_,_,⟨rfl,rfl⟩,h st.blk⟩⟩
def obK (o:Ob) (b:Nat) (k:Nat->List Cell->Prop):Prop:=match o with
 |.box b' ty ds=>b'=b/\k ty ds
 |_=>False
theorem obK_ (b b' ty:Nat) (ds:List Cell) (k:Nat->List Cell->Prop):obK (.box b' ty ds) b k=(b'=b/\k ty ds):=(rfl)
theorem jGh (o:Ob) (b:Nat) (k:Nat->List Cell->Prop):(∃ty ds,o=.box b ty ds/\k ty ds)=obK o b k:=by
 cases o with
 |box b' ty ds=>
  simp only [obK]
  apply propext
  constructor
  ·rintro ⟨_,_,h,h2⟩;cases h;exact ⟨by trivial,h2⟩
  ·rintro ⟨rfl,h2⟩;exact ⟨_,_,rfl,h2⟩
 |_=>simp [obK]
def stA (s':St) (K:St->Prop) (n:Nat) (ks:List (Option (Nat×Nat))) (cs:List Cell):AV->Prop
 |.c (.bp g c b)=>obK (s'.o g) b λty ds=>c+n<=ds.length/\K (s'.setO g (.box b ty (ky ds c cs)))
 |.c (.ep g c p k hx)=>0<n/\jv1 ks cs λds=>jjb ((s'.o g).own c) λd0 η=>η p=hx/\jo5 (D.get p d0) λdd=>dd.isSl=true/\k+n<=dd.cells.length/\
  stH (ka ds&&ka ((dd.cells.drop k).take n)) p k n η λaC=>K (s'.setO g ((s'.o g).putOwn c (D.put p k ds d0) aC))
 |_=>False
theorem jE2 (s':St) (n k c b:Nat) (ks:List (Option (Nat×Nat))) (cs:List Cell):stA s' K n ks cs (.c (.bp k c b))=obK (s'.o k) b λty ds=>c+n<=ds.length/\K (s'.setO k (.box b ty (ky ds c cs))):=(rfl)
theorem jE1 (s':St) (n k c i:Nat) (p:List Nat) (hx:Value) (ks:List (Option (Nat×Nat))) (cs:List Cell):stA s' K n ks cs (.c (.ep k c p i hx))=(0<n/\jv1 ks cs λds=>jjb ((s'.o k).own c) λd0 η=>η p=hx/\jo5 (D.get p d0) λdd=>dd.isSl=true/\i+n<=dd.cells.length/\
 stH (ka ds&&ka ((dd.cells.drop i).take n)) p i n η λaC=>K (s'.setO k ((s'.o k).putOwn c (D.put p i ds d0) aC))):=rfl
theorem jFp (n:Nat) (ks:List (Option (Nat×Nat))) (a x:X):vp P β ⟨none,g,.st n ks a x⟩ s K=jcE (s.ev x) n λl=>qz s l λcs s'=>stA s' K n ks cs (s.ev a):=by
 have e:vp P β ⟨none,g,.st n ks a x⟩ s K=((none:Option Nat)=none/\∃l,(s.ev x).cells=some l/\l.length=n/\qz s l λcs s'=>match s.ev a with
  |.c (.bp g c b)=>∃ty ds,s'.o g=.box b ty ds/\c+n<=ds.length/\K (s'.setO g (.box b ty (ky ds c cs)))
  |.c (.ep g c p k hx)=>0<n/\∃ds,jas ks cs=some ds/\∃d0 η dd,(s'.o g).own c=some (d0,η)/\η p=hx/\D.get p d0=some dd/\dd.isSl=true/\k+n<=dd.cells.length/\
   stH (ka ds&&ka ((dd.cells.drop k).take n)) p k n η λaC=>K (s'.setO g ((s'.o g).putOwn c (D.put p k ds d0) aC))
  |_=>False):=rfl
 rw [e];simp only [true_and,jcE]
 congr 1
 funext l
 congr 2
 congr 1
 funext cs s'
 cases hv:s.ev a with
 |c y=>
  cases y with
  |bp g c b=>simp only [stA,<-jGh]
  |ep g c p k hx=>
   simp only [stA,jv1]
   apply propext
   constructor
   ·rintro ⟨h0,ds,h1,d0,η,dd,h2,h3,h4,h5,h6,h7⟩
    exact ⟨h0,ds,h1,by rw [<-jdt];exact ⟨d0,η,h2,h3,by rw [h4];exact ⟨h5,h6,h7⟩⟩⟩
   ·rintro ⟨h0,ds,h1,h2⟩
    rw [<-jdt] at h2;obtain ⟨d0,η,h3,h4,h5⟩:=h2;cases hg:D.get p d0 with
    |none=>rw [hg] at h5;exact h5.elim
    |some dd=>rw [hg] at h5;exact ⟨h0,ds,h1,d0,η,dd,h3,h4,hg,h5⟩
  |_=>simp [stA]
 |_=>simp [stA]
theorem jpJ (d0 d1:D) (η aC:jf):(Ob.loose d0 η).putOwn 0 d1 aC=.loose d1 aC:=(rfl)
theorem juT (b ty:Nat) (cs:List Cell) (c:Nat) (d1:D) (aC:jf):(Ob.box b ty cs).putOwn c d1 aC=.box b ty (cs.set c (.own d1 aC)):=(rfl)
theorem jwW {α:Type} (l:List α) (c:Nat):ky l c []=l:=(rfl)
theorem juH {α:Type} (l:List α) (c:Nat) (x:α) (r:List α):ky l c (x::r)=ky (l.set c x) (c+1) r:=(rfl)
theorem jDi (e size bytes:Nat) (x y:X):vp P β ⟨d,g,.app e size bytes x y⟩ s K=jzu s size (s.ev y) λys s1=>jf5 s1 e size (s.ev x) λxs s2=>xs.length/size+ys.length/size<=maxLen/\(xs.length/size+ys.length/size)*bytes<=140737488355328/\
 ∀η,K ((s2.addO [(100*(β+d.getD 0),.loose (.sl size e (xs++ys)) η)]).put d (.c (.h (100*(β+d.getD 0)) 0 [] (η [])))):=rfl
theorem js5 (e:Nat) (x y:X):vp P β ⟨d,g,.apps e x y⟩ s K=∃b,s.ev y=.c (.v (.string b))/\jf5 s e 1 (s.ev x) λxs s2=>xs.length+b.size<=140737488355328/\
 ∀η,K ((s2.addO [(100*(β+d.getD 0),.loose (.sl 1 e (xs++strCells b)) η)]).put d (.c (.h (100*(β+d.getD 0)) 0 [] (η [])))):=rfl
theorem jE3 (size:Nat) (dd:D) (R:List D->St->Prop):jzu s size (.c (.ro dd)) R=(dd.isSl=true/\dd.size=size/\ka dd.cells=true/\R dd.cells s):=(rfl)
theorem src_h (size k c:Nat) (p:List Nat) (x:Value) (R:List D->St->Prop):jzu s size (.c (.h k c p x)) R=jjb ((s.o k).own c) λd0 η=>η p=x/\jo5 (D.get p d0) λdd=>dd.isSl=true/\dd.size=size/\(if ka dd.cells=true then R dd.cells s else p=[]/\jkn dd.cells=true/\R dd.cells (s.rm k c)):=by
 rw [<-jDU];rfl
theorem jBi (e size:Nat) (R:List D->St->Prop):jf5 s e size (.c (.v (.slice none 0 0))) R=R [] s:=(rfl)
def slK (dd:D) (e size:Nat) (k:List D->Prop):Prop:=∃cs,dd=.sl size e cs/\k cs
theorem jvZ (e size e' size':Nat) (cs:List D) (k:List D->Prop):slK (.sl size' e' cs) e size k=((size'=size/\e'=e)/\k cs):=by
 simp only [slK]
 apply propext
 constructor
 ·rintro ⟨_,h,h2⟩;cases h;exact ⟨⟨by trivial,by trivial⟩,h2⟩
 ·rintro ⟨⟨rfl,rfl⟩,h⟩;exact ⟨_,rfl,h⟩
theorem jG0 (e size k c:Nat) (x:Value) (R:List D->St->Prop):jf5 s e size (.c (.h k c [] x)) R=jjb ((s.o k).own c) λd0 η=>slK d0 e size λcs=>η []=x/\R cs (s.rm k c):=by
 apply propext
 rw [<-jdt];simp only [jf5,slK];constructor
 ·rintro (⟨_,cs,η,h1,h2,h3⟩|⟨_,h,_⟩)
  ·exact ⟨_,η,h1,cs,rfl,h2,h3⟩
  ·cases h
 ·rintro ⟨_,η,h1,cs,rfl,h2,h3⟩;exact .inl ⟨trivial,cs,η,h1,h2,h3⟩
def slkK (s:St) (g c k e size:Nat) (x:Value) (R:List D->St->Prop) (η:jf):D->Prop
 |.sl sz tyo ds0=>jo5 ds0[k]? λdd=>slK dd e size λcs=>η [k]=x/\∀aC,aC []=η []->R cs (s.setO g ((s.o g).putOwn c (.sl sz tyo (ds0.set k (.val x))) aC))
 |.val _=>False
theorem jz0 (g c k e size:Nat) (x:Value) (R:List D->St->Prop) (η:jf) (sz tyo:Nat) (ds0:List D):slkK s g c k e size x R η (.sl sz tyo ds0)=jo5 ds0[k]? λdd=>slK dd e size λcs=>η [k]=x/\∀aC,aC []=η []->R cs (s.setO g ((s.o g).putOwn c (.sl sz tyo (ds0.set k (.val x))) aC)):=(rfl)
theorem jEo (e size g c k:Nat) (x:Value) (R:List D->St->Prop):jf5 s e size (.c (.h g c [k] x)) R=jjb ((s.o g).own c) λd0 η=>slkK s g c k e size x R η d0:=by
 apply propext
 rw [<-jdt];simp only [jf5];constructor
 ·rintro (⟨h,_⟩|⟨k',h,sz,tyo,ds0,cs,η,h1,h2,h3,h4⟩)
  ·cases h
  ·cases h
   refine ⟨_,η,h1,?_⟩;rw [jz0,h2];exact ⟨cs,rfl,h3,h4⟩
 ·rintro ⟨d0,η,h1,h2⟩
  cases d0 with
  |val _=>exact h2.elim
  |sl sz tyo ds0=>
   rw [jz0] at h2;cases hk:ds0[k]? with
   |none=>rw [hk] at h2;exact absurd h2 (by simp [jo5])
   |some dd=>
    rw [hk] at h2;obtain ⟨cs,rfl,h3,h4⟩:=h2;exact .inr ⟨k,rfl,sz,tyo,ds0,cs,η,h1,hk,h3,h4⟩
theorem jyp:ka []=true:=(rfl)
theorem jvz (u:Value) (l:List D):ka (.val u::l)=(u.oneCell'&&ka l):=(rfl)
theorem vO:∀(l m:List D),ka (l++m)=(ka l&&ka m)
 |[],_=>by simp [ka]
 |.val u::l,m=>by simp [ka,vO l m,Bool.and_assoc]
 |.sl _ _ _::l,m=>by simp [ka]
theorem jrv {e size bytes:Nat} {zs:List D} {l c:X}:vp P β ⟨d,g,.mks e size bytes zs l c⟩ s K=∃(k k':IntKind) (n:Nat),s.ev l=.c (.v (.int k (n:Int)))/\s.ev c=.c (.v (.int k' (n:Int)))/\bytes*n<=281474976710656/\n<=maxLen/\
 ∀η,K ((s.addO [(100*(β+d.getD 0),.loose (.sl size e ((List.replicate n zs).flatten)) η)]).put d (.c (.h (100*(β+d.getD 0)) 0 [] (η [])))):=by
 apply propext
 constructor
 ·rintro ⟨_,h⟩
  obtain ⟨_,_,⟨k,k',n,h1,h2,h3,h4,rfl,rfl⟩,_⟩:=h ⟨0,λ_ _=>undef⟩
  refine ⟨k,k',n,h1,h2,h3,h4,λη=>?_⟩
  obtain ⟨_,_,⟨k1,k1',n1,cW,bI,_,_,rfl,rfl⟩,h6⟩:=h ⟨0,λ_=>η⟩
  rw [h1] at cW;cases cW;exact h6
 ·rintro ⟨k,k',n,h1,h2,h3,h4,h5⟩
  exact ⟨.c (.val undef),λst=>⟨_,_,⟨k,k',n,h1,h2,h3,h4,rfl,rfl⟩,h5 (st.η 0)⟩⟩
def bnd (s:St) (x:Option X) (dflt:Nat) (k:Nat->Prop):Prop:=match x with
 |none=>k dflt
 |some x=>∃kk n,s.ev x=.c (.v (.int kk n))/\0<=n/\k n.toNat
def bndA (a:AV) (k:Nat->Prop):Prop:=match a with
 |.c (.v (.int _ n))=>0<=n/\k n.toNat
 |_=>False
theorem bndA_ (kk:IntKind) (n:Int) (k:Nat->Prop):bndA (.c (.v (.int kk n))) k=(0<=n/\k n.toNat):=(rfl)
theorem bnd_n (dflt:Nat) (k:Nat->Prop):bnd s none dflt k=k dflt:=(rfl)
theorem bnd_s (x:X) (dflt:Nat) (k:Nat->Prop):bnd s (some x) dflt k=bndA (s.ev x) k:=by
 simp only [bnd]
 apply propext
 constructor
 ·rintro ⟨kk,n,h1,h2⟩;rw [h1];exact h2
 ·intro h
  unfold bndA at h;split at h
  ·rename_i kk n he;exact ⟨kk,n,he,h⟩
  ·exact h.elim
theorem jlV (x:Option X) (dflt:Nat) (R:Nat->Prop):(∃l,jhK s x dflt l/\R l)=bnd s x dflt R:=by
 apply propext
 cases x with
 |none=>constructor
        ·rintro ⟨l,rfl,h⟩;exact h
        ·intro h;exact ⟨_,rfl,h⟩
 |some x=>
  constructor
  ·rintro ⟨l,⟨k,h1⟩,h2⟩;exact ⟨k,l,h1,Int.natCast_nonneg _,by simpa using h2⟩
  ·rintro ⟨k,n,h1,h2,h3⟩;exact ⟨n.toNat,⟨k,by rw [h1,Int.toNat_of_nonneg h2]⟩,h3⟩
def slA (d:Option Nat) (s:St) (K:St->Prop) (size:Nat) (lo hi:Option X):AV->Prop
 |.c (.v (.string b))=>size=0/\bnd s lo 0 λl=>bnd s hi b.size λh=>(l<=h/\h<=b.size)/\K (s.put d (.c (.v (.string (b.extract l h)))))
 |.c (.ro dd)=>(0<size/\dd.isSl=true/\dd.size=size)/\bnd s lo 0 λl=>bnd s hi dd.len λh=>(l<=h/\h<=dd.len)/\K (s.put d (.c (.ro (dd.sub l h))))
 |.c (.h k c p x)=>0<size/\jjb ((s.o k).own c) λd0 η=>η p=x/\jo5 (D.get p d0) λdd=>(dd.isSl=true/\dd.size=size)/\bnd s lo 0 λl=>bnd s hi dd.len λh=>(l<=h/\h<=dd.len)/\K (s.put d (.c (.hs k c p x size l (h-l))))
 |.c (.hs k c p x sz lo0 m)=>((∃dd,Is s (.hs k c p x sz lo0 m) dd)/\sz=size)/\bnd s lo 0 λl=>bnd s hi m λh=>(l<=h/\h<=m)/\K (s.put d (.c (.hs k c p x size (lo0+l) (h-l))))
 |_=>False
theorem jFq (size:Nat) (x:X) (lo hi:Option X):vp P β ⟨d,g,.sl size x lo hi⟩ s K=slA d s K size lo hi (s.ev x):=by
 have e:=joD (P:=P) (β:=β) (s:=s) (d:=d) (g:=g) (K:=K) (i:=.sl size x lo hi) (G:=λav=>∃l h,jhK s lo 0 l/\l<=h/\(match s.ev x with
  |.c (.v (.string b))=>size=0/\jhK s hi b.size h/\h<=b.size/\av=.c (.v (.string (b.extract l h)))
  |.c (.ro d)=>0<size/\d.isSl=true/\d.size=size/\jhK s hi d.len h/\h<=d.len/\av=.c (.ro (d.sub l h))
  |.c (.h g c p hx)=>0<size/\(∃d,Is s (.h g c p hx) d/\d.size=size/\jhK s hi d.len h/\h<=d.len)/\av=.c (.hs g c p hx size l (h-l))
  |.c (.hs g c p hx sz lo m)=>(∃d,Is s (.hs g c p hx sz lo m) d)/\sz=size/\jhK s hi m h/\h<=m/\av=.c (.hs g c p hx size (lo+l) (h-l))
  |_=>False)) rfl (by
  intro _ _ av os;simp only [Gen];constructor
  ·rintro ⟨l,h,h1,h2,h3,h4⟩;exact ⟨⟨l,h,h1,h2,h3⟩,h4⟩
  ·rintro ⟨⟨l,h,h1,h2,h3⟩,h4⟩;exact ⟨l,h,h1,h2,h3,h4⟩)
 rw [e]
 apply propext
 cases hv:s.ev x with
 |c y=>
  cases y with
  |v u=>
   cases u with
   |string b=>
    simp only [slA,<-jlV];constructor
    ·rintro ⟨_,⟨l,h,h1,h2,h3,h4,h5,rfl⟩,h6⟩;exact ⟨h3,l,h1,h,h4,⟨h2,h5⟩,h6⟩
    ·rintro ⟨h3,l,h1,h,h4,⟨h2,h5⟩,h6⟩;exact ⟨_,⟨l,h,h1,h2,h3,h4,h5,rfl⟩,h6⟩
   |_=>simp [slA]
  |ro dd=>
   simp only [slA,<-jlV];constructor
   ·rintro ⟨_,⟨l,h,h1,h2,h3,h4,h5,h6,h7,rfl⟩,h8⟩;exact ⟨⟨h3,h4,h5⟩,l,h1,h,h6,⟨h2,h7⟩,h8⟩
   ·rintro ⟨⟨h3,h4,h5⟩,l,h1,h,h6,⟨h2,h7⟩,h8⟩;exact ⟨_,⟨l,h,h1,h2,h3,h4,h5,h6,h7,rfl⟩,h8⟩
  |h k c p hx=>
   simp only [slA];constructor
   ·rintro ⟨_,⟨l,h,h1,h2,h3,⟨dd,⟨d0,η,k1,k2,k3,k4⟩,k5,k6,k7⟩,rfl⟩,h8⟩
    refine ⟨h3,?_⟩;rw [<-jdt];refine ⟨d0,η,k1,k2,?_⟩;rw [k3];refine ⟨⟨k4,k5⟩,?_⟩;rw [<-jlV];refine ⟨l,h1,?_⟩;rw [<-jlV];exact ⟨h,k6,⟨h2,k7⟩,h8⟩
   ·rintro ⟨h3,h4⟩
    rw [<-jdt] at h4;obtain ⟨d0,η,k1,k2,k3⟩:=h4;cases hg:D.get p d0 with
    |none=>rw [hg] at k3;exact k3.elim
    |some dd=>
     rw [hg] at k3;obtain ⟨⟨k4,k5⟩,k6⟩:=k3;rw [<-jlV] at k6;obtain ⟨l,h1,k7⟩:=k6;rw [<-jlV] at k7;obtain ⟨h,k8,⟨h2,k9⟩,h8⟩:=k7;exact ⟨_,⟨l,h,h1,h2,h3,⟨dd,⟨d0,η,k1,k2,hg,k4⟩,k5,k8,k9⟩,rfl⟩,h8⟩
  |hs k c p hx sz lo0 m=>
   simp only [slA,<-jlV];constructor
   ·rintro ⟨_,⟨l,h,h1,h2,h3,h4,h5,h6,rfl⟩,h7⟩;exact ⟨⟨h3,h4⟩,l,h1,h,h5,⟨h2,h6⟩,h7⟩
   ·rintro ⟨⟨h3,h4⟩,l,h1,h,h5,⟨h2,h6⟩,h7⟩;exact ⟨_,⟨l,h,h1,h2,h3,h4,h5,h6,rfl⟩,h7⟩
  |_=>simp [slA]
 |_=>simp [slA]
theorem jCU (size:Nat) (lo hi:Option X) (b:ByteArray):slA d s K size lo hi (.c (.v (.string b)))=(size=0/\bnd s lo 0 λl=>bnd s hi b.size λh=>(l<=h/\h<=b.size)/\K (s.put d (.c (.v (.string (b.extract l h)))))):=(rfl)
theorem jE6 (size:Nat) (lo hi:Option X) (dd:D):slA d s K size lo hi (.c (.ro dd))=((0<size/\dd.isSl=true/\dd.size=size)/\bnd s lo 0 λl=>bnd s hi dd.len λh=>(l<=h/\h<=dd.len)/\K (s.put d (.c (.ro (dd.sub l h))))):=(rfl)
theorem slA_h (size:Nat) (lo hi:Option X) (k c:Nat) (p:List Nat) (x:Value):slA d s K size lo hi (.c (.h k c p x))=(0<size/\jjb ((s.o k).own c) λd0 η=>η p=x/\jo5 (D.get p d0) λdd=>(dd.isSl=true/\dd.size=size)/\bnd s lo 0 λl=>bnd s hi dd.len λh=>(l<=h/\h<=dd.len)/\K (s.put d (.c (.hs k c p x size l (h-l))))):=(rfl)
theorem jE7 (size:Nat) (lo hi:Option X) (k c:Nat) (p:List Nat) (x:Value) (sz lo0 m:Nat):slA d s K size lo hi (.c (.hs k c p x sz lo0 m))=(((∃dd,Is s (.hs k c p x sz lo0 m) dd)/\sz=size)/\bnd s lo 0 λl=>bnd s hi m λh=>(l<=h/\h<=m)/\K (s.put d (.c (.hs k c p x size (lo0+l) (h-l))))):=(rfl)
theorem jGs (k c:Nat) (p:List Nat) (x:Value) (sz lo n:Nat) (R:D->Prop):(∃d,Is s (.hs k c p x sz lo n) d/\R d)=jjb ((s.o k).own c) λd0 η=>η p=x/\jo5 (D.get p d0) λdd=>(dd.isSl=true/\dd.size=sz/\0<sz/\lo+n<=dd.len)/\R (dd.sub lo (lo+n)):=by
 apply propext
 rw [<-jdt];constructor
 ·rintro ⟨d,⟨d0,η,dd,h1,h2,h3,h4,h5,h6,h7,rfl⟩,h8⟩;exact ⟨d0,η,h1,h2,by rw [h3];exact ⟨⟨h4,h5,h6,h7⟩,h8⟩⟩
 ·rintro ⟨d0,η,h1,h2,h3⟩
  cases h:D.get p d0 with
  |none=>rw [h] at h3;exact h3.elim
  |some dd=>rw [h] at h3;obtain ⟨⟨h4,h5,h6,h7⟩,h8⟩:=h3;exact ⟨_,⟨d0,η,dd,h1,h2,h,h4,h5,h6,h7,rfl⟩,h8⟩
theorem jE4 (size k c:Nat) (p:List Nat) (x:Value) (sz lo n:Nat) (R:List D->St->Prop):jzu s size (.c (.hs k c p x sz lo n)) R=jjb ((s.o k).own c) λd0 η=>η p=x/\jo5 (D.get p d0) λdd=>(dd.isSl=true/\dd.size=sz/\0<sz/\lo+n<=dd.len)/\(dd.sub lo (lo+n)).size=size/\ka (dd.sub lo (lo+n)).cells=true/\R (dd.sub lo (lo+n)).cells s:=
 jGs (s:=s) k c p x sz lo n λd=>d.size=size/\ka d.cells=true/\R d.cells s
theorem jDO (k c:Nat) (p:List Nat) (x:Value) (sz lo n:Nat):jB8 d s K false (.c (.hs k c p x sz lo n))=((∃dd,Is s (.hs k c p x sz lo n) dd)/\K (s.put d (.c (.v (.int .i64 n))))):=by
 rw [jxR]
 apply propext
 constructor
 ·rintro ⟨_,⟨h1,rfl⟩,h2⟩;exact ⟨h1,h2⟩
 ·rintro ⟨h1,h2⟩;exact ⟨_,⟨h1,rfl⟩,h2⟩
theorem jGC (size k c:Nat) (p:List Nat) (hx:Value) (sz lo m:Nat) (kk:IntKind) (n:Int):iaK d s K size (.c (.hs k c p hx sz lo m)) (.c (.v (.int kk n)))=((0<=n/\(∃dd,Is s (.hs k c p hx sz lo m) dd)/\sz=size/\n.toNat<m)/\K (s.put d (.c (.ep k c p ((lo+n.toNat)*size) hx)))):=(rfl)
theorem ret_r (rs:List R) (rt:RT):jAj rs rt .ret s=jv2 rs rt s:=(rfl)
def St.n (s:St) (i:Nat):Nat:=match s.t i with|.c (.v (.int _ n))=>n.toNat|_=>0
theorem jbr {i:Nat} {k:IntKind} {n:Int} (h:s.t i=.c (.v (.int k n))):s.n i=n.toNat:=by simp [St.n,h]
theorem kS {x:Int} (h:-9223372036854775808<=x) (h':x<9223372036854775808):IntKind.i64.wrap x=x:=IntWalk.i64_in _ (by omega)
theorem is_v (x:Value):Is s (.v x) (.val x)=True:=by simp [Is]
theorem is_ro (d:D):Is s (.ro d) d=True:=by simp [Is]
theorem jB9 (size:Nat) (ty:TypeId):Is s (.v (.slice none 0 0)) (.sl size ty [])=True:=by simp [Is]
theorem jDV:IsL s [] []=True:=(rfl)
theorem jAM (a:A0) (l:List A0) (d:D) (ds:List D):IsL s (a::l) (d::ds)=(Is s a d/\IsL s l ds):=(rfl)
theorem jBA:zR s [] []=True:=(rfl)
theorem jzl (a:AV) (l:List AV) (v:View) (vs:List View):zR s (a::l) (v::vs)=(jmB s a v/\zR s l vs):=(rfl)
theorem arg_c (a:A0) (d:D):jmB s (.c a) (.c d)=Is s a d:=(rfl)
theorem jEE (l:List A0) (ds:List D):jmB s (.agg l) (.agg ds)=IsL s l ds:=(rfl)
theorem jED (a:A0) (ds:List D):jmB s (.c a) (.ptr ds)=Ptr s a ds:=(rfl)
theorem jHf (f:Nat) (caps:List A0) (caps':List (List D)):jmB s (.fn f caps) (.fn f caps')=jBD s caps caps':=by simp [jmB]
theorem jAs:jBD s [] []=True:=(rfl)
theorem jxs (a:A0) (l:List A0) (d:List D) (ds:List (List D)):jBD s (a::l) (d::ds)=(Ptr s a d/\jBD s l ds):=(rfl)
theorem jFY (ds:List D):Ptr s (.rp ds) ds=True:=by simp [Ptr]
theorem is_h0 (k c:Nat) (x:Value) (d:D):Is s (.h k c [] x) d=jjb ((s.o k).own c) λd0 η=>d0=d/\η []=x/\d.isSl=true:=by
 apply propext
 rw [<-jdt];simp only [Is,joC];constructor
 ·rintro ⟨d0,η,h1,h2,h3,h4⟩;cases h3;exact ⟨_,η,h1,rfl,h2,h4⟩
 ·rintro ⟨_,η,h1,rfl,h2,h3⟩;exact ⟨_,η,h1,h2,rfl,h3⟩
theorem jex {k c:Nat} {x:Value} {ty:Nat} {cs:List D} {η:jf} {bs:List UInt8} (h1:(s.o k).own c=some (.sl 1 ty cs,η)) (h2:η []=x) (h3:cs=bs.map qe) (hk:K (s.put d (.c (.v (.string ⟨bs.toArray⟩))))):cvK d s K .text (.c (.h k c [] x)):=by
 subst h3;exact ⟨_,⟨_,ty,bs,rfl,⟨_,η,h1,h2,joC _,rfl⟩,rfl⟩,hk⟩
end
theorem jBf (s:Nat) (t:TypeId) (cs:List D):(D.sl s t cs).size=s:=(rfl)
theorem jyR (s:Nat) (t:TypeId) (cs:List D):(D.sl s t cs).cells=cs:=(rfl)
theorem jGU (s:Nat) (t:TypeId) (cs:List D):(D.sl s t cs).isSl=true:=(rfl)
theorem jEj (s:Nat) (t:TypeId) (cs:List D) (g:Nat) (η:jf):(D.sl s t cs).obj g η=[(g,.loose (.sl s t cs) η)]:=(rfl)
theorem jGW (v:Value) (g:Nat) (η:jf):(D.val v).obj g η=[]:=(rfl)
theorem jEi (s:Nat) (t:TypeId) (cs:List D) (g c:Nat) (p:List Nat) (η:jf):(D.sl s t cs).toOwn g c p η=.h g c p (η p):=(rfl)
theorem jGV (v:Value) (g c:Nat) (p:List Nat) (η:jf):(D.val v).toOwn g c p η=.v v:=(rfl)
theorem jEg (s:Nat) (t:TypeId) (cs:List D) (l h:Nat):(D.sl s t cs).sub l h=.sl s t ((cs.drop (l*s)).take ((h-l)*s)):=(rfl)
attribute [go_sem] jBf jyR jGU jEj jGW jEi jGV jEg jCD jDl jDj jDk jFx jFy jFz jFA jFB jFQ jFR jFS jFT jx1 jvm jx2 jvn jDR jDS jC2 jwZ I.looks AV.looks A0.looks AV.ids A0.ids List.flatMap_cons List.flatMap_nil List.append_nil List.contains_cons List.contains_nil Bool.or_false Bool.or_true Bool.or_self Bool.false_or Bool.true_or ite_true ite_false jFq jCU jE6 slA_h jE7 bnd_n bnd_s bndA_ jE4 jDO jGC jGk jpJ juT List.tail_cons List.head?_cons Nat.zero_add jzG jEP jrg jBF jzH jCC jv8 jv9 thn_n thn_e thn_r blk_n blk_r blk_e jAc jw3 jC8 jC9 jDa jDb jC4 jAb jF6 jFv jGJ jGL jGK jFs jGq jGr jDP ldB_ ldV_t ldV_f jFt jGB jD4 jC6 jDN jAJ jAL jAK jDh jHa jBw jBv jy9 jFo jCJ jFw jEv jFr mmK_ jDc extK_ jGM jGN jAa jFi jDf jBs jG8 jDe jDg jw4 jFp jE2 jDi jE3 src_h jBi jG0 jEo jz0 jvZ ownK_ jGE joC jxC jDC ownC_ rm_o rm_t ju5 jAz jDq obK_ jy1 jEz jEA jBq jA7 jyt jEt dat_v jEs jwW juH jyp jvz vO jsR jEX jCN jzR one_i one_b one_s one_n A0.c1 ev_t ev_i ev_b ev_s ev_n put_t put_o jFm jFn jBC jzs jGw jGx View.av jFC jAP jcB jez ret_r is_v is_ro jB9 jDV jAM jBA jzl arg_c jEE jED jHf jAs jxs jFY is_h0 RT.flat jl3 RT.av jF9 jHn List.map_cons List.map_nil List.length_cons List.length_nil List.take_succ_cons List.take_zero List.drop_succ_cons List.drop_zero List.getElem?_cons_zero List.getElem?_cons_succ List.set_cons_zero List.set_cons_succ List.cons_append List.nil_append Option.getD_some Nat.lt_add_one and_true true_and and_self forall_const imp_self implies_true ge_iff_le gt_iff_lt decide_true decide_false Bool.not_true Bool.not_false Bool.and_self Bool.false_eq_true Int.toNat_natCast Int.natCast_nonneg not_false_eq_true ne_eq
attribute [go_sem_proc] Nat.reduceEqDiff Nat.reduceMul Nat.reduceAdd Nat.reduceLeDiff Nat.reduceLT Nat.reduceBEq Nat.reduceSub reduceCtorEq Int.reduceEq
attribute [go_sem_proc↓] reduceIte
section
variable {P:Program} {β:Nat} {s:St} {Q Q':Ex->St->Prop}
theorem jkQ:∀{is:List Ins} {s:St} {K K':St->Prop},(∀s,K s->K' s)->jhO P β is s K->jhO P β is s K'
 |[],_,_,_,h,hk=>h _ hk
 |i::l,s,K,K',h,hk=>by
  simp only [jhO] at hk⊢;split
  ·rename_i hw;simp only [hw] at hk;exact jgj (λs'=>jkQ h) hk
  ·rename_i hw;simp only [hw] at hk;exact jkQ h hk
  ·rename_i hw;simp only [hw] at hk
theorem jbE:∀{t:T} {l:List (Nat×List Lk)} {s:St} {K K':St->Prop},(∀s,K s->K' s)->zz P β t l s K->zz P β t l s K'
 |.done,_,_,_,_,h,hk=>h _ hk
 |.stop,_,_,_,_,_,_=>trivial
 |.pure p i t,l,s,K,K',h,hk=>by
  simp only [zz] at hk⊢;split
  ·rename_i hw;simp only [hw] at hk;exact jgj (λs'=>jbE h) hk
  ·rename_i hw;simp only [hw] at hk;exact jbE h hk
  ·rename_i hw;simp only [hw] at hk
 |.alt i chk t r,l,s,K,K',h,hk=>by
  simp only [zz] at hk⊢;refine ⟨?_,jbE h hk.2⟩;have hk:=hk.1;split
  ·rename_i hw;simp only [hw] at hk;exact jgj (λs' ⟨h1,h2⟩=>⟨h1,jbE h h2⟩) hk
  ·rename_i hw;simp only [hw] at hk;exact jbE h hk
  ·rename_i hw;simp only [hw] at hk
theorem jgd {n n':St->Prop} (hn:∀s,n s->n' s) (hQ:∀e s,Q e s->Q' e s):∀e s,Ex.thn n Q e s->Ex.thn n' Q' e s
 |.normal,_,h=>hn _ h
 |.exit _,_,h=>hQ _ _ h
 |.ret,_,h=>hQ _ _ h
theorem jBt {id:Nat} (hQ:∀e s,Q e s->Q' e s):∀e s,Ex.inBlk id Q e s->Ex.inBlk id Q' e s
 |.normal,_,h=>hQ _ _ h
 |.exit id',_,h=>by
  simp only [Ex.inBlk] at h⊢;by_cases e:id'=id
  ·rw [if_pos e] at h⊢;exact hQ _ _ h
  ·rw [if_neg e] at h⊢;exact hQ _ _ h
 |.ret,_,h=>hQ _ _ h
theorem zT:∀(c:C) {s:St} {Q Q':Ex->St->Prop},(∀e s,Q e s->Q' e s)->wpC P β c Q s->wpC P β c Q' s
 |.skip,_,_,_,h,hk=>h _ _ hk
 |.reg _,_,_,_,h,hk=>jkQ (λ_=>h _ _) hk
 |.dreg _,_,_,_,h,hk=>jbE (λ_=>h _ _) hk
 |.seq a b,s,Q,Q',h,hk=>by
  rw [jrg] at hk⊢;exact zT a (jgd (λ_=>zT b h) h) hk
 |.cond x a b,_,_,_,h,⟨t,h1,h2,h3⟩=>⟨t,h1,λht=>zT a h (h2 ht),λht=>zT b h (h3 ht)⟩
 |.blk id a,s,Q,Q',h,hk=>by
  rw [jBF] at hk⊢;exact zT a (jBt h) hk
 |.loop a,_,_,_,h,⟨ι,mk,J,μ,h1,h2⟩=>⟨ι,mk,J,μ,h1,λi hi=>zT a (jgd (λ_ h=>h) h) (h2 i hi)⟩
 |.gh a,_,_,_,h,hk=>λ_ _ _ _ _ _ hr=>let ⟨s',F',h1,h2⟩:=hk _ _ _ _ _ _ hr;⟨s',F',h1,zT a h h2⟩
 |.exit _,_,_,_,h,hk=>h _ _ hk
 |.ret,_,_,_,h,hk=>h _ _ hk
theorem Wk.refl (s:St):Wk s s:=λ_ _ _ _ _ F h=>⟨F,h,λg b hb=>⟨g,hb⟩⟩
theorem qT {a:C} {s:St} (J:St->Prop) (μ:St->Nat) (h:J s) (hr:∀s,J s->wpC P β a (Ex.thn (λs'=>J s'/\μ s'<μ s) Q) s):wpC P β (.loop a) Q s:=by
 refine ⟨St,id,J,μ,⟨s,h,.refl s⟩,λs hs=>zT a (jgd (λs' ⟨h1,h2⟩=>⟨s',h1,.refl s',h2⟩) λ_ _ h=>h) (hr s hs)⟩
theorem jxV {p:Nat->Prop} (h:∃n,p n):∃n,p n/\∀m,p m->n<=m:=by
 obtain ⟨n,hn⟩:=h
 induction n using Nat.strongRecOn with
 |_ n ih=>
  by_cases hm:∃m,m<n/\p m
  ·obtain ⟨m,h1,h2⟩:=hm
   exact ih m h1 h2
  ·exact ⟨n,hn,λm hp=>Nat.le_of_not_lt λaB=>hm ⟨m,aB,hp⟩⟩
def rounds (P:Program) (β:Nat) (a:C) (Q:Ex->St->Prop):Nat->St->Prop
 |0,_=>False
 |n+1,s=>wpC P β a (Ex.thn (rounds P β a Q n) Q) s
open Classical in
theorem jv7 {a:C} {n:Nat} (h:rounds P β a Q n s):wpC P β (.loop a) Q s:=by
 refine qT (λs=>∃n,rounds P β a Q n s) (λs=>if h:∃n,rounds P β a Q n s then Classical.choose (jxV h) else 0) ⟨n,h⟩ ?_
 intro s hs;obtain ⟨h1,h0⟩:=Classical.choose_spec (jxV hs)
 obtain ⟨m,hm⟩:∃m,Classical.choose (jxV hs)=m+1:=by
  cases hq:Classical.choose (jxV hs) with
  |zero=>rw [hq] at h1;exact h1.elim
  |succ m=>exact ⟨m,rfl⟩
 rw [hm] at h1;refine zT _ (jgd (λs' h2=>⟨⟨m,h2⟩,?_⟩) λ_ _ h=>h) h1
 have h3:∃n,rounds P β a Q n s':=⟨m,h2⟩;have h4:=(Classical.choose_spec (jxV h3)).2 m h2;simp only [dif_pos hs,dif_pos h3,hm];omega
theorem jac {a:C} {s:St} (n:Nat) (h:wpC P β a (Ex.thn (rounds P β a Q n) Q) s):wpC P β (.loop a) Q s:=jv7 (n:=n+1) h
theorem jDm (a:C) (n:Nat):rounds P β a Q (n+1) s=wpC P β a (Ex.thn (rounds P β a Q n) Q) s:=(rfl)
theorem jwc {t:Nat} {w:Bool} (h:s.t t=.c (.v undef)):zf s (some (t,w))=some false:=by
 simp only [zf,h];rfl
theorem jFu {t:Nat} {w:Bool} {d:Option Nat} {K:St->Prop} (i:I) (l:List Ins) (h:s.t t=.c (.v undef)):jhO P β (⟨d,some (t,w),i⟩::l) s K=jhO P β l (s.put d (.c (.v undef))) K:=by
 simp only [jhO,jwc h]
theorem rt_gu {t p:Nat} {w:Bool} {d:Option Nat} {l:List (Nat×List Lk)} {K:St->Prop} (i:I) (t':T) (h:s.t t=.c (.v undef)):zz P β (.pure p ⟨d,some (t,w),i⟩ t') l s K=zz P β t' l (s.put d (.c (.v undef))) K:=by
 simp only [zz,jwc h]
theorem ra_gu {t:Nat} {w:Bool} {d:Option Nat} {l:List (Nat×List Lk)} {K:St->Prop} (i:I) (chk:List Nat) (t' r:T) (h:s.t t=.c (.v undef)):zz P β (.alt ⟨d,some (t,w),i⟩ chk t' r) l s K=(zz P β t' l (s.put d (.c (.v undef))) K/\zz P β r l s K):=by
 simp only [zz,jwc h]
theorem jx6:IsD [] []=True:=by simp [IsD]
theorem jDX (x:Value) (l:List Cell) (d:D) (ds:List D):IsD (.a (.v x)::l) (d::ds)=((d=.val x\/x=.slice none 0 0/\∃size ty,d=.sl size ty [])/\IsD l ds):=rfl
theorem jDW (x:Value) (l:List Cell) (ds:List D):IsD (.a (.v x)::l) (.val x::ds)=IsD l ds:=by rw [jDX];simp
theorem isD_1 (x u:Value):IsD [.a (.v x)] [.val u]=(x=u):=by
 rw [jDX];simp only [jx6];apply propext;constructor
 ·rintro ⟨h|⟨_,_,_,h⟩,_⟩
  ·cases h;rfl
  ·cases h
 ·rintro rfl;exact ⟨.inl rfl,trivial⟩
theorem jes (l:List Cell) (size:Nat) (ty:TypeId) (ds:List D):IsD (.a (.v (.slice none 0 0))::l) (.sl size ty []::ds)=IsD l ds:=by rw [jDX];simp
theorem jDY (d d':D) (η:jf) (l:List Cell) (ds:List D):IsD (.own d' η::l) (d::ds)=(d'=d/\IsD l ds):=(rfl)
def jxh (s:St):RT->AV->Prop
 |.c d,.c a=>qz s [a] λcs _=>IsD cs [d]
 |.agg ds,.agg l=>qz s l λcs _=>IsD cs ds
 |_,_=>False
theorem jFL (d:D) (a:A0):jxh s (.c d) (.c a)=qz s [a] λcs _=>IsD cs [d]:=(rfl)
theorem jAk (ds:List D) (l:List A0):jxh s (.agg ds) (.agg l)=qz s l λcs _=>IsD cs ds:=(rfl)
theorem ret_t (n:Nat) (rt:RT):jv2 [.t n] rt s=jxh s rt (s.t n):=by
 apply propext
 simp only [jv2,jju];cases h:s.t n with
 |c a=>cases rt<;>simp [jxh,ja0,RT.flat]
 |agg l=>cases rt<;>simp [jxh,ja0,RT.flat]
 |_=>cases rt<;>simp [jxh]
def jrB (s:St) (agg:Bool) (k:Nat) (rt:RT) (a:AV):Prop:=∃l,jaw s k l a/\(agg=true\/l.length=1)/\ja0 rt [(agg,l)]/\qz s ([(agg,l)].flatMap (·.2)) λcs _=>IsD cs rt.flat
theorem jAi (n k:Nat) (agg:Bool) (rt:RT):jv2 [.cell n agg k] rt s=jrB s agg k rt (s.t n):=(rfl)
theorem juN (k g c b:Nat) (agg:Bool) (rt:RT):jrB s agg k rt (.c (.bp g c b))=ldB (s.o g) g c b k λl=>ldV agg l λv=>jxh s rt v:=by
 apply propext
 simp only [jrB,jaw];cases ho:s.o g with
 |box b' ty cs=>
  simp only [ldB,Ob.box.injEq];constructor
  ·rintro ⟨l,⟨_,_,⟨rfl,rfl,rfl⟩,h2,rfl⟩,h3,h4,h5⟩
   refine ⟨rfl,h2,?_⟩;cases agg with
   |true=>cases rt<;>simp_all [ldV,jxh,ja0,RT.flat]
   |false=>
    obtain ⟨a,ha⟩:=List.length_eq_one_iff.1 (by simpa using h3)
    rw [ha] at h4 h5⊢;cases rt<;>simp_all [ldV,jxh,ja0,RT.flat]
  ·rintro ⟨rfl,h2,h3⟩
   refine ⟨_,⟨ty,cs,⟨rfl,rfl,rfl⟩,h2,rfl⟩,?_⟩;cases agg with
   |true=>cases rt<;>simp_all [ldV,jxh,ja0,RT.flat]
   |false=>
    generalize jez g c ((cs.drop c).take k)=l at h3⊢
    match l,h3 with
    |[a],h3=>cases rt<;>simp_all [ldV,jxh,ja0,RT.flat]
 |_=>simp [ldB]
theorem ri_r (rs:List R) (K:AV->(Nat->Ob)->Prop):jHp rs K .ret s=jv3 rs K s:=(rfl)
theorem ri_n (rs:List R) (K:AV->(Nat->Ob)->Prop):jHp rs K .normal s=jv3 rs K s:=(rfl)
def retI (s:St) (K:AV->(Nat->Ob)->Prop):AV->Prop
 |.c a=>K (.c a) s.o
 |.agg l=>K (.agg l) s.o
 |_=>False
theorem jFK (K:AV->(Nat->Ob)->Prop) (a:A0):retI s K (.c a)=K (.c a) s.o:=(rfl)
theorem jFG (n:Nat) (K:AV->(Nat->Ob)->Prop):jv3 [.t n] K s=retI s K (s.t n):=by
 simp only [jv3,jju];cases h:s.t n<;>simp [retI]
theorem jFH (K:AV->(Nat->Ob)->Prop):jv3 [] K s=K (.tup []) s.o:=(rfl)
def jnV (s:St) (agg:Bool) (k:Nat) (K:AV->(Nat->Ob)->Prop) (a:AV):Prop:=∃l,jaw s k l a/\(agg=true\/l.length=1)/\(match [(agg,l)] with
 |[(true,l)]=>K (.agg l) s.o
 |[(false,[a])]=>K (.c a) s.o
 |[]=>K (.tup []) s.o
 |p::q::r=>K (.tup (p::q::r)) s.o
 |_=>False)
theorem jxe (n k:Nat) (agg:Bool) (K:AV->(Nat->Ob)->Prop):jv3 [.cell n agg k] K s=jnV s agg k K (s.t n):=(rfl)
theorem jrA (k g c b:Nat) (agg:Bool) (K:AV->(Nat->Ob)->Prop):jnV s agg k K (.c (.bp g c b))=ldB (s.o g) g c b k λl=>ldV agg l λv=>K v s.o:=by
 apply propext
 simp only [jnV,jaw];cases ho:s.o g with
 |box b' ty cs=>
  simp only [ldB,Ob.box.injEq];constructor
  ·rintro ⟨l,⟨_,_,⟨rfl,rfl,rfl⟩,h2,rfl⟩,h3,h4⟩
   refine ⟨rfl,h2,?_⟩;cases agg with
   |true=>exact h4
   |false=>
    obtain ⟨a,ha⟩:=List.length_eq_one_iff.1 (by simpa using h3)
    rw [ha] at h4⊢;exact h4
  ·rintro ⟨rfl,h2,h3⟩
   refine ⟨_,⟨ty,cs,⟨rfl,rfl,rfl⟩,h2,rfl⟩,?_⟩;cases agg with
   |true=>exact ⟨.inl rfl,h3⟩
   |false=>
    generalize jez g c ((cs.drop c).take k)=l at h3⊢
    match l,h3 with
    |[a],h3=>exact ⟨.inr rfl,h3⟩
 |_=>simp [ldB]
theorem jCQ (args:List AV) (o:Nat->Ob) (n:Nat):(St.start args o).t n=(args[n]?).getD .unk:=(rfl)
theorem jCR (args:List AV) (o:Nat->Ob):(St.start args o).o=o:=(rfl)
end
theorem jf8 (n:Int) (h:-1000000000000000<=n) (h':n<1000000000000000):IntKind.i64.wrap n=n:=kS (by omega) (by omega)
attribute [go_sem_proc] Int.reduceBEq Int.reduceBNe Nat.reduceBNe Int.reduceAdd Int.reduceSub Int.reduceMul Int.reduceLE Int.reduceLT Int.reduceGE Int.reduceGT Int.reduceTMod Int.reduceTDiv Int.reduceNe Int.reduceNeg Int.reduceToNat Nat.reduceDiv Nat.reduceMod Nat.reducePow Int.reduceNegSucc
attribute [go_sem] Int.cast_ofNat_Int jFu rt_gu ra_gu jDm jx6 isD_1 jDW jes jDY jCQ jCR ri_r ri_n jFK jFG jFH jxe jrA ret_t jAi juN jFL jAk
section
variable {P:Program} {f:FuncId}
theorem jER {w:World} {v1 v2:View} {xs:List Value} (h:jab w [v1,v2] xs):∃a b,xs=[a,b]/\ViewRel w v1 a/\ViewRel w v2 b:=by
 obtain ⟨a,_,rfl,h1,b,_,rfl,h2,h3⟩:=h;rw [show _=_ from h3]
 exact ⟨a,b,rfl,h1,h2⟩
theorem jES {w:World} {v1:View} {xs:List Value} (h:jab w [v1] xs):∃a,xs=[a]/\ViewRel w v1 a:=by
 obtain ⟨a,_,rfl,h1,h3⟩:=h;rw [show _=_ from h3]
 exact ⟨a,rfl,h1⟩
theorem jrH {v1 v2:View} {u:Value} (hn:jrb P f) (h:∀w a b,ViewRel w v1 a->ViewRel w v2 b->Calls P f #[a,b] w λe w'=>e=.returned u/\Below w.heap.size w w'):jW P f [v1,v2] (.c (.val u)):=by
 refine ⟨hn,λw xs hv=>?_⟩
 obtain ⟨a,b,rfl,h1,h2⟩:=jER hv;exact (h w a b h1 h2).mono λe w' ⟨he,hb⟩=>⟨u,[],he,⟨rfl,rfl⟩,Fresh.nil _,hb⟩
theorem jFX {v1:View} {u:Value} (hn:jrb P f) (h:∀w a,ViewRel w v1 a->Calls P f #[a] w λe w'=>e=.returned u/\Below w.heap.size w w'):jW P f [v1] (.c (.val u)):=by
 refine ⟨hn,λw xs hv=>?_⟩
 obtain ⟨a,rfl,h1⟩:=jES hv;exact (h w a h1).mono λe w' ⟨he,hb⟩=>⟨u,[],he,⟨rfl,rfl⟩,Fresh.nil _,hb⟩
theorem jkV {ds:List D} (hn:jrb P f) (h:∀w,Calls P f #[] w (jzw w ds)):jW P f [] (.agg ds):=by
 refine ⟨hn,λw xs hv=>?_⟩
 rw [show xs=[] from hv]
 exact (h w).mono λe w' h=>h
theorem zU {w:World} {u a:Value} (h:ViewRel w (.c (.val u)) a):a=u:=by obtain ⟨S,h1,_⟩:=h;exact h1
end
attribute [go_sem] and_false false_and
def jfn:C:=iS [aN 6 0] (.seq (iS [aM 7 2,aM 8 1,aP 9 .lss 3 7 8,aM 10 9,iB 11 10 false (iM 0),iB 12 10 false (iM 1),iB 13 10 false (iP .lss 3 11 12),iA 14 (iY 10 (oT) (.t 13))] (iD 14 (iS [aM 15 1,aM 6 15] .ret) .skip)) (.seq (iS [aM 16 0,aM 17 2,aP 18 .gtr 3 16 17] (iD 18 (iS [aM 19 2,aM 6 19] .ret) .skip)) (iS [aM 20 0,aM 6 20] .ret)))
theorem jiJ:fnC Tryz.prog Tryz.f134=some (jfn,[.t 6],21):=by kernel_rfl
def jfy:C:=iS [aN 6 0] (.seq (iS [aM 7 2,aM 8 1,aP 9 .lss 3 7 8,aM 10 9,iB 11 10 false (iM 0),iB 12 10 false (iM 1),iB 13 10 false (iP .lss 3 11 12),iA 14 (iY 10 (oT) (.t 13))] (iD 14 (iS [aM 15 1,aM 6 15] .ret) .skip)) (iS [aM 16 0,aM 17 2,iA 18 (.mm false (.t 16) (.t 17)),aM 6 18] .ret))
theorem jiU:fnC Tryz.prog Tryz.f83=some (jfy,[.t 6],19):=by kernel_rfl
def jcJ:C:=iS [iA 4 (.mov (.c (.slice none 0 0)))] (iS [aM 8 0,iA 9 (.call 134 [.t 8,oI 0,oI 3]),aM 0 9] (.seq (iS [aM 10 1,aQ 11 .lss 3 10 0] (iD 11 (.reg [aN 1 0]) .skip)) (iS [iA 12 (wA3 []),aM 5 12] (.seq (iS [aN 6 1] (.blk 0 (.loop (.seq (iS [aM 13 6,aQ 14 .lss 3 13 4] (iD 14 .skip (.exit 0))) (.seq (.blk 1 (.reg [aM 17 5,aM 18 0,aM 19 6,aP 20 .add 3 18 19,aQ 21 .rem 3 20 4,iA 22 (wA1 [(0,1,.t 21)]),iA 23 (wBA 17 22),aM 5 23])) (.reg [aM 15 6,aQ 16 .add 3 15 1,aM 6 16])))))) (iS [aM 24 1,aM 25 5,aG 26 25,aP 27 .rem 3 24 26,aM 7 27] (.seq (.dreg (tA 1 29 (iM 5) (tA 2 30 (iM 7) (tA 3 31 (.sl 1 (.t 29) (some (.t 30)) none) (tA 5 33 (iM 5) (tA 6 34 (iM 7) (tA 7 35 (.sl 1 (.t 33) none (some (.t 34))) (tC 28 (wA3 []) [7,6,5,3,2,1] (tC 32 (wBA 28 31) [7,6,5] (tC 36 (wBA 32 35) [] (tA 9 4 (iM 36) .done) .stop) .stop) .stop)))))))) .ret))))))
theorem jfR:fnC Tryz.prog Tryz.f69=some (jcJ,[.t 4],37):=by kernel_rfl
def jcQ:C:=iS [iA 4 (.mov (.c (.slice none 0 0)))] (iS [aM 7 0,iA 8 (.call 83 [.t 7,oI 0,oI 3]),aM 0 8] (iS [iA 5 (.mov (.c (.slice none 0 0)))] (.seq (iS [aN 6 0] (.blk 0 (.loop (.seq (iS [aM 9 6,aQ 10 .lss 3 9 3] (iD 10 .skip (.exit 0))) (.seq (.blk 1 (.reg [aM 13 5,aM 14 0,aQ 15 .add 3 14 1,aM 16 1,iA 17 (.mm true (.t 16) (oI 0)),aQ 18 .rem 3 17 3,aM 19 6,aP 20 .add 3 18 19,aQ 21 .rem 3 20 3,aP 22 .add 3 15 21,aQ 23 .rem 3 22 4,iA 24 (wA1 [(0,1,.t 23)]),iA 25 (wBA 13 24),aM 5 25])) (.reg [aM 11 6,aQ 12 .add 3 11 1,aM 6 12])))))) (iS [aM 26 5,aM 4 26] .ret))))
theorem jfY:fnC Tryz.prog Tryz.f19=some (jcQ,[.t 4],27):=by kernel_rfl
def brI (n a b:Int):Int:=if b<a\/n<a then a else if n>b then b else n
theorem vJ (n a b:Int):jW Tryz.prog 134 [.c (.val (.int .i64 n)),.c (.val (.int .i64 a)),.c (.val (.int .i64 b))] (.c (.val (.int .i64 (brI n a b)))):=by
 refine jfH Tryz.func134 jiJ (by simp) ?_
 unfold jfn;by_cases h1:b<a
 ·simp only [go_sem,h1]
  simp [brI,h1]
 ·by_cases h2:n<a
  ·simp only [go_sem,h1,h2]
   simp [brI,h1,h2]
  ·by_cases h3:b<n
   ·simp only [go_sem,h1,h2,h3]
    simp [brI,h1,h2,h3]
   ·simp only [go_sem,h1,h2,h3]
    simp [brI,h1,h2,h3]
theorem jmm (n a b:Int):jW Tryz.prog 83 [.c (.val (.int .i64 n)),.c (.val (.int .i64 a)),.c (.val (.int .i64 b))] (.c (.val (.int .i64 (brI n a b)))):=by
 refine jfH Tryz.func83 jiU (by simp) ?_
 unfold jfy;by_cases h1:b<a
 ·simp only [go_sem,h1]
  simp [brI,h1]
 ·by_cases h2:n<a
  ·simp only [go_sem,h1,h2]
   simp [brI,h1,h2]
  ·simp only [go_sem,h1,h2]
   simp only [brI,h1,h2,or_self,if_false]
def jjt (cJ aNJ:Int):List Int:=
 let h:=brI cJ 0 3
 let k:=(if aNJ<0 then 0 else aNJ).tmod 3
 [(h+1+k.tmod 3).tmod 4,(h+1+(k+1).tmod 3).tmod 4,(h+1+(k+2).tmod 3).tmod 4]
theorem jG7 (n:Int):brI n 0 3=0\/brI n 0 3=1\/brI n 0 3=2\/brI n 0 3=3:=by
 unfold brI;split
 ·omega
 ·split<;>omega
theorem jCK {n:Int} (h:0<=n):n.tmod 3=0\/n.tmod 3=1\/n.tmod 3=2:=by
 rw [aPT h];omega
theorem jwg (cJ aNJ h d:Int) (hh:brI cJ 0 3=h) (hd:(if aNJ<0 then 0 else aNJ)=d) (hk:0<=h/\h<=3):(d.tmod 3=0->jjt cJ aNJ=[(h+1).tmod 4,(h+2).tmod 4,(h+3).tmod 4])/\(d.tmod 3=1->jjt cJ aNJ=[(h+2).tmod 4,(h+3).tmod 4,(h+1).tmod 4])/\(d.tmod 3=2->jjt cJ aNJ=[(h+3).tmod 4,(h+1).tmod 4,(h+2).tmod 4]):=by
 have e1:h+1+1=h+2:=by omega
 have e2:h+1+2=h+3:=by omega
 have e0:h+1+0=h+1:=by omega
 refine ⟨λh3=>?_,λh3=>?_,λh3=>?_⟩<;>simp [jjt,hh,hd,h3,e0,e1,e2]
theorem jCr (n:Int):0<=brI n 0 3/\brI n 0 3<=3:=by have:=jG7 n;omega
theorem jjw (cJ aNJ:Int):jW Tryz.prog 69 [.c (.val (.int .i64 cJ)),.c (.val (.int .i64 aNJ))] (.c (jb (jjt cJ aNJ))):=by
 refine jfH Tryz.func69 jfR (by simp) ?_
 unfold jcJ;simp only [go_sem];refine jG (vJ cJ 0 3) (by simp only [go_sem]) λη=>?_
 obtain ⟨d,hd,hdk⟩:∃d:Int,(if aNJ<0 then 0 else aNJ)=d/\0<=d:=⟨_,rfl,by split<;>omega⟩
 have hk:=jCr cJ;have bQ:=jwg cJ aNJ _ d rfl hd hk;have h3:=jCK hdk;generalize brI cJ 0 3=h at*;have w1:IntKind.i64.wrap (h+1)=h+1:=jf8 _ (by omega) (by omega)
 have w2:IntKind.i64.wrap (h+2)=h+2:=jf8 _ (by omega) (by omega)
 have w3:IntKind.i64.wrap (h+3)=h+3:=jf8 _ (by omega) (by omega)
 obtain ⟨v0,v1,v2⟩:=bQ;by_cases aK:aNJ<0
 ·rw [if_pos aK] at hd
  subst hd;rw [v0 (by decide)]
  simp only [go_sem,aK];intro eH;refine jac 3 ?_;simp only [go_sem,jf8,w1,w2,w3,D.len,maxLen];intros;rfl
 ·rw [if_neg aK] at hd
  subst hd;rcases h3 with h3|h3|h3
  ·rw [v0 h3]
   simp only [go_sem,aK];intro eH;refine jac 3 ?_;simp only [go_sem,jf8,w1,w2,w3,D.len,maxLen,h3];intros;rfl
  ·rw [v1 h3]
   simp only [go_sem,aK];intro eH;refine jac 3 ?_;simp only [go_sem,jf8,w1,w2,w3,D.len,maxLen,h3];intros;rfl
  ·rw [v2 h3]
   simp only [go_sem,aK];intro eH;refine jac 3 ?_;simp only [go_sem,jf8,w1,w2,w3,D.len,maxLen,h3];intros;rfl
theorem jjy (cJ aNJ:Int):jW Tryz.prog 19 [.c (.val (.int .i64 cJ)),.c (.val (.int .i64 aNJ))] (.c (jb (jjt cJ aNJ))):=by
 refine jfH Tryz.func19 jfY (by simp) ?_
 unfold jcQ;simp only [go_sem];refine jG (jmm cJ 0 3) (by simp only [go_sem]) λη=>?_
 obtain ⟨d,hd,hdk⟩:∃d:Int,(if aNJ<0 then 0 else aNJ)=d/\0<=d:=⟨_,rfl,by split<;>omega⟩
 have hk:=jCr cJ;have bQ:=jwg cJ aNJ _ d rfl hd hk;have h3:=jCK hdk;generalize brI cJ 0 3=h at*;have w1:IntKind.i64.wrap (h+1)=h+1:=jf8 _ (by omega) (by omega)
 have w0:IntKind.i64.wrap (h+1+0)=h+1:=by rw [jf8 _ (by omega) (by omega)];omega
 have w2:IntKind.i64.wrap (h+1+1)=h+2:=by rw [jf8 _ (by omega) (by omega)];omega
 have w3:IntKind.i64.wrap (h+1+2)=h+3:=by rw [jf8 _ (by omega) (by omega)];omega
 obtain ⟨v0,v1,v2⟩:=bQ;rcases h3 with h3|h3|h3
 ·rw [v0 h3]
  simp only [go_sem];refine jac 3 ?_;simp only [go_sem,jf8,w0,w1,w2,w3,maxLen,hd,h3];intros;rfl
 ·rw [v1 h3]
  simp only [go_sem];refine jac 3 ?_;simp only [go_sem,jf8,w0,w1,w2,w3,maxLen,hd,h3];intros;rfl
 ·rw [v2 h3]
  simp only [go_sem];refine jac 3 ?_;simp only [go_sem,jf8,w0,w1,w2,w3,maxLen,hd,h3];intros;rfl
