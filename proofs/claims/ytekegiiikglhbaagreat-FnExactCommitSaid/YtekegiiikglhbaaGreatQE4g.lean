/- Parts. -/
import Derived.Test.YtekegiiikglhbaaGreatQCutN
set_option linter.all false
namespace Go.Proofs.YtekegiiikglhbaaGreat
open Go.RowKit Go.Sort
section
variable {P:Program} {β B N:Nat} {w w0:World} {s:St} {a:Act} {F:Nat->List Nat} {o:Oper} {K:St->Prop}
theorem OpOk.of_goes (h:RelF B w0 N s a w F) (hd:∀k,o.dst=some k->k<N) (hg:Goes P o a w (jK B w λav os=>K ((s.addO os).put o.dst av))):
 OpOk P o a w (λa' w'=>∃s' F',RelF B w0 N s' a' w' F'/\K s'):=by
 intro next Q hk;refine hg next Q λv w' ⟨av,os,S,V,Y,h3,h4,h5⟩=>?_
 have hB:B<=w.heap.size:=aBU h.hB h.below.size
 obtain ⟨F',h6⟩:=(h.world h4).addO Y (h3.mono hB) λg b Z aS=>by
  have:=(h.ob g).lt b aS;have:=h3.2 b Z;omega
 exact hk _ _ ⟨_,_,h6.put V hd,h5⟩
def joR (P:Program) (o:Oper) (i:I):Prop:=∀{β B N:Nat} {w w0:World} {s:St} {a:Act} {F:Nat->List Nat} {K:St->Prop} {g:Option (Nat×Bool)},
 RelF B w0 N s a w F->(∀k,o.dst=some k->k<N)->kK P β ⟨o.dst,g,i⟩ s K->OpOk P o a w (λa' w'=>∃s' F',RelF B w0 N s' a' w' F'/\K s')
theorem jql {c:Call} {i:I} (ho:o.op=.call c) (hc:jf3 P c=some i):joR P o i:=by
 intro β B N w w0 s a F K g h hd hr;unfold jf3 at hc;split at hc
 ·rename_i x V Y
  split at hc
  ·rename_i x' h3 h4
   simp at hc;subst hc;obtain ⟨rt,hg⟩:=hr;exact .of_goes h hd (go_len (str:=true) h ho V Y h3 h4 hg)
  ·rename_i e x' h3 h4
   simp at hc;subst hc;obtain ⟨rt,hg⟩:=hr;exact .of_goes h hd (go_len (str:=false) h ho V Y ⟨_,h3⟩ h4 hg)
  ·simp at hc
 ·rename_i x y V Y
  split at hc
  ·rename_i t t' h3
   split at hc
   ·rename_i e e' h4 h5
    split at hc
    ·rename_i i' zs x' y' h6 h7 h8 h9
     split at hc
     ·rename_i eD
      simp at hc;subst hc;simp at eD;obtain ⟨fB,rfl⟩:=eD;exact jr1 h ho V Y h3 h4 h6 h7 fB h8 h9 hd hr
     ·simp at hc
    ·simp at hc
   ·rename_i e h4 h5
    split at hc
    ·rename_i i' x' y' h6 h7 h8 h9
     split at hc
     ·rename_i eD
      split at hc
      ·rename_i fB
       simp at hc;subst hc;simp at fB;exact jpL h ho V Y h3 h4 h5 h7 eD fB.1 fB.2 h8 h9 hd hr
      ·simp at hc
     ·simp at hc
    ·simp at hc
   ·simp at hc
  ·simp at hc
 ·rename_i x V Y
  split at hc
  ·rename_i t h3
   split at hc
   ·rename_i e h4
    split at hc
    ·rename_i i' zs x' h6 h7 h8
     split at hc
     ·rename_i eD
      simp at hc;subst hc;exact jrY h ho V Y h3 h4 h6 h7 eD h8 hr
     ·simp at hc
    ·simp at hc
   ·simp at hc
  ·simp at hc
 ·rename_i x y V Y
  split at hc
  ·rename_i x' y' h3 h4
   simp at hc;subst hc;obtain ⟨rt,hg⟩:=hr;exact .of_goes h hd (go_mm (mx:=true) h ho V Y h3 h4 hg)
  ·simp at hc
 ·rename_i x y V Y
  split at hc
  ·rename_i x' y' h3 h4
   simp at hc;subst hc;obtain ⟨rt,hg⟩:=hr;exact .of_goes h hd (go_mm (mx:=false) h ho V Y h3 h4 hg)
  ·simp at hc
 ·rename_i f V
  split at hc
  ·rename_i fn l h3 h4
   split at hc
   ·simp at hc;subst hc
    rcases hr with ⟨rt,hg⟩|ht|ht
    ·exact .of_goes h hd (go_call h ho V h4 hg)
    ·exact jiA h (zn (cs:=[]) ht.1 ho V rfl rfl) (by simpa using jdO (caps:=[]) (cs:=[]) h h4 rfl) hd ht
    ·exact jrX h (zn (cs:=[]) ht.1 ho V rfl rfl) (by simpa using jdO (caps:=[]) (cs:=[]) h h4 rfl) hd ht
   ·simp at hc
  ·simp at hc
 ·rename_i t V
  cases Y:qm c.args.toList with
  |none=>rw [Y] at hc;simp at hc
  |some l=>
   rw [Y] at hc;simp at hc;subst hc;rcases hr with ⟨rt,hg⟩|⟨f,caps,h0,ht⟩
   ·exact .of_goes h hd (go_callv h ho V Y hg)
   ·have nP:=h.sl t
    rw [show s.t t=.fn f caps from h0] at nP
    obtain ⟨cs,k1,k2⟩:=nP;exact jiA h (zn ht.1 ho V k1 rfl) (jdO h Y k2) hd ht
 ·simp at hc
theorem jfc {lo hi:Option Operand} {n:Nat} {x:X} {i:I} (hc:(match lo.map jr,hi.map jr with
        |none,none=>some (I.sl n x none none)
        |some (some a),none=>some (.sl n x (some a) none)
        |none,some (some b)=>some (.sl n x none (some b))
        |some (some a),some (some b)=>some (.sl n x (some a) (some b))
        |_,_=>none)=some i):∃lo' eP,i=.sl n x lo' eP/\((lo=none/\lo'=none)\/∃y y',lo=some y/\lo'=some y'/\jr y=some y')/\((hi=none/\eP=none)\/∃y y',hi=some y/\eP=some y'/\jr y=some y'):=by
 cases lo<;>cases hi<;>simp only [Option.map_none,Option.map_some] at hc
 ·simp at hc;subst hc;exact ⟨_,_,rfl,.inl ⟨rfl,rfl⟩,.inl ⟨rfl,rfl⟩⟩
 ·split at hc<;>simp_all
 ·split at hc<;>simp_all
 ·split at hc<;>simp_all
theorem jrV {i:I} (hc:qk P o.op=some i):joR P o i:=by
 intro β B N w w0 s a F K g h hd hr;cases ho:o.op with
 |move x=>
  simp only [ho,qk] at hc;cases V:jr x with
  |none=>simp [V] at hc
  |some x'=>
   simp [V] at hc;subst hc;obtain ⟨rt,hg⟩:=hr;exact .of_goes h hd (go_mov h (.inl ho) V hg)
 |assign x=>
  simp only [ho,qk] at hc;cases V:jr x with
  |none=>simp [V] at hc
  |some x'=>
   simp [V] at hc;subst hc;obtain ⟨rt,hg⟩:=hr;exact .of_goes h hd (go_mov h (.inr ho) V hg)
 |pick c x y=>
  simp only [ho,qk] at hc;split at hc
  ·rename_i c' x' y' V Y h3
   simp at hc;subst hc;obtain ⟨rt,hg⟩:=hr;exact .of_goes h hd (go_pick h ho V Y h3 hg)
  ·simp at hc
 |alloc e=>
  simp only [ho,qk] at hc;cases V:kV P e with
  |none=>simp [V] at hc
  |some z=>
   simp [V] at hc;subst hc;obtain ⟨rt,hg⟩:=hr;exact .of_goes h hd (go_alloc h ho V hg)
 |box e x=>
  simp only [ho,qk] at hc;split at hc
  ·rename_i n x' V Y
   simp at hc;subst hc;exact jr0 h ho Y hd hr
  ·simp at hc
 |build t ps=>
  simp only [ho,qk] at hc;split at hc
  ·rename_i fs z V Y
   split at hc
   ·simp at hc
   ·rename_i h3
    simp only [Option.map_eq_some_iff] at hc;obtain ⟨ps',h4,rfl⟩:=hc;obtain ⟨rt,hg⟩:=hr;exact .of_goes h hd (go_bld h ho V Y (by cases hq:(fs.toList.all λf=>(P.info? f.type).isSome) with|true=>rfl|false=>exact absurd (by rw [hq];rfl) h3) h4 hg)
  ·simp at hc
 |buildSlice t n ps=>
  simp only [ho,qk] at hc;split at hc
  ·rename_i e V
   split at hc
   ·rename_i size Y
    split at hc
    ·rename_i h3
     simp only [Option.map_eq_some_iff] at hc;obtain ⟨ps',h4,rfl⟩:=hc;simp only [aBH,aCJ,aDH] at h3;obtain ⟨⟨⟨h5,h6⟩,h7⟩,h8⟩:=h3;obtain ⟨z,hz⟩:=Option.isSome_iff_exists.1 h6;exact jrZ h ho V Y h5 hz h7 h8 h4 hd hr
    ·simp at hc
   ·simp at hc
  ·simp at hc
 |load t x=>
  simp only [ho,qk] at hc;split at hc
  ·rename_i fs n x' V Y h3
   simp at hc;subst hc;obtain ⟨rt,hg⟩:=hr;exact .of_goes h hd (go_ld h ho V rfl Y h3 hg)
  ·simp at hc
  ·rename_i dsc x' dB gA V Y h3
   simp at hc;subst hc;obtain ⟨rt,hg⟩:=hr;refine .of_goes h hd (go_ld h ho V ?_ Y h3 hg);cases dsc<;>simp_all [jqL]
  ·simp at hc
 |store t x y=>
  simp only [ho,qk] at hc;split at hc
  ·rename_i n x' y' V Y h3
   simp at hc;subst hc;exact ok_st h ho V Y h3 hr
  ·simp at hc
 |binOp op t x y t'=>
  simp only [ho,qk] at hc;split at hc
  ·rename_i x' y' V Y
   split at hc
   ·rename_i h3
    split at hc
    ·simp at hc;subst hc
     obtain ⟨rt,hg⟩:=hr;exact .of_goes h hd (go_beq (neg:=false) h ho h3 V Y hg)
    ·simp at hc;subst hc
     obtain ⟨rt,hg⟩:=hr;exact .of_goes h hd (go_beq (neg:=true) h ho h3 V Y hg)
    ·simp at hc
   ·simp at hc;subst hc
    obtain ⟨rt,hg⟩:=hr;exact .of_goes h hd (go_bin h ho V Y hg)
   ·simp at hc
  ·simp at hc
 |unOp op t x=>
  simp only [ho,qk] at hc;cases V:jr x with
  |none=>simp [V] at hc
  |some x'=>
   simp [V] at hc;subst hc;obtain ⟨rt,hg⟩:=hr;exact .of_goes h hd (go_un h ho V hg)
 |convert t t' x=>
  simp only [ho,qk] at hc;split at hc
  ·rename_i k0 k x' V Y h3
   simp at hc;subst hc;obtain ⟨rt,hg⟩:=hr;exact .of_goes h hd (go_num h ho V Y h3 hg)
  ·rename_i e x' V Y h3
   split at hc
   ·rename_i h4
    simp at hc;subst hc;obtain ⟨rt,hg⟩:=hr;exact .of_goes h hd (go_text h ho V h4 Y h3 hg)
   ·simp at hc
  ·simp at hc
 |makeSlice t l c=>
  simp only [ho,qk] at hc;split at hc
  ·rename_i e l' c' V Y h3
   split at hc
   ·rename_i i' z h4 h5
    split at hc
    ·rename_i h6
     simp at hc;subst hc;obtain ⟨rt,hg⟩:=hr;exact .of_goes h hd (go_mks h ho V h4 h5 h6 Y h3 hg)
    ·simp at hc
   ·simp at hc
  ·simp at hc
 |slice t x lo hi m=>
  cases m with
  |some m=>simp [ho,qk] at hc
  |none=>
   simp only [ho,qk] at hc;split at hc
   ·rename_i e x' V Y
    split at hc
    ·rename_i n h3
     obtain ⟨lo',eP,rfl,h4,h5⟩:=jfc hc;obtain ⟨rt,hg⟩:=hr;exact .of_goes h hd (go_sl_ro h ho V h3 Y h4 h5 hg)
    ·simp at hc
   ·rename_i x' V Y
    obtain ⟨lo',eP,rfl,h4,h5⟩:=jfc hc;obtain ⟨rt,hg⟩:=hr;exact .of_goes h hd (go_sl_str h ho V Y h4 h5 hg)
   ·simp at hc
 |nilCheck x=>
  simp only [ho,qk,Option.map_eq_some_iff] at hc;obtain ⟨x',V,rfl⟩:=hc;obtain ⟨rt,hg⟩:=hr;exact .of_goes h hd (go_nc h ho V hg)
 |fieldAddr t x f=>
  simp only [ho,qk] at hc;split at hc
  ·rename_i fs x' V Y
   split at hc
   ·rename_i fd h3
    split at hc
    ·rename_i n h4
     simp at hc;subst hc;obtain ⟨rt,hg⟩:=hr;exact .of_goes h hd (go_fa h ho V h3 h4 Y hg)
    ·simp at hc
   ·simp at hc
  ·simp at hc
 |indexAddr t x j=>
  simp only [ho,qk] at hc;split at hc
  ·rename_i e x' j' V Y h3
   split at hc
   ·rename_i n h4
    simp at hc;subst hc;obtain ⟨rt,hg⟩:=hr;exact .of_goes h hd (go_ia h ho V h4 Y h3 hg)
   ·simp at hc
  ·simp at hc
 |index t x j=>
  simp only [ho,qk] at hc;split at hc
  ·rename_i x' j' V Y h3
   simp at hc;subst hc;obtain ⟨rt,hg⟩:=hr;exact .of_goes h hd (go_sidx h ho V Y h3 hg)
  ·simp at hc
 |extract x j=>
  simp only [ho,qk] at hc;cases V:jr x with
  |none=>simp [V] at hc
  |some x'=>
   simp [V] at hc;subst hc;obtain ⟨rt,hg⟩:=hr;exact .of_goes h hd (go_ext h ho V hg)
 |field t x f=>
  simp only [ho,qk] at hc;split at hc
  ·rename_i fs x' V Y
   split at hc
   ·rename_i fd h3
    split at hc
    ·rename_i n h4 h5
     simp at hc;subst hc;obtain ⟨rt,hg⟩:=hr;exact .of_goes h hd (go_fld h ho V h3 h4 rfl h5 Y hg)
    ·simp at hc
    ·rename_i dsc h4 h5 h6 h7
     simp at hc;subst hc;obtain ⟨rt,hg⟩:=hr;exact .of_goes h hd (go_fld h ho V h3 h6 (by cases dsc<;>first|rfl|simp_all) h7 Y hg)
    ·simp at hc
   ·simp at hc
  ·simp at hc
 |makeFunc fn first caps=>
  cases fn with
  |func f=>
   simp only [ho,qk] at hc;split at hc
   ·rename_i V
    cases Y:qm caps.toList with
    |none=>simp [Y] at hc
    |some l=>
     simp [Y] at hc;subst hc;obtain ⟨rt,hg⟩:=hr;exact .of_goes h hd (go_mkf h ho (by simpa using V) Y hg)
   ·simp at hc
  |_=>simp [ho,qk] at hc
 |call c=>simp only [ho,qk] at hc;exact jql ho hc h hd hr
 |_=>simp [ho,qk] at hc
def jil (N:Nat) (ops:Array Oper) (g:Option (Nat×Bool)) (g':Option (Nat×Bool)):Prop:=match g with
 |none=>g'=none
 |some (j,want)=>∃t,(ops[j]?).bind (·.dst)=some t/\t<N/\g'=some (t,want)
theorem jdE (h:RelF B w0 N s a w F) {ops:Array Oper} {g':Option (Nat×Bool)} {b:Bool} (hg:jil N ops o.guard g') (hw:kX s g'=some b):
 Region.wanted o (yielded ops a.tmps)=b:=by
 unfold Region.wanted;cases ho:o.guard with
 |none=>rw [ho] at hg;simp only [jil] at hg;subst hg;simp [kX] at hw;simpa using hw
 |some p=>
  obtain ⟨j,want⟩:=p;rw [ho] at hg;obtain ⟨t,V,Y,rfl⟩:=hg;have hv:=h.sl t;have aC:t<a.tmps.size:=by rw [h.sz];exact Y
  have he:a.tmps.getD t undef=a.tmps[t]:=by simp [Array.getD_eq_getD_getElem?,aC]
  rw [he] at hv;simp only [kX] at hw;simp only [yielded,V,Option.bind_some,Array.getElem?_eq_getElem aC];split at hw
  ·rename_i b' Z
   rw [Z] at hv;rw [show a.tmps[t]=.bool b' from hv]
   simp at hw;subst hw;cases b'<;>cases want<;>rfl
  ·rename_i u hu Z
   rw [Z] at hv;have nA:a.tmps[t]=u:=hv;rw [nA];simp at hw;subst hw;cases u<;>simp_all
  ·simp at hw
theorem jiR {ops:Array Oper} {i:Ins} (hc:joj P N ops o=some i):i.d=o.dst/\qk P o.op=some i.i/\(∀k,o.dst=some k->k<N)/\jil N ops o.guard i.g:=by
 unfold joj at hc;split at hc
 ·rename_i j V Y
  have hd:∀k,o.dst=some k->k<N:=λk hk=>by rw [hk] at Y;simpa using Y
  cases hg:o.guard with
  |none=>rw [hg] at hc;simp at hc;subst hc;exact ⟨rfl,V,hd,rfl⟩
  |some p=>
   obtain ⟨k,want⟩:=p;rw [hg] at hc;simp only at hc;split at hc
   ·rename_i t ht
    split at hc
    ·rename_i aC
     simp at hc;subst hc;exact ⟨rfl,V,hd,t,ht,aC,rfl⟩
    ·simp at hc
   ·simp at hc
 ·simp at hc
theorem jh0 {ops:Array Oper} {Q:Exit->Act->World->Prop} (hQ:∀s a w F,RelF B w0 N s a w F->K s->Q .normal a w):∀{l:List Oper} {is:List Ins} {s:St} {a:Act} {w:World} {F:Nat->List Nat},
 jet P N ops l=some is->RelF B w0 N s a w F->jcc P β is s K->wpList P ops Q l a w
 |[],is,s,a,w,F,hc,h,hr=>by simp [jet] at hc;subst hc;exact hQ _ _ _ _ h hr
 |o::l,is,s,a,w,F,hc,h,hr=>by
  simp only [jet] at hc;split at hc
  ·rename_i i r V Y
   simp at hc;subst hc;obtain ⟨e1,e2,e3,e4⟩:=jiR V;simp only [jcc] at hr;unfold wpList;split at hr
   ·rename_i hw
    rw [if_pos (jdE h e4 hw)];refine .inl (jrV e2 (g:=i.g) (K:=λs'=>jcc P β r s' K) h e3 (by rw [<-e1];exact hr) _ _ λa' w' ⟨s',F',h3,h4⟩=>jh0 hQ Y h3 h4)
   ·rename_i hw
    rw [if_neg (by rw [jdE h e4 hw];simp)]
    rw [e1] at hr;exact jh0 hQ Y (h.put (u:=undef) (v:=.c (.v undef)) rfl e3) hr
   ·exact hr.elim
  ·simp at hc
end
section
variable {P:Program} {β:Nat} {s s2:St}
theorem jiN {x:X} (h:∀n,x=.t n->s2.t n=s.t n):s2.ev x=s.ev x:=by
 cases x with
 |t n=>exact h n rfl
 |c v=>rfl
 |f n=>rfl
theorem qb {a:A0} {d:D} (ho:∀g∈a.ids,s2.o g=s.o g) (h:Is s a d):Is s2 a d:=by
 cases a with
 |h g c p x=>simp only [Is] at h⊢;rw [ho g (by simp [A0.ids])];exact h
 |hs g c p x sz lo n=>simp only [Is] at h⊢;rw [ho g (by simp [A0.ids])];exact h
 |_=>exact h
theorem jgX:∀{l:List A0} {ds:List D},(∀a∈l,∀g∈a.ids,s2.o g=s.o g)->IsL s l ds->IsL s2 l ds
 |[],[],_,_=>trivial
 |[],_::_,_,h=>h.elim
 |_::_,[],_,h=>h.elim
 |a::l,d::ds,ho,⟨V,Y⟩=>⟨qb (ho a (by simp)) V,jgX (λb Z=>ho b (by simp [Z])) Y⟩
theorem jaP {g b:Nat}:∀{l:List Cell} {c:Nat} {ds:List D},Ptr.go s g b l c ds->Ptr.go s2 g b l c ds
 |[],_,[],_=>trivial
 |[],_,_::_,h=>h.elim
 |.a _::_,_,[],h=>h.elim
 |.own _ _::_,_,[],h=>h.elim
 |.a x::l,c,d::ds,⟨V,Y⟩=>⟨V,jaP Y⟩
 |.own d' η::l,c,d::ds,⟨V,Y⟩=>⟨V,jaP Y⟩
theorem jgw {a:A0} {ds:List D} (ho:∀g∈a.ids,s2.o g=s.o g) (h:Ptr s a ds):Ptr s2 a ds:=by
 cases a with
 |bp g c b=>
  obtain ⟨ty,cs,V,l,Y,h3⟩:=h;exact ⟨ty,cs,by rw [ho g (by simp [A0.ids])];exact V,l,Y,jaP h3⟩
 |_=>exact h
theorem jfi:∀{l:List A0} {ds:List (List D)},(∀a∈l,∀g∈a.ids,s2.o g=s.o g)->jow s l ds->jow s2 l ds
 |[],[],_,_=>trivial
 |[],_::_,_,h=>h.elim
 |_::_,[],_,h=>h.elim
 |a::l,d::ds,ho,⟨V,Y⟩=>⟨jgw (ho a (by simp)) V,jfi (λb Z=>ho b (by simp [Z])) Y⟩
theorem jmz {a:AV} {v:View} (ho:s2.o=s.o) (h:je6 s a v):je6 s2 a v:=by
 cases a with
 |c x=>cases v with
  |c d=>exact qb (λg _=>by rw [ho]) h
  |ptr ds=>exact jgw (λg _=>by rw [ho]) h
  |_=>exact h.elim
 |agg l=>cases v with
  |agg ds=>exact jgX (λ_ _ g _=>by rw [ho]) h
  |_=>exact h.elim
 |fn f l=>cases v with
  |fn f' ds=>exact ⟨h.1,jfi (λ_ _ g _=>by rw [ho]) h.2⟩
  |_=>exact h.elim
 |_=>cases v<;>exact h.elim
theorem jcP:∀{l:List AV} {vs:List View},s2.o=s.o->qs s l vs->qs s2 l vs
 |[],[],_,_=>trivial
 |[],_::_,_,h=>h.elim
 |_::_,[],_,h=>h.elim
 |_::_,_::_,ho,⟨V,Y⟩=>⟨jmz ho V,jcP ho Y⟩
theorem jfl:∀{ps:List (Nat×Nat×X)} {cs:List A0},(∀x∈ps.map (·.2.2),s2.ev x=s.ev x)->jdb s2 cs ps=jdb s cs ps
 |[],_,_=>rfl
 |(off,size,x)::ps,cs,h=>by
  have V:s2.ev x=s.ev x:=h x (by simp)
  simp only [jdb,V];split
  ·split
   ·exact jfl λy hy=>h y (by simp at hy⊢;exact .inr hy)
   ·rfl
  ·rfl
theorem jhk:∀{ps:List (Nat×Nat×X)},(∀x∈ps.map (·.2.2),s2.ev x=s.ev x)->jka s2 ps=jka s ps
 |[],_=>rfl
 |(off,size,x)::ps,h=>by
  have V:s2.ev x=s.ev x:=h x (by simp)
  have Y:jka s2 ps=jka s ps:=jhk λy hy=>h y (by simp at hy⊢;exact .inr hy)
  simp only [jka,V,Y]
theorem jfo:∀{l:List X},(∀x∈l,s2.ev x=s.ev x)->vY s2 l=vY s l
 |[],_=>rfl
 |x::l,h=>by
  have V:s2.ev x=s.ev x:=h x (by simp)
  have Y:vY s2 l=vY s l:=jfo λy hy=>h y (by simp [hy])
  simp only [vY,V,Y]
theorem vd {x:Option X} {d n:Nat} (h:∀y,x=some y->s2.ev y=s.ev y) (Z:jb9 s x d n):jb9 s2 x d n:=by
 cases x with
 |none=>exact Z
 |some y=>obtain ⟨k,V⟩:=Z;exact ⟨k,by rw [h y rfl];exact V⟩
theorem zq {l:List X} (h:∀x∈l,s2.ev x=s.ev x):l.map s2.ev=l.map s.ev:=List.map_congr_left h
theorem jg3 {d:Nat} {rt:RT} {st:jmD} {i:I} {av:AV} {os:List (Nat×Ob)} (hx:∀x∈i.xs,s2.ev x=s.ev x) (ho:∀k∈i.looks s,jiD s s2 k) (hn:i.pureB=false->s2.o=s.o) (h:Gen P s d rt st i av os):Gen P s2 d rt st i av os:=by
 cases i with
 |mov x=>simp only [Gen] at h⊢;rw [hx x (by simp [I.xs])];exact h
 |pick c a b=>simp only [Gen] at h⊢;rw [hx c (by simp [I.xs]),hx a (by simp [I.xs]),hx b (by simp [I.xs])];exact h
 |box ty n x=>exact h
 |alloc ty zs=>exact h
 |bld zs ps=>simp only [Gen] at h⊢;rw [jfl (s:=s) (s2:=s2) λx cL=>hx x (by simpa [I.xs] using cL)];exact h
 |bsl e size n ks ps=>exact h
 |ld agg n x=>
  simp only [Gen] at h⊢;obtain ⟨l,V,Y⟩:=h;refine ⟨l,?_,Y⟩;rw [hx x (by simp [I.xs])]
  have cF:∀k∈(s.ev x).looks n,jiD s s2 k:=ho;cases hv:s.ev x with
  |c a=>
   rw [hv] at V cF;cases a with
   |bp g c b=>
    have h3:jk5 g c n (s2.o g) (s.o g):=cF (.cs g c n) (by simp [AV.looks,A0.looks])
    obtain ⟨ty,cs,k1,k2,k3⟩:=V;rw [k1] at h3;cases h4:s2.o g with
    |box b' ty' cs'=>
     rw [h4] at h3;obtain ⟨rfl,rfl,e3,e4⟩:=h3;exact ⟨_,_,h4,by omega,by rw [e4];exact k3⟩
    |none=>rw [h4] at h3;cases h3
    |loose d η=>rw [h4] at h3;cases h3
   |ep g c p k y=>
    have h3:s2.o g=s.o g:=cF (.ob g) (by simp [AV.looks,A0.looks])
    simp only [vi] at V⊢;rw [h3];exact V
   |_=>exact V
  |_=>rw [hv] at V;exact V
 |st n ks a x=>exact h
 |fa off x=>simp only [Gen] at h⊢;rw [hx x (by simp [I.xs])];exact h
 |ia size x i=>
  simp only [Gen] at h⊢;have cF:∀g∈(s.ev x).ids,s2.o g=s.o g:=λg hg=>ho (.ob g) (aCY.2 ⟨g,hg,rfl⟩)
  rw [hx x (by simp [I.xs]),hx i (by simp [I.xs])]
  obtain ⟨k,n,V,Y,h3,h4⟩:=h;refine ⟨k,n,V,Y,?_,h4⟩;cases hv:s.ev x with
  |c a=>
   rw [hv] at h3 cF;cases a with
   |h g c p y=>obtain ⟨⟨dd,k1,k2⟩,k3⟩:=h3;exact ⟨⟨dd,qb cF (by exact k1),k2⟩,k3⟩
   |hs g c p y sz lo m=>obtain ⟨⟨dd,k1⟩,k3⟩:=h3;exact ⟨⟨dd,qb cF (by exact k1)⟩,k3⟩
   |_=>exact h3
  |_=>rw [hv] at h3;exact h3
 |sidx x i=>simp only [Gen] at h⊢;rw [hx x (by simp [I.xs]),hx i (by simp [I.xs])];exact h
 |bin op ty x y=>simp only [Gen] at h⊢;rw [hx x (by simp [I.xs]),hx y (by simp [I.xs])];exact h
 |beq neg x y=>simp only [Gen] at h⊢;rw [hx x (by simp [I.xs]),hx y (by simp [I.xs])];exact h
 |un op x=>simp only [Gen] at h⊢;rw [hx x (by simp [I.xs])];exact h
 |cv c e x=>
  simp only [Gen] at h⊢;have cF:∀g∈(s.ev x).ids,s2.o g=s.o g:=λg hg=>ho (.ob g) (aCY.2 ⟨g,hg,rfl⟩)
  rw [hx x (by simp [I.xs])]
  cases c with
  |text=>
   obtain ⟨⟨a,ty,bs,V,Y,h3⟩,h4⟩:=h;rw [V] at cF;exact ⟨⟨a,ty,bs,V,qb cF Y,h3⟩,h4⟩
  |_=>exact h
 |len str x=>
  simp only [Gen] at h⊢;have cF:∀g∈(s.ev x).ids,s2.o g=s.o g:=λg hg=>ho (.ob g) (aCY.2 ⟨g,hg,rfl⟩)
  obtain ⟨n,V,Y⟩:=h;refine ⟨n,?_,Y⟩;rw [hx x (by simp [I.xs])]
  cases hv:s.ev x with
  |c a=>
   rw [hv] at V cF;cases a with
   |h g c p y=>
    cases str with
    |true=>exact V
    |false=>obtain ⟨dd,k1,k2⟩:=V;exact ⟨dd,qb cF (by exact k1),k2⟩
   |hs g c p y sz lo m=>
    cases str with
    |true=>exact V
    |false=>obtain ⟨⟨dd,k1⟩,k2⟩:=V;exact ⟨⟨dd,qb cF (by exact k1)⟩,k2⟩
   |v u=>cases str<;>cases u<;>first|exact V|(rename_i a l c;cases a<;>cases l<;>cases c<;>exact V)
   |_=>cases str<;>exact V
  |_=>rw [hv] at V;cases str<;>exact V
 |app e size bytes x y=>exact h
 |apps e x y=>exact h
 |clr size zs x=>exact h
 |mm mx x y=>simp only [Gen] at h⊢;rw [hx x (by simp [I.xs]),hx y (by simp [I.xs])];exact h
 |mks e size bytes zs l c=>simp only [Gen] at h⊢;rw [hx l (by simp [I.xs]),hx c (by simp [I.xs])];exact h
 |sl size x lo hi=>
  simp only [Gen] at h⊢;have cF:∀g∈(s.ev x).ids,s2.o g=s.o g:=λg hg=>ho (.ob g) (aCY.2 ⟨g,hg,rfl⟩)
  have lF:∀y,lo=some y->s2.ev y=s.ev y:=λy hy=>hx y (by simp [I.xs,hy])
  have gC:∀y,hi=some y->s2.ev y=s.ev y:=λy hy=>hx y (by simp [I.xs,hy])
  rw [hx x (by simp [I.xs])]
  obtain ⟨l,hh,V,Y,h3,h4⟩:=h;refine ⟨l,hh,vd lF V,Y,?_,h4⟩;cases hv:s.ev x with
  |c a=>
   rw [hv] at h3 cF;cases a with
   |v u=>
    cases u with
    |string b=>exact ⟨h3.1,vd gC h3.2.1,h3.2.2⟩
    |_=>exact h3
   |ro dd=>exact ⟨h3.1,h3.2.1,h3.2.2.1,vd gC h3.2.2.2.1,h3.2.2.2.2⟩
   |h g c p y=>obtain ⟨k0,⟨dd,k1,k2,k3,k4⟩,k5⟩:=h3;exact ⟨k0,⟨dd,qb cF (by exact k1),k2,vd gC k3,k4⟩,k5⟩
   |hs g c p y sz lo m=>obtain ⟨⟨dd,k1⟩,k2,k3,k4⟩:=h3;exact ⟨⟨dd,qb cF (by exact k1)⟩,k2,vd gC k3,k4⟩
   |_=>exact h3
  |_=>rw [hv] at h3;exact h3
 |ext x i=>simp only [Gen] at h⊢;rw [hx x (by simp [I.xs])];exact h
 |fld agg off n x=>simp only [Gen] at h⊢;rw [hx x (by simp [I.xs])];exact h
 |mkf f caps=>simp only [Gen] at h⊢;rw [jfo (s:=s) (s2:=s2) λx cL=>hx x (by simpa [I.xs] using cL)];exact h
 |call f args=>
  simp only [Gen] at h⊢;rw [zq (s:=s) (s2:=s2) λx cL=>hx x (by simpa [I.xs] using cL)]
  obtain ⟨vs,V,Y⟩:=h;exact ⟨vs,jcP (hn rfl) V,Y⟩
 |callv x args=>
  simp only [Gen] at h⊢;rw [zq (s:=s) (s2:=s2) (l:=args) λy hy=>hx y (by simp [I.xs,hy]),hx x (by simp [I.xs])]
  obtain ⟨f,caps,vs,h0,V,Y⟩:=h;exact ⟨f,caps,vs,h0,jcP (hn rfl) V,Y⟩
theorem jhZ {i:I} (hx:∀x∈i.xs,s2.ev x=s.ev x):i.looks s2=i.looks s:=by
 cases i<;>first|rfl|(simp only [I.looks];rw [hx _ (by simp [I.xs])])
theorem jn2 {d d':Nat} {rt rt':RT} {st st':jmD} {i:I} {av:AV} {os:List (Nat×Ob)} (hp:i.pureB=true) (h:Gen P s d rt st i av os):Gen P s d' rt' st' i av []/\os=[]:=by
 cases i<;>first|cases hp|skip
 case mov=>obtain ⟨V,rfl⟩:=h;exact ⟨⟨V,rfl⟩,rfl⟩
 case pick=>obtain ⟨t,V,Y,rfl⟩:=h;exact ⟨⟨t,V,Y,rfl⟩,rfl⟩
 case bld=>obtain ⟨t,V,Y,rfl⟩:=h;exact ⟨⟨t,V,Y,rfl⟩,rfl⟩
 case ld=>obtain ⟨t,V,Y,rfl⟩:=h;exact ⟨⟨t,V,Y,rfl⟩,rfl⟩
 case fa=>obtain ⟨V,rfl⟩:=h;exact ⟨⟨V,rfl⟩,rfl⟩
 case ia=>obtain ⟨k,n,V,Y,h3,rfl⟩:=h;exact ⟨⟨k,n,V,Y,h3,rfl⟩,rfl⟩
 case sidx=>obtain ⟨b,k,n,u,V,Y,h3,h4,h5,rfl⟩:=h;exact ⟨⟨b,k,n,u,V,Y,h3,h4,h5,rfl⟩,rfl⟩
 case bin=>obtain ⟨V,rfl⟩:=h;exact ⟨⟨V,rfl⟩,rfl⟩
 case beq=>obtain ⟨a,b,V,Y,h3,rfl⟩:=h;exact ⟨⟨a,b,V,Y,h3,rfl⟩,rfl⟩
 case un=>obtain ⟨V,rfl⟩:=h;exact ⟨⟨V,rfl⟩,rfl⟩
 case cv=>obtain ⟨V,rfl⟩:=h;exact ⟨⟨V,rfl⟩,rfl⟩
 case len=>obtain ⟨n,V,Y,rfl⟩:=h;exact ⟨⟨n,V,Y,rfl⟩,rfl⟩
 case mm=>obtain ⟨k,k',a,b,V,Y,h3,rfl⟩:=h;exact ⟨⟨k,k',a,b,V,Y,h3,rfl⟩,rfl⟩
 case sl=>obtain ⟨l,hh,V,Y,h3,rfl⟩:=h;exact ⟨⟨l,hh,V,Y,h3,rfl⟩,rfl⟩
 case ext=>obtain ⟨l,b,az,V,Y,h3,rfl⟩:=h;exact ⟨⟨l,b,az,V,Y,h3,rfl⟩,rfl⟩
 case fld=>obtain ⟨l,V,Y,h3,rfl⟩:=h;exact ⟨⟨l,V,Y,h3,rfl⟩,rfl⟩
 case mkf=>obtain ⟨l,V,Y,rfl⟩:=h;exact ⟨⟨l,V,Y,rfl⟩,rfl⟩
theorem jd2 {i:Ins} (hp:i.i.pureB=true) {K:St->Prop}:kK P β i s K=(∃rt,∀st,∃av os,Gen P s (β+i.d.getD 0) rt st i.i av os/\K ((s.addO os).put i.d av)):=by
 obtain ⟨d,g,i⟩:=i;cases i<;>first|rfl|cases hp
theorem kN:∀{l:List A0} {s:St} {K K':List Cell->St->Prop},(∀cs s,K cs s->K' cs s)->jY s l K->jY s l K'
 |[],_,_,_,h,hk=>h _ _ hk
 |.h g c p x::l,_,_,_,h,⟨V,d,η,Y,h3,h4⟩=>⟨V,d,η,Y,h3,kN (λcs s=>h _ s) h4⟩
 |.v _::l,_,_,_,h,⟨V,Y⟩=>⟨V,kN (λcs s=>h _ s) Y⟩
 |.ro _::l,_,_,_,h,⟨V,Y⟩=>⟨V,kN (λcs s=>h _ s) Y⟩
 |.rp _::l,_,_,_,h,⟨V,Y⟩=>⟨V,kN (λcs s=>h _ s) Y⟩
 |.bp _ _ _::l,_,_,_,h,⟨V,Y⟩=>⟨V,kN (λcs s=>h _ s) Y⟩
 |.ep _ _ _ _ _::l,_,_,_,h,⟨V,Y⟩=>⟨V,kN (λcs s=>h _ s) Y⟩
 |.un::l,_,_,_,h,⟨V,Y⟩=>⟨V,kN (λcs s=>h _ s) Y⟩
 |.hs _ _ _ _ _ _ _::l,_,_,_,h,⟨V,Y⟩=>⟨V,kN (λcs s=>h _ s) Y⟩
theorem Turns.mono {f:FuncId} {args:List AV} {o:Nat->Ob} {R R':RT->(Nat->Ob)->Prop} (h:∀rt o',R rt o'->R' rt o') (ht:Turns P f args o R):Turns P f args o R':=
 ⟨ht.1,λB w F xs V Y=>(ht.2 B w F xs V Y).mono λe w' ⟨v,rt,o',S,F',k1,k2,k3,k4,k5,k6⟩=>⟨v,rt,o',S,F',k1,k2,k3,k4,k5,h _ _ k6⟩⟩
theorem Inl.mono {f:FuncId} {args:List AV} {o:Nat->Ob} {R R':AV->(Nat->Ob)->Prop} (h:∀av o',R av o'->R' av o') (ht:Inl P f args o R):Inl P f args o R':=
 ⟨ht.1,λB w F xs V Y=>(ht.2 B w F xs V Y).mono λe w' ⟨v,av,o',F',k1,k2,k3,k4⟩=>⟨v,av,o',F',k1,k2,k3,h _ _ k4⟩⟩
theorem jk6 {i:Ins} {d:Option Nat} {v:AV} {K K':St->Prop} (hd:∀k,d=some k->(∀x∈i.i.xs,x≠.t k)/\i.d≠some k) (h:∀s2:St,(∀n,i.d≠some n->s2.t n=s.t n)->K (s2.put d v)->K' s2) (hr:kK P β i (s.put d v) K):kK P β i s K':=by
 obtain ⟨id,ig,i⟩:=i;simp only at hd
 have dS:∀x∈i.xs,(s.put d v).ev x=s.ev x:=λx hx=>by
  cases d with
  |none=>rfl
  |some k=>
   refine jiN λn hn=>?_
   have:=(hd k rfl).1 x hx;show (if n=k then v else s.t n)=s.t n
   rw [if_neg λe=>this (by rw [hn,e])]
 have ho:(s.put d v).o=s.o:=by cases d<;>rfl
 have dP:∀(s1:St) (os:List (Nat×Ob)) (av:AV),s1.t=s.t->K ((((s1.put d v).addO os)).put id av)->K' ((s1.addO os).put id av):=λs1 os av V hk=>by
  have e1:∀(os:List (Nat×Ob)) (s1:St),(s1.put d v).addO os=(s1.addO os).put d v:=by
   intro os
   induction os with
   |nil=>intro s1;rfl
   |cons p os ih=>
    intro s1;obtain ⟨g,ob⟩:=p;show ((s1.put d v).setO g ob).addO os=((s1.setO g ob).addO os).put d v;rw [<-ih]
    congr 1
    cases d<;>rfl
  have e2:∀s1:St,(s1.put d v).put id av=(s1.put id av).put d v:=λs1=>by
   cases d with
   |none=>rfl
   |some k=>
    cases id with
    |none=>rfl
    |some j=>
     have a7:j≠k:=λe=>(hd k rfl).2 (by rw [e])
     simp only [St.put,St.mk.injEq,and_true]
     funext n
     by_cases V:n=j<;>by_cases Y:n=k<;>simp_all
  have e3:∀(os:List (Nat×Ob)) (s1:St),(s1.addO os).t=s1.t:=by
   intro os
   induction os with
   |nil=>intro s1;rfl
   |cons p os ih=>intro s1;obtain ⟨g,ob⟩:=p;show ((s1.setO g ob).addO os).t=_;rw [ih];rfl
  rw [e1,e2] at hk;refine h _ (λn hn=>?_) hk
  cases id with
  |none=>show (s1.addO os).t n=_;rw [e3,V]
  |some j=>
   show (if n=j then av else (s1.addO os).t n)=_
   rw [if_neg λe=>hn (by rw [e]),e3,V]
 have mK:∀j:I,(∀x∈j.xs,(s.put d v).ev x=s.ev x)->(∃rt,∀st,∃av os,Gen P (s.put d v) (β+id.getD 0) rt st j av os/\K (((s.put d v).addO os).put id av))->
  ∃rt,∀st,∃av os,Gen P s (β+id.getD 0) rt st j av os/\K' ((s.addO os).put id av):=λj hj ⟨rt,hg⟩=>⟨rt,λst=>by
  obtain ⟨av,os,V,Y⟩:=hg st;exact ⟨av,os,jg3 (λx hx=>(hj x hx).symm) (λg _=>jlR) (λ_=>ho.symm) V,dP s os av rfl Y⟩⟩
 have dZ:∀{l:List A0} {s1:St} {R R':List Cell->St->Prop},s1.t=s.t->(∀cs s2,s2.t=s.t->R cs (s2.put d v)->R' cs s2)->jY (s1.put d v) l R->jY s1 l R':=by
  intro l
  induction l with
  |nil=>intro s1 R R' V Y hk;exact Y _ _ V hk
  |cons x l ih=>
   intro s1 R R' V Y hk;have plain:∀a:A0,jY (s1.put d v) l (λcs s'=>R (.a a::cs) s')->jY s1 l (λcs s'=>R' (.a a::cs) s'):=λa hk=>ih V (λcs s2 h3=>Y _ s2 h3) hk
   cases x with
   |h g c p x=>
    obtain ⟨k1,d0,η,k2,k3,k4⟩:=hk;have dJ:(s1.put d v).o=s1.o:=by cases d<;>rfl
    have l5:(s1.put d v).rm g c=(s1.rm g c).put d v:=by cases d<;>rfl
    rw [dJ] at k2;rw [l5] at k4;exact ⟨k1,d0,η,k2,k3,ih (by exact V) (λcs s2 h3=>Y _ s2 h3) k4⟩
   |_=>exact ⟨hk.1,plain _ hk.2⟩
 have lK:∀{e size:Nat} {a:AV} {s1:St} {R R':List D->St->Prop},s1.t=s.t->(∀cs s2,s2.t=s.t->R cs (s2.put d v)->R' cs s2)->jdB (s1.put d v) e size a R->jdB s1 e size a R':=by
  intro e size a s1 R R' V Y hk;unfold jdB at hk⊢;split
  ·exact Y _ _ V hk
  ·have dJ:(s1.put d v).o=s1.o:=by cases d<;>rfl
   rw [dJ] at hk;have l5:∀g c,(s1.put d v).rm g c=(s1.rm g c).put d v:=λg c=>by cases d<;>rfl
   have bG:∀g ob,(s1.put d v).setO g ob=(s1.setO g ob).put d v:=λg ob=>by cases d<;>rfl
   rcases hk with ⟨k1,cs,η,k2,k3,k4⟩|⟨k,k1,sz,tyo,ds0,cs,η,k2,k3,k4,k5⟩
   ·rw [l5] at k4
    exact .inl ⟨k1,cs,η,k2,k3,Y _ _ V k4⟩
   ·refine .inr ⟨k,k1,sz,tyo,ds0,cs,η,k2,k3,k4,λaW hη=>?_⟩
    have k6:=k5 aW hη;rw [bG] at k6;exact Y _ _ V k6
  ·simp_all
 have g9:∀{size:Nat} {a:AV} {s1:St} {R R':List D->St->Prop},s1.t=s.t->(∀cs s2,s2.t=s.t->R cs (s2.put d v)->R' cs s2)->jmL (s1.put d v) size a R->jmL s1 size a R':=by
  intro size a s1 R R' V Y hk;have dJ:(s1.put d v).o=s1.o:=by cases d<;>rfl
  unfold jmL at hk⊢;split
  ·exact Y _ _ V hk
  ·obtain ⟨k1,k2,k3,k4⟩:=hk;exact ⟨k1,k2,k3,Y _ _ V k4⟩
  ·obtain ⟨dd,k1,k2,k3,k4⟩:=hk;exact ⟨dd,qb (λg _=>by rw [dJ]) k1,k2,k3,Y _ _ V k4⟩
  ·obtain ⟨dd,k1,k2,k3⟩:=hk
   refine ⟨dd,qb (λg _=>by rw [dJ]) k1,k2,?_⟩
   have l5:∀g c,(s1.put d v).rm g c=(s1.rm g c).put d v:=λg c=>by cases d<;>rfl
   split
   ·rw [if_pos (by assumption)] at k3;exact Y _ _ V k3
   ·rw [if_neg (by assumption),l5] at k3;exact ⟨k3.1,k3.2.1,Y _ _ (by exact V) k3.2.2⟩
  ·simp_all
 cases i with
 |box ty n x=>
  obtain ⟨l,V,Y,h3⟩:=hr;rw [dS x (by simp [I.xs])] at V
  exact ⟨l,V,Y,dZ rfl (λcs s2 h4 h5 b=>dP s2 _ _ h4 (h5 b)) h3⟩
 |bsl e size n ks ps=>
  obtain ⟨l,V,h3⟩:=hr;rw [jhk (s:=s) λx hx=>dS x (by simpa [I.xs] using hx)] at V
  exact ⟨l,V,dZ rfl (λcs s2 h4 ⟨ds,h5,h6⟩=>⟨ds,h5,λη=>dP s2 _ _ h4 (h6 η)⟩) h3⟩
 |st n ks a x=>
  obtain ⟨h0,l,V,Y,h3⟩:=hr;simp only at h0;subst h0;rw [dS x (by simp [I.xs])] at V
  rw [dS a (by simp [I.xs])] at h3
  refine ⟨rfl,l,V,Y,dZ rfl (λcs s2 h4 h5=>?_) h3⟩
  have eL:(s2.put d v).o=s2.o:=by cases d<;>rfl
  have pB:∀g ob,K ((s2.put d v).setO g ob)->K' (s2.setO g ob):=λg ob hk=>dP s2 [(g,ob)] (.unk) h4 hk
  split at h5
  ·obtain ⟨ty,ds,k1,k2,k3⟩:=h5
   rw [eL] at k1;exact ⟨ty,ds,k1,k2,pB _ _ k3⟩
  ·obtain ⟨k0,ds,k1,d0,η,dd,k2,k3,k4,k5,k6,k7⟩:=h5
   rw [eL] at k2 k7;exact ⟨k0,ds,k1,d0,η,dd,k2,k3,k4,k5,k6,jis (λaW hk=>pB _ _ hk) k7⟩
  ·exact h5.elim
 |app e size bytes x y=>
  have cM:=hr;simp only [kK] at cM⊢;rw [dS x (by simp [I.xs]),dS y (by simp [I.xs])] at cM
  exact g9 rfl (λys s1 V hk=>lK V (λxs s2 Y ⟨k1,k2,k3⟩=>⟨k1,k2,λη=>dP s2 _ _ Y (k3 η)⟩) hk) cM
 |apps e x y=>
  obtain ⟨b,V,Y⟩:=hr;rw [dS y (by simp [I.xs])] at V
  rw [dS x (by simp [I.xs])] at Y
  exact ⟨b,V,lK rfl (λxs s2 Y ⟨k1,k3⟩=>⟨k1,λη=>dP s2 _ _ Y (k3 η)⟩) Y⟩
 |clr size zs x=>
  obtain ⟨h0,h3⟩:=hr;simp only at h0;subst h0;rw [dS x (by simp [I.xs])] at h3
  refine ⟨rfl,?_⟩;split at h3
  ·exact dP s [] .unk rfl h3
  ·obtain ⟨k0,k1,d0,η,dd,k2,k3,k4,k5,k6,k7,k8⟩:=h3
   rw [ho] at k2 k8;exact ⟨k0,k1,d0,η,dd,k2,k3,k4,k5,k6,k7,jis (λaW hk=>dP s [(_,_)] .unk rfl hk) k8⟩
  ·exact h3.elim
 |call f args=>
  rcases hr with hg|ht|ht
  ·exact .inl (mK _ dS hg)
  ·right;left
   rw [zq (s:=s) λx hx=>dS x (by simpa [I.xs] using hx),ho] at ht
   refine ht.mono λrt o' hR η=>?_
   have:=hR η;exact dP ⟨s.t,o'⟩ _ _ rfl (by cases d<;>exact this)
  ·right;right
   rw [zq (s:=s) λx hx=>dS x (by simpa [I.xs] using hx),ho] at ht
   refine ht.mono λav o' hR=>?_
   exact dP ⟨s.t,o'⟩ [] av rfl (by cases d<;>exact hR)
 |callv x args=>
  rcases hr with hg|⟨f,caps,h0,ht⟩
  ·exact .inl (mK _ dS hg)
  ·right
   rw [dS x (by simp [I.xs])] at h0
   rw [zq (s:=s) (l:=args) λy hy=>dS y (by simp [I.xs,hy]),ho] at ht
   refine ⟨f,caps,h0,ht.mono λrt o' hR η=>?_⟩
   have:=hR η;exact dP ⟨s.t,o'⟩ _ _ rfl (by cases d<;>exact this)
 |_=>exact mK _ dS hr
theorem jba {i:Ins} {K K':St->Prop} (h:∀s,K s->K' s) (hr:kK P β i s K):kK P β i s K':=
 jk6 (d:=none) (v:=.unk) (λk hk=>by cases hk) (λs2 _ hk=>h s2 hk) hr
end
inductive Reach (ops:Array Oper):Nat->Nat->Prop where
 |one {j i:Nat} {o:Oper} {e:Edge} (hj:ops[j]?=some o) (he:e∈o.after) (Z:Region.binds .any e=true) (hi:e.on=i):Reach ops j i
 |more {j i:Nat} {o:Oper} {e:Edge} (hj:ops[j]?=some o) (he:e∈o.after) (Z:Region.binds .any e=true) (hi:Reach ops e.on i):Reach ops j i
theorem Reach.trans {ops:Array Oper} {j i k:Nat} (h:Reach ops j i) (Y:Reach ops i k):Reach ops j k:=by
 induction h with
 |one hj he Z hi=>subst hi;exact .more hj he Z Y
 |more hj he Z _ ih=>exact .more hj he Z (ih Y)
theorem jeI {ops:Array Oper} {j0:Nat}:∀{n:Nat} {seen todo:List Nat},(∀x∈seen,Reach ops j0 x)->(∀x∈todo,x=j0\/Reach ops j0 x)->∀x∈jqA ops n seen todo,Reach ops j0 x
 |0,_,_,h,_,x,hx=>h x (by simpa [jqA] using hx)
 |n+1,_,[],h,_,x,hx=>h x (by simpa [jqA] using hx)
 |n+1,seen,j::todo,h,Y,x,hx=>by
  simp only [jqA] at hx;split at hx
  ·rename_i o ho
   have bR:∀y∈(o.after.toList.filter λe=>Region.binds .any e&&!seen.contains e.on).map (·.on),Reach ops j0 y:=by
    intro y hy;obtain ⟨e,he,rfl⟩:=aCY.1 hy;obtain ⟨sZ,bW⟩:=List.mem_filter.1 he
    have Z:Region.binds .any e=true:=by
     cases hq:Region.binds .any e with
     |true=>rfl
     |false=>rw [hq] at bW;simp at bW
    have V:Reach ops j e.on:=.one ho (by simpa using sZ) Z rfl
    rcases Y j (by simp) with rfl|h3
    ·exact V
    ·exact h3.trans V
   refine jeI (n:=n) ?_ ?_ x hx
   ·intro y hy
    rcases aAS.1 hy with hy|hy
    ·exact bR y hy
    ·exact h y hy
   ·intro y hy
    rcases aAS.1 hy with hy|hy
    ·exact .inr (bR y hy)
    ·exact Y y (by simp [hy])
  ·exact jeI (n:=n) h (λy hy=>Y y (by simp [hy])) x hx
theorem jhy {ops:Array Oper} {n j i:Nat} (h:jgf ops n j i=true):Reach ops j i:=by
 unfold jgf at h;rw [List.contains_iff_mem] at h;exact jeI (by simp) (by simp) i h
def Closed (ops:Array Oper) (listed:Array Bool):Prop:=∀(k:Nat) (o:Oper),ops[k]?=some o->listed.getD k false=true->∀e∈o.after,Region.binds .any e=true->listed.getD e.on false=true
theorem Closed.reach {ops:Array Oper} {listed:Array Bool} (h:Closed ops listed):∀{j i:Nat},Reach ops j i->(∀(o:Oper),ops[j]?=some o->∀e∈o.after,Region.binds .any e=true->listed.getD e.on false=true)->listed.getD i false=true:=by
 intro j i hr
 induction hr with
 |one hj he Z hi=>intro hl;subst hi;exact hl _ hj _ he Z
 |more hj he Z _ ih=>intro hl;exact ih λo ho e' eQ aS=>h _ o ho (hl _ hj _ he Z) e' eQ aS
theorem Closed.add {ops:Array Oper} {listed:Array Bool} {j:Nat} (h:Closed ops listed) (hj:j∈Region.ready .any ops listed):Closed ops (listed.setIfInBounds j true):=by
 intro k o ho hk e he Z;obtain ⟨_,oj,mC,bU⟩:=mem_ready.1 hj;by_cases uM:k=j
 ·subst uM
  rw [ho] at mC;cases mC;exact getD_set_true (bU e he Z)
 ·rw [getD_set_ne false (Ne.symm uM)] at hk
  exact getD_set_true (h k o ho hk e he Z)
theorem jqd {listed:Array Bool} {i:Nat} (h:listed.getD i true=false):listed.getD i false=false:=by
 rcases Nat.lt_or_ge i listed.size with h'|h'
 ·simpa [h'] using h
 ·simp [Array.getElem?_eq_none h'] at h
section
variable {P:Program} {β N:Nat} {ops:Array Oper} {is:List Ins} {Q:St->Prop}
def jdd (P:Program) (β:Nat) (is:List Ins) (j:Nat) (K:St->Prop) (s:St):Prop:=match is[j]? with
 |none=>False
 |some i=>match kX s i.g with
  |some true=>kK P β i s K
  |some false=>K (s.put i.d (.c (.v undef)))
  |none=>False
def jp2 (ops:Array Oper) (j:Nat) (l:List (Nat×List Lk)) (s s':St):Prop:=∀p∈l,¬Reach ops j p.1->∀k∈p.2,jiD s s' k
def jmd (P:Program) (β:Nat) (ops:Array Oper) (is:List Ins) (Q:St->Prop):Nat->List (Nat×List Lk)->Array Bool->St->Prop
 |0,_,listed,s=>Region.ready .any ops listed=[]/\Q s
 |f+1,l,listed,s=>(Region.ready .any ops listed=[]->Q s)/\∀j∈Region.ready .any ops listed,jdd P β is j (λs'=>jp2 ops j l s s'/\jmd P β ops is Q f l (listed.setIfInBounds j true) s') s
theorem jfm {j:Nat} {K K':St->Prop} {s:St} (h:∀s,K s->K' s) (hs:jdd P β is j K s):jdd P β is j K' s:=by
 unfold jdd at hs⊢;split
 ·simp_all
 ·rename_i i hi
  simp only [hi] at hs;split
  ·rename_i hw;simp only [hw] at hs;exact jba h hs
  ·rename_i hw;simp only [hw] at hs;exact h _ hs
  ·rename_i hw;simp only [hw] at hs
theorem jes:∀{l:List Oper} {is:List Ins},jet P N ops l=some is->is.length=l.length/\∀(j:Nat) (o:Oper),l[j]?=some o->∃i,is[j]?=some i/\joj P N ops o=some i
 |[],is,h=>by simp [jet] at h;subst h;simp
 |o::l,is,h=>by
  simp only [jet] at h;split at h
  ·rename_i i r V Y
   simp at h;subst h;obtain ⟨h3,h4⟩:=jes Y;refine ⟨by simp [h3],λj o' ho=>?_⟩
   cases j with
   |zero=>simp at ho;subst ho;exact ⟨i,rfl,V⟩
   |succ j=>exact h4 j o' (by simpa using ho)
  ·simp at h
theorem jmB {B:Nat} {w0:World} {Q':Exit->Act->World->Prop} (hc:jet P N ops ops.toList=some is) (hQ:∀s a w F,RelF B w0 N s a w F->Q s->Q' .normal a w):∀(f:Nat) (l:List (Nat×List Lk)) (listed:Array Bool) (s:St) (a:Act) (w:World) (F:Nat->List Nat),
 RelF B w0 N s a w F->jmd P β ops is Q f l listed s->wpAny P .any ops Q' f listed a w
 |0,_,_,s,a,w,F,h,hs=>⟨hs.1,hQ _ _ _ _ h hs.2⟩
 |f+1,l,listed,s,a,w,F,h,hs=>by
  refine ⟨λh0=>hQ _ _ _ _ h (hs.1 h0),λj hj=>?_⟩
  have bG:=hs.2 j hj;obtain ⟨_,o,ho,_⟩:=mem_ready.1 hj;obtain ⟨i,hi,yB⟩:=(jes hc).2 j o (by simpa using ho)
  obtain ⟨e1,e2,e3,e4⟩:=jiR yB;unfold jdd at bG;simp only [hi] at bG;unfold wpOp;simp only [ho];split at bG
  ·rename_i hw
   rw [if_pos (jdE h e4 hw)];refine .inl (jrV e2 (g:=i.g) (β:=β) (K:=λs'=>jp2 ops j l s s'/\jmd P β ops is Q f l (listed.setIfInBounds j true) s') h e3 (by rw [<-e1];exact bG) _ _ λa' w' ⟨s',F',h3,h4⟩=>jmB hc hQ f l _ _ _ _ _ h3 h4.2)
  ·rename_i hw
   rw [if_neg (by rw [jdE h e4 hw];simp)]
   rw [e1] at bG;exact jmB hc hQ f l _ _ _ _ _ (h.put (u:=undef) (v:=.c (.v undef)) rfl e3) bG.2
  ·exact bG.elim
theorem jiZ {p:Nat×List Lk}:∀(f:Nat) (l:List (Nat×List Lk)) (listed:Array Bool) (s:St),jmd P β ops is Q f (p::l) listed s->jmd P β ops is Q f l listed s
 |0,_,_,_,h=>h
 |f+1,l,listed,s,h=>⟨h.1,λj hj=>jfm (λs' ⟨V,Y⟩=>⟨λq hq=>V q (by simp [hq]),jiZ f l _ s' Y⟩) (h.2 j hj)⟩
theorem jmA {i:Nat}:∀(f:Nat) (l:List (Nat×List Lk)) (listed:Array Bool) (s:St),jmd P β ops is Q f l listed s->jmd P β ops is Q f ((i,[])::l) listed s
 |0,_,_,_,h=>h
 |f+1,l,listed,s,h=>⟨h.1,λj hj=>jfm (λs' ⟨V,Y⟩=>⟨λq hq hr g hg=>by
   rcases aBB.1 hq with rfl|hq
   ·simp at hg
   ·exact V q hq hr g hg,jmA f l _ s' Y⟩) (h.2 j hj)⟩
def EY (P:Program) (x:Ins) (s:St) (v:AV) (ids:List Lk):Prop:=
 (kX s x.g=some true/\x.i.pureB=true/\ids=x.i.looks s/\∀d rt st,Gen P s d rt st x.i v [])\/(kX s x.g=some false/\v=.c (.v undef)/\ids=[])
theorem EY.run {x:Ins} {s:St} {v:AV} {ids:List Lk} {i:Nat} {K:St->Prop} (gU:is[i]?=some x) (h:EY P x s v ids) (hk:K (s.put x.d v)):jdd P β is i K s:=by
 unfold jdd;simp only [gU];rcases h with ⟨V,Y,_,h3⟩|⟨V,rfl,_⟩
 ·simp only [V]
  rw [jd2 Y];exact ⟨.c (.val undef),λst=>⟨v,[],h3 _ _ _,hk⟩⟩
 ·simp only [V];exact hk
theorem je7 {s s2:St} {g:Option (Nat×Bool)} (h:∀t w,g=some (t,w)->s2.t t=s.t t):kX s2 g=kX s g:=by
 cases g with
 |none=>rfl
 |some p=>obtain ⟨t,w⟩:=p;simp only [kX,h t w rfl]
theorem EY.stable {x:Ins} {s s2:St} {v:AV} {ids:List Lk} (h:EY P x s v ids) (ht:∀n∈x.uses,s2.t n=s.t n) (ho:∀k∈ids,jiD s s2 k):EY P x s2 v ids:=by
 have dS:∀y∈x.i.xs,s2.ev y=s.ev y:=λy hy=>jiN λn hn=>ht n (by
  subst hn;exact List.mem_append_left _ (List.mem_filterMap.2 ⟨_,hy,rfl⟩))
 have hw:kX s2 x.g=kX s x.g:=je7 λt w hg=>ht t (by simp [Ins.uses,hg])
 rcases h with ⟨V,Y,h3,h4⟩|⟨V,Y,h3⟩
 ·refine .inl ⟨by rw [hw];exact V,Y,by rw [jhZ dS];exact h3,λd rt st=>jg3 dS (λg hg=>ho g (by rw [h3];exact hg)) (λhp=>by rw [Y] at hp;cases hp) (h4 d rt st)⟩
 ·exact .inr ⟨by rw [hw];exact V,Y,h3⟩
theorem jkf {x y:Ins} (h:jfq x y=true):(∀d,x.d=some d->d∉y.uses/\y.d≠some d)/\∀d,y.d=some d->d∉x.uses:=by
 simp only [jfq,aBH] at h;refine ⟨λd hd=>?_,λd hd=>?_⟩
 ·have:=h.1;rw [hd] at this;simpa using this
 ·have:=h.2;rw [hd] at this;simpa using this
theorem jmc {j:Nat} {x y:Ins} {s:St} {v:AV} {K K':St->Prop} (hy:is[j]?=some y) (pG:jfq x y=true) (h:∀s2:St,(∀n∈x.uses,s2.t n=s.t n)->K (s2.put x.d v)->K' s2) (hs:jdd P β is j K (s.put x.d v)):jdd P β is j K' s:=by
 obtain ⟨V,Y⟩:=jkf pG
 have hw:kX (s.put x.d v) y.g=kX s y.g:=je7 λt w hg=>by
  cases hd:x.d with
  |none=>rfl
  |some d=>
   have a7:t≠d:=λe=>(V d hd).1 (by simp [Ins.uses,hg,e])
   show (if t=d then v else s.t t)=_
   rw [if_neg a7]
 unfold jdd at hs⊢;simp only [hy,hw] at hs⊢;split at hs
 ·refine jk6 (λk hk=>⟨λz hz e=>(V k hk).1 ?_,(V k hk).2⟩) (λs2 ht hk=>h s2 (λn hn=>ht n λe=>Y n e hn) hk) hs
  subst e;exact List.mem_append_left _ (List.mem_filterMap.2 ⟨_,hz,rfl⟩)
 ·refine h _ (λn hn=>?_) ?_
  ·cases hd:y.d with
   |none=>rfl
   |some d=>
    show (if n=d then _ else s.t n)=_
    rw [if_neg λ(e:n=d)=>Y d hd (e▸hn)]
  ·have e:(s.put x.d v).put y.d (.c (.v undef))=(s.put y.d (.c (.v undef))).put x.d v:=by
    cases hd:x.d with
    |none=>rfl
    |some k=>
     cases dQ:y.d with
     |none=>rfl
     |some m=>
      have a7:m≠k:=λe=>(V k hd).2 (by rw [dQ,e])
      simp only [St.put,St.mk.injEq,and_true]
      funext n
      by_cases V:n=m<;>by_cases Y:n=k<;>simp_all
   rw [<-e];exact hs
 ·exact hs
theorem jhs {i:Nat} {x:Ins} {v:AV} {ids:List Lk} (aJ:is.length=ops.size) (gU:is[i]?=some x):∀(f:Nat) (l:List (Nat×List Lk)) (listed:Array Bool) (s:St),Closed ops listed->
 (∀(j:Nat) (oj:Oper) (y:Ins),ops[j]?=some oj->is[j]?=some y->j≠i->listed.getD j true=false->(∀e∈oj.after,Region.binds .any e=true->e.on≠i)->jfq x y=true)->
 i∈Region.ready .any ops listed->EY P x s v ids->jmd P β ops is Q f ((i,ids)::l) (listed.setIfInBounds i true) (s.put x.d v)->jmd P β ops is Q (f+1) l listed s:=by
 intro f
 induction f with
 |zero=>
  intro l listed s _ _ hr hy H;refine ⟨λh=>(by rw [h] at hr;cases hr),λj hj=>?_⟩
  by_cases hY:j=i
  ·subst hY
   exact hy.run gU ⟨λp _ _ g _=>jfP,H⟩
  ·have:=ready_mono hj hY
   rw [H.1] at this;cases this
 |succ f ih=>
  intro l listed s cJ eY hr hy H;refine ⟨λh=>(by rw [h] at hr;cases hr),λj hj=>?_⟩
  by_cases hY:j=i
  ·subst hY
   exact hy.run gU ⟨λp _ _ g _=>jfP,jiZ _ _ _ _ H⟩
  ·have V:=H.2 j (ready_mono hj hY)
   obtain ⟨oY,oj,mC,bU⟩:=mem_ready.1 hj;have sP:=(mem_ready.1 hr).1
   have uG:¬Reach ops j i:=λhh=>by
    have:=cJ.reach hh λo ho e he Z=>by rw [mC] at ho;cases ho;exact bU e he Z
    rw [jqd sP] at this;cases this
   have sE:∀e∈oj.after,Region.binds .any e=true->e.on≠i:=λe he Z cV=>uG (.one mC he Z cV)
   have sN:j<is.length:=by rw [aJ];exact (Array.getElem?_eq_some_iff.1 mC).1
   obtain ⟨y,t5⟩:∃y,is[j]?=some y:=⟨is[j],aAT sN⟩;refine jmc t5 (eY j oj y mC t5 hY oY sE) (λs2 ht ⟨k1,k2⟩=>?_) V
   refine ⟨λp hp mD g hg=>?_,?_⟩
   ·have:=k1 p (by simp [hp]) mD g hg
    exact kept_put2.1 this
   ·have wK:EY P x s2 v ids:=hy.stable ht λg hg=>by
     have:=k1 (i,ids) (by simp) uG g hg
     exact kept_put2.1 this
    refine ih l (listed.setIfInBounds j true) s2 (cJ.add hj) (λk ok z hk hz xO pY bQ=>?_) (ready_mono hr (Ne.symm hY)) wK ?_
    ·refine eY k ok z hk hz xO ?_ bQ
     by_cases gT:j=k
     ·subst gT;exact oY
     ·rw [getD_set_ne true gT] at pY;exact pY
    ·rw [Array.setIfInBounds_comm _ _ hY]
     exact k2
theorem jlX {i:Nat} {x:Ins} {listed:Array Bool} (gU:is[i]?=some x) (h:jqf ops is listed i=true):x.i.pureB=true/\∀(j:Nat) (oj:Oper) (y:Ins),ops[j]?=some oj->is[j]?=some y->j≠i->listed.getD j true=false->(∀e∈oj.after,Region.binds .any e=true->e.on≠i)->jfq x y=true:=by
 simp only [jqf,gU,aBH,List.all_eq_true,List.mem_range] at h;refine ⟨h.1,λj oj y hj hy a7 pY bQ=>?_⟩
 have V:=h.2 j (Array.getElem?_eq_some_iff.1 hj).1;simp only [hj,hy,Bool.or_eq_true,aDH,a7,false_or,pY,Bool.false_eq_true] at V;rcases V with V|V
 ·obtain ⟨e,he,Z⟩:=Array.any_eq_true'.1 V
  simp only [aBH,aDH] at Z;exact absurd Z.2 (bQ e he Z.1)
 ·exact V
theorem jgV {s s':St}:∀{l:List Lk},jh2 s s' l->∀g∈l,jiD s s' g
 |[],_,g,hg=>by simp at hg
 |k::l,h,g,hg=>by
  rcases aBB.1 hg with rfl|hg
  ·exact h.1
  ·exact jgV h.2 g hg
theorem jgU {s s':St} {chk:List Nat}:∀{l:List (Nat×List Lk)},jfQ s s' chk l->∀p∈l,p.1∈chk->∀g∈p.2,jiD s s' g
 |[],_,p,hp,_=>by simp at hp
 |(q,ids)::l,h,p,hp,hc=>by
  rcases aBB.1 hp with rfl|hp
  ·have:=h.1
   rw [if_pos (by simpa using hc)] at this
   exact jgV this
  ·exact jgU h.2 p hp hc
theorem vr (aJ:is.length=ops.size):∀(f:Nat) (pures:List Nat) (listed:Array Bool) (t:T) (l:List (Nat×List Lk)) (s:St),mkT ops is f pures listed=some t->(∀p∈l,p.1∈pures)->Closed ops listed->qi P β t l s Q->jmd P β ops is Q f l listed s
 |0,pures,listed,t,l,s,h,_,_,hr=>by
  simp only [mkT] at h;split at h
  ·rename_i he
   simp at h;subst h;exact ⟨by simpa using he,hr⟩
  ·simp at h
 |f+1,pures,listed,t,l,s,h,hl,cJ,hr=>by
  simp only [mkT] at h;split at h
  ·rename_i he
   simp at h;subst h;have eQ:Region.ready .any ops listed=[]:=by simpa using he
   exact ⟨λ_=>hr,λj hj=>by rw [eQ] at hj;cases hj⟩
  ·rename_i a7
   split at h
   ·rename_i i uT
    have hX:=List.mem_of_find?_eq_some uT;have eY:=List.find?_some uT;split at h
    ·rename_i x t' gU ht
     simp at h;subst h;obtain ⟨hp,eG⟩:=jlX gU eY;simp only [qi] at hr;split at hr
     ·rename_i hw
      rw [jd2 hp] at hr;obtain ⟨rt,hg⟩:=hr;obtain ⟨av,os,V,Y⟩:=hg ⟨0,λ_ _=>undef⟩
      have h3:=λd rt st=>jn2 (d':=d) (rt':=rt) (st':=st) hp V
      obtain rfl:=(h3 0 rt ⟨0,λ_ _=>undef⟩).2
      exact jhs aJ gU f l listed s cJ eG hX (.inl ⟨hw,hp,rfl,λd rt st=>(h3 d rt st).1⟩) (vr aJ f _ _ _ _ _ ht (λp fF=>by
       rcases aBB.1 fF with rfl|fF
       ·simp
       ·simp [hl p fF]) (cJ.add hX) Y)
     ·rename_i hw
      exact jhs aJ gU f l listed s cJ eG hX (.inr ⟨hw,rfl,rfl⟩) (jmA _ _ _ _ (vr aJ f _ _ _ _ _ ht (λp fF=>by simp [hl p fF]) (cJ.add hX) hr))
     ·exact hr.elim
    ·simp at h
   ·rename_i yX
    refine ⟨λh0=>absurd (by simpa using h0) a7,?_⟩
    have key:∀(r:List Nat) (t:T),(∀j∈r,j∈Region.ready .any ops listed)->(r.foldr (λj acc=>match is[j]?,mkT ops is f pures (listed.setIfInBounds j true),acc with
     |some x,some t,some rest=>some (.alt x (pures.filter λp=>!jgf ops ops.size j p) t rest)
     |_,_,_=>none) (some .stop))=some t->qi P β t l s Q->∀j∈r,jdd P β is j (λs'=>jp2 ops j l s s'/\jmd P β ops is Q f l (listed.setIfInBounds j true) s') s:=by
     intro r
     induction r with
     |nil=>intro _ _ _ _ j hj;cases hj
     |cons k r ih=>
      intro t b9 h hr j hj;simp only [List.foldr_cons] at h;split at h
      ·rename_i x t' rest hx ht n9
       simp at h;subst h;obtain ⟨aX,bV⟩:=hr;rcases aBB.1 hj with rfl|hj
       ·have uN:=b9 j (by simp)
        unfold jdd;simp only [hx];split at aX
        ·rename_i hw
         simp only [hw];refine jba (λs' ⟨k1,k2⟩=>⟨λp hp mD g hg=>?_,vr aJ f _ _ _ _ _ ht hl (cJ.add uN) k2⟩) aX
         refine jgU k1 p hp (List.mem_filter.2 ⟨hl p hp,?_⟩) g hg;cases lR:jgf ops ops.size j p.1 with
         |false=>rfl
         |true=>exact absurd (jhy lR) mD
        ·rename_i hw
         simp only [hw];exact ⟨λp _ _ g _=>jfP,vr aJ f _ _ _ _ _ ht hl (cJ.add uN) aX⟩
        ·exact aX.elim
       ·exact ih rest (λk hk=>b9 k (by simp [hk])) n9 bV j hj
      ·simp at h
    exact key _ t (λj hj=>hj) h hr
theorem jqk {B:Nat} {w0 w:World} {s:St} {a:Act} {F:Nat->List Nat} {id:Nat} {t:T} {Q':Exit->Act->World->Prop} (h:RelF B w0 N s a w F) (hc:joi P N ops=some t) (hr:qi P β t [] s Q) (hQ:∀s a w F,RelF B w0 N s a w F->Q s->Q' .normal a w):
 (Code.region id ops true).wp P Q' a w:=by
 unfold joi at hc;split at hc
 ·rename_i hm
  split at hc
  ·rename_i is cJ
   have aJ:=(jes cJ).1;simp only [Array.length_toList] at aJ;refine wp_region_any hm (jmB cJ hQ ops.size [] _ s a _ F (h.world (w':=w.drew) (jme w)) (vr aJ _ _ _ _ _ _ hc (by simp) (λk o ho hk=>?_) hr))
   exfalso;have aC:=(Array.getElem?_eq_some_iff.1 ho).1;simp [aC] at hk
  ·simp at hc
 ·simp at hc
end
