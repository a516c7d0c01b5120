/- Parts. -/
import Derived.Test.YtekegiiikglhbaaGreatQE4g
import Derived.Test.YtekegiiikglhbaaGreatQE5
import Derived.LoopN
set_option linter.all false
namespace Go.Proofs.YtekegiiikglhbaaGreat
open Go.RowKit Go.Sort
def Ex.to:Ex->Exit
 |.normal=>.normal
 |.exit id=>.exit id
 |.ret=>.ret
section
variable {P:Program} {β B N:Nat} {w w0:World} {s:St} {a:Act} {F:Nat->List Nat}
theorem kz {c:Code} {c0:C} (h:jbu P N c=some c0):match c0 with
 |.skip=>c=.skip
 |.reg is=>∃id ops,c=.region id ops false/\jet P N ops ops.toList=some is
 |.dreg t=>∃id ops,c=.region id ops true/\joi P N ops=some t
 |.seq a b=>∃x y,c=.seq x y/\jbu P N x=some a/\jbu P N y=some b
 |.cond x a b=>∃x' y z,c=.cond x' y z/\jr x'=some x/\jbu P N y=some a/\jbu P N z=some b
 |.blk id a=>∃x,c=.block id x/\jbu P N x=some a
 |.loop a=>∃x,c=.loop x/\jbu P N x=some a
 |.exit id=>c=.exit id
 |.ret=>c=.ret
 |.gh _=>False:=by
 cases c with
 |skip=>simp [jbu] at h;subst h;rfl
 |region id ops d=>
  cases d with
  |true=>simp only [jbu,Option.map_eq_some_iff] at h;obtain ⟨t,V,rfl⟩:=h;exact ⟨_,_,rfl,V⟩
  |false=>simp only [jbu,Option.map_eq_some_iff] at h;obtain ⟨t,V,rfl⟩:=h;exact ⟨_,_,rfl,V⟩
 |seq x y=>
  simp only [jbu] at h;split at h
  ·rename_i x' y' V Y;simp at h;subst h;exact ⟨_,_,rfl,V,Y⟩
  ·simp at h
 |cond x y z=>
  simp only [jbu] at h;split at h
  ·rename_i x' y' z' V Y h3;simp at h;subst h;exact ⟨_,_,_,rfl,V,Y,h3⟩
  ·simp at h
 |block id x=>simp only [jbu,Option.map_eq_some_iff] at h;obtain ⟨t,V,rfl⟩:=h;exact ⟨_,rfl,V⟩
 |loop x=>simp only [jbu,Option.map_eq_some_iff] at h;obtain ⟨t,V,rfl⟩:=h;exact ⟨_,rfl,V⟩
 |exit id=>simp [jbu] at h;subst h;rfl
 |ret=>simp [jbu] at h;subst h;rfl
 |_=>simp [jbu] at h
theorem vV:∀{c':C} {c:Code} {s:St} {a:Act} {w:World} {F:Nat->List Nat} {Qc:Ex->St->Prop} {Q:Exit->Act->World->Prop},
 jbu P N c=some c'.er->RelF B w0 N s a w F->wpC P β c' Qc s->(∀e s a w F,RelF B w0 N s a w F->Qc e s->Q e.to a w)->c.wp P Q a w
 |.gh x,c,s,a,w,F,Qc,Q,hc,h,hw,hQ=>by
  obtain ⟨s',F',h3,Y⟩:=hw _ _ _ _ _ _ h;exact vV (c':=x) hc h3 Y hQ
 |.skip,c,s,a,w,F,Qc,Q,hc,h,hw,hQ=>by
  have e:c=.skip:=kz hc;subst e;exact wp_skip (hQ .normal _ _ _ _ h hw)
 |.dreg t,c,s,a,w,F,Qc,Q,hc,h,hw,hQ=>by
  obtain ⟨id,ops,rfl,V⟩:=kz hc;exact jqk h V hw λs a w F h hk=>hQ .normal _ _ _ _ h hk
 |.reg is,c,s,a,w,F,Qc,Q,hc,h,hw,hQ=>by
  obtain ⟨id,ops,rfl,V⟩:=kz hc;exact wp_region_list (jh0 (λs a w F h hk=>hQ .normal _ _ _ _ h hk) V h hw)
 |.seq x' y',c,s,a,w,F,Qc,Q,hc,h,hw,hQ=>by
  obtain ⟨x,y,rfl,V,Y⟩:=kz hc;refine wp_seq (vV V h hw λe s a w F h hk=>?_)
  cases e with
  |normal=>exact vV Y h hk hQ
  |exit id=>exact hQ (.exit id) _ _ _ _ h hk
  |ret=>exact hQ .ret _ _ _ _ h hk
 |.cond x' y' z',c,s,a,w,F,Qc,Q,hc,h,hw,hQ=>by
  obtain ⟨x,y,z,rfl,V,Y,h3⟩:=kz hc;obtain ⟨t,h4,h5,h6⟩:=hw;exact wp_cond_split (jdc h V h4) (λht=>vV Y h (h5 ht) hQ) (λht=>vV h3 h (h6 ht) hQ)
 |.blk id x',c,s,a,w,F,Qc,Q,hc,h,hw,hQ=>by
  obtain ⟨x,rfl,V⟩:=kz hc;refine wp_block (vV V h hw λe s a w F h hk=>?_)
  cases e with
  |normal=>exact hQ .normal _ _ _ _ h hk
  |exit id'=>
   simp only [Ex.inBlk] at hk;simp only [Ex.to,Exit.inBlock];split
   ·rename_i e;rw [if_pos e] at hk;exact hQ .normal _ _ _ _ h hk
   ·rename_i e;rw [if_neg e] at hk;exact hQ (.exit id') _ _ _ _ h hk
  |ret=>exact hQ .ret _ _ _ _ h hk
 |.loop x',c,s,a,w,F,Qc,Q,hc,h,hw,hQ=>by
  obtain ⟨x,rfl,V⟩:=kz hc;obtain ⟨ι,mk,J,μ,⟨i0,Y,h4⟩,h3⟩:=hw
  have key:∀(n:Nat) (i:ι) (a:Act) (w:World) (F:Nat->List Nat),RelF B w0 N (mk i) a w F->J i->μ i<n->Code.rounds P x Q n a w:=by
   intro n
   induction n with
   |zero=>intro _ _ _ _ _ _ aC;omega
   |succ n ih=>
    intro i a w F h hJ aC;refine vV V h (h3 i hJ) λe s' a' w' F' h' hk=>?_
    cases e with
    |normal=>
     obtain ⟨i',k1,k2,k3⟩:=hk;obtain ⟨F2,k4,_⟩:=k2 _ _ _ _ _ _ h';exact ih _ _ _ _ k4 k1 (by omega)
    |exit id=>exact hQ (.exit id) _ _ _ _ h' hk
    |ret=>exact hQ .ret _ _ _ _ h' hk
  obtain ⟨F2,h5,_⟩:=h4 _ _ _ _ _ _ h;exact wp_loop_rounds _ (key (μ i0+1) _ _ _ _ h5 Y (by omega))
 |.exit id,c,s,a,w,F,Qc,Q,hc,h,hw,hQ=>by
  have e:c=.exit id:=kz hc;subst e;exact wp_exit (hQ (.exit id) _ _ _ _ h hw)
 |.ret,c,s,a,w,F,Qc,Q,hc,h,hw,hQ=>by
  have e:c=.ret:=kz hc;subst e;exact wp_ret (hQ .ret _ _ _ _ h hw)
theorem jaT:∀{c':C} {c:Code},jbu P N c=some c'->c'.er=c'
 |.skip,_,_|.reg _,_,_|.dreg _,_,_|.exit _,_,_|.ret,_,_=>rfl
 |.seq a b,c,h=>by obtain ⟨x,y,_,V,Y⟩:=kz h;simp only [C.er,jaT V,jaT Y]
 |.cond x a b,c,h=>by obtain ⟨_,y,z,_,_,V,Y⟩:=kz h;simp only [C.er,jaT V,jaT Y]
 |.blk id a,c,h=>by obtain ⟨x,_,V⟩:=kz h;simp only [C.er,jaT V]
 |.loop a,c,h=>by obtain ⟨x,_,V⟩:=kz h;simp only [C.er,jaT V]
 |.gh a,c,h=>(kz h).elim
theorem jaS:∀(p:List Nat) (c:C),(C.ghAt p c).er=c.er
 |[],c=>by cases c<;>rfl
 |0::p,.seq a b=>by simp only [C.ghAt,C.er,jaS p a]
 |(k+1)::p,.seq a b=>by simp only [C.ghAt,C.er,jaS p b]
 |0::p,.cond x a b=>by simp only [C.ghAt,C.er,jaS p a]
 |(k+1)::p,.cond x a b=>by simp only [C.ghAt,C.er,jaS p b]
 |k::p,.blk id a=>by simp only [C.ghAt,C.er,jaS p a]
 |k::p,.loop a=>by simp only [C.ghAt,C.er,jaS p a]
 |k::_,.skip=>by cases k<;>rfl
 |k::_,.reg _=>by cases k<;>rfl
 |k::_,.dreg _=>by cases k<;>rfl
 |k::_,.exit _=>by cases k<;>rfl
 |k::_,.ret=>by cases k<;>rfl
 |k::_,.gh _=>by cases k<;>rfl
def C.ghs (ps:List (List Nat)) (c:C):C:=ps.foldr C.ghAt c
theorem jsw (ps:List (List Nat)) (c:C):(C.ghs ps c).er=c.er:=by
 induction ps with
 |nil=>rfl
 |cons p ps ih=>rw [show C.ghs (p::ps) c=C.ghAt p (C.ghs ps c) from rfl,jaS,ih]
theorem jiQ {c:Code} {c':C} (ps:List (List Nat)) (h:jbu P N c=some c'):jbu P N c=some (C.ghs ps c').er:=by rw [jsw,jaT h];exact h
theorem jiU {ds:List D} {x:Value} (h:ViewRel.CellsAt w ds x):A0Rel w.heap.size w (.rp ds) x:=by
 obtain ⟨b,o,us,S,V,Y,h3⟩:=h;refine ⟨b,o,us,S,V,Y,RepL.lt ds Y,λa7=>?_,h3⟩
 have hl:=RepL.length ds Y;cases us with
 |nil=>exact absurd (aBC (by simpa using hl.symm)) a7
 |cons u us=>
  have:=h3 0 u rfl;unfold World.cell? at this;split at this
  ·rename_i hh;exact qR hh
  all_goals simp at this
theorem jmn:∀{caps:List (List D)} {xs:List Value},ViewRel.All2 w caps xs->A0RelL w.heap.size w (caps.map .rp) xs
 |[],_,h=>h
 |_::_,_,⟨x,xs',V,Y,h3⟩=>⟨x,xs',V,jiU Y,jmn h3⟩
theorem jrt {d:D} {u:Value} {S:List Nat} (h:Rep w false d u S):A0Rel w.heap.size w d.toRo u:=by
 cases d with
 |val x=>exact h.1
 |sl size ty cs=>exact ⟨rfl,S,h,Rep.lt _ h⟩
theorem joE:∀{ds:List D} {us:List Value} {S:List Nat},RepL w false ds us S->A0RelL w.heap.size w (ds.map D.toRo) us
 |[],_,_,⟨h,_⟩=>h
 |_::_,_,_,⟨u,us',S1,S2,V,_,h3,h4⟩=>⟨u,us',V,jrt h3,joE h4⟩
theorem joV:∀{v:View} {x:Value},ViewRel w v x->VRel w.heap.size w v.av x
 |.c d,x,⟨S,h⟩=>jrt h
 |.agg ds,x,⟨S,us,V,Y⟩=>⟨us,V,joE Y⟩
 |.ptr ds,x,h=>jiU h
 |.fn f caps,x,⟨xs,V,Y⟩=>⟨xs,V,jmn Y⟩
theorem jgg:∀{vs:List View} {xs:List Value},qw w vs xs->xs.length=vs.length/\∀(n:Nat) (v:View) (x:Value),vs[n]?=some v->xs[n]?=some x->ViewRel w v x
 |[],_,h=>by rw [show _=_ from h];simp
 |v::vs,_,⟨x,xs',V,Y,h3⟩=>by
  subst V;obtain ⟨h4,h5⟩:=jgg h3;refine ⟨by simp [h4],λn v' x' hv hx=>?_⟩
  cases n with
  |zero=>simp at hv hx;subst hv hx;exact Y
  |succ n=>exact h5 n v' x' (by simpa using hv) (by simpa using hx)
theorem jkJ {vs:List View} {xs:List Value} (hv:qw w vs xs) (hN:vs.length<=N):
 RelF w.heap.size w N (St.init vs) {tmps:=xs.toArray++Array.replicate (N-xs.toArray.size) undef,defers:=[]} w (λ_=>[]):=by
 obtain ⟨hl,hg⟩:=jgg hv;refine ⟨Below.refl _ _,aAV _,rfl,by simp;omega,λn=>?_,λ_=>rfl,λ_=>Fresh.nil _,λ_ _ _ _ h=>by simp at h⟩
 simp only [St.init];cases fR:vs[n]? with
 |none=>simp [fR,VRel]
 |some v=>
  have aC:n<vs.length:=(aAR.1 fR).1;have oS:n<xs.length:=by omega
  have nM:xs[n]?=some xs[n]:=aAT oS;have:=joV (hg n v _ fR nM)
  have e:(xs.toArray++Array.replicate (N-xs.toArray.size) undef).getD n undef=xs[n]:=by
   simp [Array.getD_eq_getD_getElem?,Array.getElem?_append,oS]
  simp only [List.getElem?_map,fR,Option.map_some,aCF];rw [e];exact this
theorem jfR:∀{cs:List Cell} {us:List Value} {S:List Nat} {ds:List D},CRel B w cs us S->IsD cs ds->RepL w true ds us S
 |[],us,S,ds,h,hd=>by rw [show ds=[] from hd];exact h
 |.a x::cs,us,S,ds,⟨u,us',V,Y,h3⟩,hd=>by
  cases x with
  |v x=>
   cases ds with
   |nil=>exact hd.elim
   |cons d ds=>
    obtain ⟨h4,h5⟩:=hd;subst V;have h6:=jfR h3 h5;rw [show u=x from Y]
    rcases h4 with rfl|⟨rfl,size,ty,rfl⟩
    ·exact RepL.val_ h6
    ·exact RepL.cons_ (S1:=[]) (Rep.nil_ w size ty) h6
  |_=>cases ds<;>exact hd.elim
 |.own d η::cs,us,S,ds,⟨u,us',S1,S2,V,Y,_,h4,_,h6⟩,hd=>by
  cases ds with
  |nil=>exact hd.elim
  |cons d' ds=>
   obtain ⟨rfl,h5⟩:=hd;subst V Y;exact RepL.cons_ h4 (jfR h6 h5)
def jkg:List (Bool×List A0)->List Value->List Value->Prop
 |[],vals,us=>vals=[]/\us=[]
 |(b,az)::ps,vals,us=>∃v vals' xs us',vals=v::vals'/\us=xs++us'/\xs.length=az.length/\(if b then v=.agg xs.toArray else xs=[v])/\jkg ps vals' us'
def jfj (tmps:Array Value):ResultVar->Sem Value
 |.tmp t=>pure (tmps.getD t undef)
 |.cell x t=>do loadVar t (<-asAddr (tmps.getD x undef))
theorem jfg (fn:Func) (tmps:Array Value):results fn tmps=(do let vs<-fn.results.mapM (jfj tmps);pure (if h:vs.size=1 then vs[0] else .tuple vs)):=by
 unfold results
 congr 1
theorem A0RelL.app:∀{l m:List A0} {us vs:List Value},A0RelL B w l us->A0RelL B w m vs->A0RelL B w (l++m) (us++vs)
 |[],_,_,_,V,Y=>by rw [show _=_ from V];exact Y
 |_::_,_,_,_,⟨u,us',V,Y,h3⟩,h4=>by subst V;exact ⟨u,_,rfl,Y,h3.app h4⟩
theorem jd4 (h:RelF B w0 N s a w F):∀{rs:List ResultVar} {rs':List R} {K:List (Bool×List A0)->Prop},je3 P N rs=some rs'->jlk s rs' K->
 ∃ps vals us,K ps/\A0RelL B w (ps.flatMap (·.2)) us/\jkg ps vals us/\(rs.mapM (jfj a.tmps)).run P w=.ok vals w
 |[],rs',K,hc,hk=>by
  simp [je3] at hc;subst hc;exact ⟨[],[],[],hk,rfl,⟨rfl,rfl⟩,by simp⟩
 |.tmp n::rs,rs',K,hc,hk=>by
  simp only [je3] at hc;split at hc
  ·simp only [Option.map_eq_some_iff] at hc
   obtain ⟨r,V,rfl⟩:=hc;simp only [jlk] at hk;have hv:=h.sl n;split at hk
   ·rename_i l he
    rw [he] at hv;obtain ⟨xs,k1,k2⟩:=hv;obtain ⟨ps,vals,us,k3,k4,k5,k6⟩:=jd4 h V hk;refine ⟨_,.agg xs.toArray::vals,xs++us,k3,A0RelL.app k2 k4,⟨_,_,xs,us,rfl,rfl,k2.len,by simp,k5⟩,?_⟩
    simp [List.mapM_cons,jfj,k1,k6]
   ·rename_i a0 he
    rw [he] at hv;obtain ⟨ps,vals,us,k3,k4,k5,k6⟩:=jd4 h V hk;refine ⟨_,a.tmps.getD n undef::vals,_::us,k3,⟨_,us,rfl,hv,k4⟩,⟨_,_,[_],us,rfl,rfl,rfl,by simp,k5⟩,?_⟩
    simp [List.mapM_cons,jfj,k6]
   ·exact hk.elim
  ·simp at hc
 |.cell n t::rs,rs',K,hc,hk=>by
  simp only [je3] at hc
  have key:∀{dsc:TypeDesc} {agg:Bool} {k:Nat} {r:List R},P.underlying t=some dsc->agg=jqL dsc->jZ P t=some k->je3 P N rs=some r->jlk s (.cell n agg k::r) K->
   ∃ps vals us,K ps/\A0RelL B w (ps.flatMap (·.2)) us/\jkg ps vals us/\((ResultVar.cell n t::rs).mapM (jfj a.tmps)).run P w=.ok vals w:=by
   intro dsc agg k r ht dW hn hr hk;obtain ⟨l,V,Y,h3⟩:=hk;obtain ⟨b,o,xs,e1,e2,e3,e4,e5⟩:=jiC h (h.sl n) V;obtain ⟨ps,vals,us,k3,k4,k5,k6⟩:=jd4 h hr h3
   obtain ⟨v,hv⟩:∃v,if agg then v=.agg xs.toArray else xs=[v]:=by
    cases agg with
    |true=>exact ⟨_,rfl⟩
    |false=>
     have h4:l.length=1:=by simpa using Y
     have:xs.length=1:=by omega
     obtain ⟨v,rfl⟩:=List.length_eq_one_iff.1 this;exact ⟨v,by simp⟩
   have a8:=jfO (P:=P) ht dW hn e2 e4 hv;refine ⟨_,v::vals,xs++us,k3,A0RelL.app e5 k4,⟨_,_,xs,us,rfl,rfl,by omega,hv,k5⟩,?_⟩
   simp [List.mapM_cons,jfj,e1,asAddr,a8,k6]
  split at hc
  ·split at hc
   ·rename_i fs k r V Y h3
    simp at hc;subst hc;exact key V rfl Y h3 hk
   ·simp at hc
   ·rename_i dsc k r dB gA V Y h3
    simp at hc;subst hc;refine key V ?_ Y h3 hk;cases dsc<;>simp_all [jqL]
   ·simp at hc
  ·simp at hc
theorem jgl:∀{l:List (Bool×List D)} {ps:List (Bool×List A0)} {vals us:List Value} {S:List Nat},jkg ps vals us->ps.map (λp=>(p.1,p.2.length))=l.map (λp=>(p.1,p.2.length))->RepL w true (l.flatMap (·.2)) us S->ji1 w l vals S
 |[],ps,vals,us,S,h,he,hr=>by
  cases ps with
  |nil=>obtain ⟨rfl,rfl⟩:=h;exact ⟨rfl,hr.2⟩
  |cons p ps=>simp at he
 |(b,ds)::l,ps,vals,us,S,h,he,hr=>by
  cases ps with
  |nil=>simp at he
  |cons p ps=>
   obtain ⟨b',az⟩:=p;simp at he;obtain ⟨⟨rfl,e1⟩,e2⟩:=he;obtain ⟨v,vals',xs,us',rfl,rfl,h3,h4,h5⟩:=h;simp only [aBI] at hr;obtain ⟨v1,v2,S1,S2,e3,rfl,h6,h7⟩:=RepL.append_inv _ hr;have hl:=RepL.length _ h6;obtain ⟨rfl,rfl⟩:=List.append_inj e3 (by omega)
   exact ⟨v,vals',xs,S1,S2,rfl,rfl,h6,h4,jgl h5 e2 h7⟩
theorem jl7 (h:RelF B w0 N s a w F) {fn:Func} {rs:List R} {rt:RT} (hc:je3 P N fn.results.toList=some rs) (hq:joQ rs rt s):
 ∃v S,(results fn a.tmps).run P w=.ok v w/\jhu w rt v S/\Fresh B S:=by
 obtain ⟨ps,vals,us,⟨V,Y⟩,h3,h4,h5⟩:=jd4 h hc hq;obtain ⟨cs,s',S,F',k1,k2,k3,k4,_⟩:=vM h h3 Y;have hr:=jfR k2 k1
 have a8:(results fn a.tmps).run P w=.ok (if hs:vals.toArray.size=1 then vals.toArray[0] else .tuple vals.toArray) w:=by
  rw [jfg,Array.mapM_eq_mapM_toList];simp [h5]
 cases rt with
 |c d=>
  obtain ⟨a0,rfl⟩:=V;obtain ⟨v,vals',xs,us',rfl,rfl,e1,e2,⟨rfl,rfl⟩⟩:=h4;simp at e2;subst e2;obtain ⟨u,us'',S1,S2,e3,rfl,e5,⟨rfl,rfl⟩⟩:=hr;simp at e3;subst e3;exact ⟨v,S1++[],by simpa using a8,(by simpa using e5:Rep w true d v (S1++[])),k4⟩
 |agg ds=>
  obtain ⟨l,rfl⟩:=V;obtain ⟨v,vals',xs,us',rfl,rfl,e1,e2,⟨rfl,rfl⟩⟩:=h4;simp at e2;subst e2;exact ⟨_,S,by simpa using a8,⟨xs,rfl,by simpa [RT.flat] using hr⟩,k4⟩
 |tup l=>
  obtain ⟨a7,V⟩:=V
  have aJ:vals.length=ps.length:=by
   have:∀{ps:List (Bool×List A0)} {vals us:List Value},jkg ps vals us->vals.length=ps.length:=by
    intro ps
    induction ps with
    |nil=>intro vals us h;rw [h.1];rfl
    |cons p ps ih=>obtain ⟨b,az⟩:=p;rintro vals us ⟨v,vals',xs,us',rfl,_,_,_,h⟩;simp [ih h]
   exact this h4
  refine ⟨_,S,a8,⟨vals,?_,jgl h4 V hr⟩,k4⟩;rw [dif_neg (by simpa [aJ] using a7)]
theorem jpD {f:FuncId} {fn:Func} {c:Code} {c':C} {vs:List View} {rs:List R} {rt:RT} (hf:P.funcs[f]?=some fn) (Z:fn.body=some c) (hn:(fn.name != "runtime.NumGoroutine")=true)
 (hc:jbu P fn.ntmps c=some c'.er) (hr:je3 P fn.ntmps fn.results.toList=some rs) (hN:vs.length<=fn.ntmps) (hw:wpC P 0 c' (jrx rs rt) (St.init vs)):jR P f vs rt:=by
 refine ⟨⟨fn,hf,by rw [Z];rfl,hn⟩,λw xs hv=>calls_of_wp hf Z (vV hc (jkJ hv hN) hw λe s a w' F h hk=>?_)⟩
 cases e with
 |exit id=>exact hk.elim
 |normal=>
  obtain ⟨v,S,k1,k2,k3⟩:=jl7 h hr hk;exact ⟨h.df,v,k1,v,S,rfl,k2,k3,h.below⟩
 |ret=>
  obtain ⟨v,S,k1,k2,k3⟩:=jl7 h hr hk;exact ⟨h.df,v,k1,v,S,rfl,k2,k3,h.below⟩
theorem jhJ (ps:List (List Nat)) {f:FuncId} {fn:Func} {c:C} {vs:List View} {rs:List R} {rt:RT} (hf:P.funcs[f]?=some fn) (hc:fnC P fn=some (c,rs,N)) (hN:vs.length<=N) (hw:wpC P 0 (C.ghs ps c) (jrx rs rt) (St.init vs)):jR P f vs rt:=by
 unfold fnC at hc;split at hc
 ·rename_i b Z
  split at hc
  ·rename_i hn
   split at hc
   ·rename_i c' rs' V Y
    simp only [Option.some.injEq,Prod.mk.injEq] at hc;obtain ⟨rfl,rfl,rfl⟩:=hc;exact jpD hf Z hn (jiQ ps V) Y hN hw
   ·simp at hc
  ·simp at hc
 ·simp at hc
theorem jpE {f:FuncId} {fn:Func} {c:C} {vs:List View} {rs:List R} {rt:RT} (hf:P.funcs[f]?=some fn) (hc:fnC P fn=some (c,rs,N)) (hN:vs.length<=N) (hw:wpC P 0 c (jrx rs rt) (St.init vs)):jR P f vs rt:=jhJ [] hf hc hN hw
theorem jin:∀{args:List AV} {xs:List Value},jgc B w args xs->xs.length=args.length/\∀(n:Nat) (v:AV) (x:Value),args[n]?=some v->xs[n]?=some x->VRel B w v x
 |[],_,h=>by rw [show _=_ from h];simp
 |v::vs,_,⟨x,xs',V,Y,h3⟩=>by
  subst V;obtain ⟨h4,h5⟩:=jin h3;refine ⟨by simp [h4],λn v' x' hv hx=>?_⟩
  cases n with
  |zero=>simp at hv hx;subst hv hx;exact Y
  |succ n=>exact h5 n v' x' (by simpa using hv) (by simpa using hx)
theorem ji8 {args:List AV} {xs:List Value} {o:Nat->Ob} (h:RelF B w 0 (.only o) Act.bare w F) (hv:jgc B w args xs) (hN:args.length<=N):
 RelF B w N (St.start args o) {tmps:=xs.toArray++Array.replicate (N-xs.toArray.size) undef,defers:=[]} w F:=by
 obtain ⟨hl,hg⟩:=jin hv;refine ⟨Below.refl _ _,h.hB,rfl,by simp;omega,λn=>?_,h.ob,h.fr,h.dj⟩
 simp only [St.start];cases fR:args[n]? with
 |none=>simp [fR,VRel]
 |some v=>
  have aC:n<args.length:=(aAR.1 fR).1;have oS:n<xs.length:=by omega
  have nM:xs[n]?=some xs[n]:=aAT oS;have:=hg n v _ fR nM
  have e:(xs.toArray++Array.replicate (N-xs.toArray.size) undef).getD n undef=xs[n]:=by
   simp [Array.getD_eq_getD_getElem?,Array.getElem?_append,oS]
  simp only [aCF];rw [e];exact this
theorem joC:∀{ps:List (Bool×List A0)} {vals us:List Value},jkg ps vals us->A0RelL B w (ps.flatMap (·.2)) us->TRelL B w ps vals
 |[],vals,us,⟨V,_⟩,_=>V
 |(b,az)::ps,vals,us,⟨v,vals',xs,us',V,Y,h3,h4,h5⟩,hr=>by
  subst V Y;simp only [aBI] at hr
  have key:∀{l m:List A0} {xs ys:List Value},xs.length=l.length->A0RelL B w (l++m) (xs++ys)->A0RelL B w l xs/\A0RelL B w m ys:=by
   intro l
   induction l with
   |nil=>intro m xs ys hl h;obtain rfl:xs=[]:=aBC hl;exact ⟨rfl,h⟩
   |cons x l ih=>
    intro m xs ys hl h;cases xs with
    |nil=>simp at hl
    |cons y xs=>
     obtain ⟨u,us',e1,e2,e3⟩:=h;simp only [aDD,List.cons.injEq] at e1;obtain ⟨rfl,rfl⟩:=e1;obtain ⟨k1,k2⟩:=ih (by simpa using hl) e3
     exact ⟨⟨y,xs,rfl,e2,k1⟩,k2⟩
  obtain ⟨k1,k2⟩:=key h3 hr;exact ⟨v,vals',xs,rfl,k1,h4,joC h5 k2⟩
theorem jiE (ps:List (List Nat)) {f:FuncId} {fn:Func} {c:C} {args:List AV} {o:Nat->Ob} {rs:List R} {R:AV->(Nat->Ob)->Prop} (hf:P.funcs[f]?=some fn) (hc:fnC P fn=some (c,rs,N)) (hN:args.length<=N) (hw:wpC P β (C.ghs ps c) (jsS rs R) (St.start args o)):Inl P f args o R:=by
 unfold fnC at hc;split at hc
 ·rename_i b Z
  split at hc
  ·rename_i hn
   split at hc
   ·rename_i c' rs' V Y
    simp only [Option.some.injEq,Prod.mk.injEq] at hc;obtain ⟨rfl,rfl,rfl⟩:=hc
    have fin:∀{s:St} {a:Act} {w w':World} {F':Nat->List Nat} {B:Nat},RelF B w fn.ntmps s a w' F'->jqE rs' R s->∃v,(results fn a.tmps).run P w'=.ok v w'/\∃av o',∃F2:Nat->List Nat,RelF B w 0 (.only o') Act.bare w' F2/\VRel B w' av v/\R av o':=λ{s a w w' F' B} h hk=>by
     obtain ⟨ps,vals,us,k1,k2,k3,k4⟩:=jd4 h Y hk
     have a8:(results fn a.tmps).run P w'=.ok (if hs:vals.toArray.size=1 then vals.toArray[0] else .tuple vals.toArray) w':=by
      rw [jfg,Array.mapM_eq_mapM_toList];simp [k4]
     have bL:RelF B w 0 (.only s.o) Act.bare w' F':=⟨h.below,h.hB,rfl,rfl,λ_=>trivial,h.ob,h.fr,h.dj⟩
     have fE:=joC k3 k2
     match ps,k1,fE with
     |[],k1,fE=>
      obtain rfl:vals=[]:=fE;exact ⟨_,a8,.tup [],s.o,F',bL,⟨[],by simp,rfl⟩,k1⟩
     |[(true,l)],k1,⟨v,vals',xs,e1,e2,e3,e4⟩=>
      obtain rfl:vals'=[]:=e4;subst e1;exact ⟨v,by simpa using a8,.agg l,s.o,F',bL,⟨xs,by simpa using e3,e2⟩,k1⟩
     |[(false,[a0])],k1,⟨v,vals',xs,e1,e2,e3,e4⟩=>
      obtain rfl:vals'=[]:=e4;subst e1;obtain rfl:xs=[v]:=by simpa using e3
      obtain ⟨u,us',e5,e6,_⟩:=e2;cases e5;exact ⟨v,by simpa using a8,.c a0,s.o,F',bL,e6,k1⟩
     |p::q::r,k1,fE=>
      have hl:vals.length≠1:=by
       obtain ⟨_,vals',_,e1,_,_,e4⟩:=fE;obtain ⟨_,vals'',_,e5,_,_,_⟩:=e4;subst e1 e5;simp
      have k1':R (.tup (p::q::r)) s.o:=by
       obtain ⟨b,l⟩:=p;cases b
       ·cases l with
        |nil=>exact k1
        |cons x l=>cases l<;>exact k1
       ·exact k1
      exact ⟨_,by rw [a8,dif_neg (by simpa using hl)],.tup (p::q::r),s.o,F',bL,⟨vals,rfl,fE⟩,k1'⟩
    refine ⟨⟨fn,hf,by rw [Z];rfl,hn⟩,λB w F xs hF hv=>calls_of_wp hf Z (vV (jiQ ps V) (ji8 hF hv hN) hw λe s a w' F' h hk=>?_)⟩
    cases e with
    |exit id=>exact hk.elim
    |normal=>
     obtain ⟨v,k1,av,o',F2,k2,k3,k4⟩:=fin h hk;exact ⟨h.df,v,k1,v,av,o',F2,rfl,k2,k3,k4⟩
    |ret=>
     obtain ⟨v,k1,av,o',F2,k2,k3,k4⟩:=fin h hk;exact ⟨h.df,v,k1,v,av,o',F2,rfl,k2,k3,k4⟩
   ·simp at hc
  ·simp at hc
 ·simp at hc
theorem jiF {f:FuncId} {fn:Func} {c:C} {args:List AV} {o:Nat->Ob} {rs:List R} {R:AV->(Nat->Ob)->Prop} (hf:P.funcs[f]?=some fn) (hc:fnC P fn=some (c,rs,N)) (hN:args.length<=N) (hw:wpC P β c (jsS rs R) (St.start args o)):Inl P f args o R:=jiE [] hf hc hN hw
end
section
variable {P:Program} {β:Nat} {s:St} {d:Option Nat} {g:Option (Nat×Bool)} {K:St->Prop} {Q:Ex->St->Prop}
def jiz (o:Option (D×jl)) (k:D->jl->Prop):Prop:=match o with
 |some (d,η)=>k d η
 |none=>False
def jnZ (o:Option D) (k:D->Prop):Prop:=match o with
 |some d=>k d
 |none=>False
theorem ownK_ (d:D) (η:jl) (k:D->jl->Prop):jiz (some (d,η)) k=k d η:=(rfl)
theorem getK_ (d:D) (k:D->Prop):jnZ (some d) k=k d:=(rfl)
theorem jbh (o:Option (D×jl)) (k:D->jl->Prop):(∃d η,o=some (d,η)/\k d η)=jiz o k:=by
 cases o with
 |none=>simp [jiz]
 |some p=>
  obtain ⟨d,η⟩:=p
  apply propext
  constructor
  ·rintro ⟨_,_,h,Y⟩;cases h;exact Y
  ·intro h;exact ⟨d,η,rfl,h⟩
theorem jh8 (d:D):D.get [] d=some d:=by cases d<;>rfl
theorem jp3 (k c:Nat) (p:List Nat) (x:Value) (R:D->Prop):(∃d,Is s (.h k c p x) d/\R d)=jiz ((s.o k).own c) λd0 η=>η p=x/\jnZ (D.get p d0) λd=>d.isSl=true/\R d:=by
 apply propext
 rw [<-jbh];constructor
 ·rintro ⟨d,⟨d0,η,V,Y,h3,h4⟩,h5⟩;exact ⟨d0,η,V,Y,by rw [h3];exact ⟨h4,h5⟩⟩
 ·rintro ⟨d0,η,V,Y,h3⟩
  cases h:D.get p d0 with
  |none=>rw [h] at h3;exact h3.elim
  |some d=>rw [h] at h3;exact ⟨d,⟨d0,η,V,Y,h,h3.1⟩,h3.2⟩
theorem jlF (d:D) (η:jl):(Ob.loose d η).own 0=some (d,η):=(rfl)
def jpI:Option Cell->Option (D×jl)
 |some (.own d η)=>some (d,η)
 |_=>none
theorem jhQ (b ty:Nat) (cs:List Cell) (c:Nat):(Ob.box b ty cs).own c=jpI cs[c]?:=by
 simp only [Ob.own,jpI];split<;>simp_all
theorem ownC_ (d:D) (η:jl):jpI (some (.own d η))=some (d,η):=(rfl)
theorem rm_o (k c n:Nat):(s.rm k c).o n=if n=k then (s.o k).rm c else s.o n:=(rfl)
theorem rm_t (k c n:Nat):(s.rm k c).t n=s.t n:=(rfl)
theorem jjz (d:D) (η:jl):(Ob.loose d η).rm 0=.none:=(rfl)
theorem jnK (b ty:Nat) (cs:List Cell) (c:Nat):(Ob.box b ty cs).rm c=.box b ty (rmC cs c cs[c]?):=(rfl)
theorem jpr (cs:List Cell) (c:Nat) (d:D) (η:jl):rmC cs c (some (.own d η))=cs.set c (.a (.v (η []))):=(rfl)
theorem jnU (k c:Nat) (p:List Nat) (x:Value):jqI d s K false (.c (.h k c p x))=jiz ((s.o k).own c) λd0 η=>η p=x/\jnZ (D.get p d0) λdd=>dd.isSl=true/\0<dd.size/\K (s.put d (.c (.v (.int .i64 dd.len)))):=by
 rw [jsb,jp3]
theorem jp9 (size k c:Nat) (p:List Nat) (hx:Value) (kk:IntKind) (n:Int):iaK d s K size (.c (.h k c p hx)) (.c (.v (.int kk n)))=((0<=n/\jiz ((s.o k).own c) λd0 η=>η p=hx/\jnZ (D.get p d0) λdd=>dd.isSl=true/\dd.size=size/\n.toNat<dd.len)/\K (s.put d (.c (.ep k c p (n.toNat*size) hx)))):=by
 rw [iaK_h,jp3]
theorem jpZ (agg:Bool) (n k c:Nat) (p:List Nat) (i:Nat) (x:Value):ldK d s K agg n (.c (.ep k c p i x))=jiz ((s.o k).own c) λd0 η=>η p=x/\jnZ (D.get p d0) λdd=>dd.isSl=true/\i+n<=dd.cells.length/\ldV agg (jcq k c p η i ((dd.cells.drop i).take n)) λv=>K (s.put d v):=by
 apply propext
 rw [<-jbh];simp only [ldK];constructor
 ·rintro ⟨d0,η,dd,V,Y,h3,h4⟩;exact ⟨d0,η,V,Y,by rw [h3];exact h4⟩
 ·rintro ⟨d0,η,V,Y,h3⟩
  cases h:D.get p d0 with
  |none=>rw [h] at h3;exact h3.elim
  |some dd=>rw [h] at h3;exact ⟨d0,η,dd,V,Y,h,h3⟩
theorem jmT (k c:Nat) (x:Value) (l:List A0) (R:List Cell->St->Prop):jY s (.h k c [] x::l) R=jiz ((s.o k).own c) λd η=>η []=x/\jY (s.rm k c) l (λcs s'=>R (.own d η::cs) s'):=by
 rw [jqU,jbh]
def vX (a:AV) (n:Nat) (k:List A0->Prop):Prop:=∃l,a.cells=some l/\l.length=n/\k l
theorem jmk (l:List A0) (n:Nat) (k:List A0->Prop):vX (.agg l) n k=(l.length=n/\k l):=by simp [vX,AV.cells]
theorem jqp (a:A0) (n:Nat) (k:List A0->Prop):vX (.c a) n k=(a.c1=true/\1=n/\k [a]):=by
 simp only [vX,AV.cells];cases h:a.c1<;>simp
def joL (s:St):List (Nat×Nat×X)->(List A0->Prop)->Prop
 |[],k=>k []
 |(_,size,x)::ps,k=>vX (s.ev x) size λl=>joL s ps λr=>k (l++r)
theorem jmm:∀(ps:List (Nat×Nat×X)) (k:List A0->Prop),(∃l,jka s ps=some l/\k l)=joL s ps k
 |[],k=>by simp [jka,joL]
 |(o,size,x)::ps,k=>by
  apply propext
  simp only [joL,vX,jka];constructor
  ·rintro ⟨l,V,Y⟩
   split at V
   ·rename_i l1 r h3 h4
    split at V
    ·rename_i h5
     simp at V;subst V;refine ⟨l1,h3,h5,?_⟩;rw [<-jmm ps];exact ⟨r,h4,Y⟩
    ·simp at V
   ·simp at V
  ·rintro ⟨l1,h3,h5,h6⟩
   rw [<-jmm ps] at h6;obtain ⟨r,h7,h8⟩:=h6;exact ⟨l1++r,by rw [h3,h7];simp [h5],h8⟩
theorem jqq (k:List A0->Prop):joL s [] k=k []:=(rfl)
theorem jok (o size:Nat) (x:X) (ps:List (Nat×Nat×X)) (k:List A0->Prop):joL s ((o,size,x)::ps) k=vX (s.ev x) size λl=>joL s ps λr=>k (l++r):=(rfl)
def jg9 (s:St):List A0->List (Nat×Nat×X)->(List A0->Prop)->Prop
 |cs,[],k=>k cs
 |cs,(off,size,x)::ps,k=>vX (s.ev x) size λl=>off+size<=cs.length/\jg9 s (kg cs off l) ps k
theorem jic:∀(ps:List (Nat×Nat×X)) (cs:List A0) (k:List A0->Prop),(∃l,jdb s cs ps=some l/\k l)=jg9 s cs ps k
 |[],cs,k=>by simp [jdb,jg9]
 |(o,size,x)::ps,cs,k=>by
  apply propext
  simp only [jg9,vX,jdb];constructor
  ·rintro ⟨l,V,Y⟩
   split at V
   ·rename_i l1 h3
    split at V
    ·rename_i h5
     exact ⟨l1,h3,h5.1,h5.2,by rw [<-jic ps];exact ⟨l,V,Y⟩⟩
    ·simp at V
   ·simp at V
  ·rintro ⟨l1,h3,h5,h6,h7⟩
   rw [<-jic ps] at h7;obtain ⟨r,h8,h9⟩:=h7;exact ⟨r,by rw [h3];simp [h5,h6,h8],h9⟩
theorem jn6 (cs:List A0) (k:List A0->Prop):jg9 s cs [] k=k cs:=(rfl)
theorem jl2 (cs:List A0) (off size:Nat) (x:X) (ps:List (Nat×Nat×X)) (k:List A0->Prop):jg9 s cs ((off,size,x)::ps) k=vX (s.ev x) size λl=>off+size<=cs.length/\jg9 s (kg cs off l) ps k:=(rfl)
theorem jpj (zs:List Value) (ps:List (Nat×Nat×X)):kK P β ⟨d,g,.bld zs ps⟩ s K=jg9 s (zs.map .v) ps λl=>K (s.put d (.agg l)):=by
 have e:=jfX (P:=P) (β:=β) (s:=s) (d:=d) (g:=g) (K:=K) (i:=.bld zs ps) (G:=λav=>∃l,jdb s (zs.map .v) ps=some l/\av=.agg l) rfl (by
  intro _ _ av os;simp only [Gen];constructor
  ·rintro ⟨l,V,Y,h3⟩;exact ⟨⟨l,V,Y⟩,h3⟩
  ·rintro ⟨⟨l,V,Y⟩,h3⟩;exact ⟨l,V,Y,h3⟩)
 rw [e,<-jic]
 apply propext
 constructor
 ·rintro ⟨_,⟨l,V,rfl⟩,Y⟩;exact ⟨l,V,Y⟩
 ·rintro ⟨l,V,Y⟩;exact ⟨_,⟨l,V,rfl⟩,Y⟩
def jkj (ks:List (Option (Nat×Nat))) (cs:List Cell) (k:List D->Prop):Prop:=∃ds,qG ks cs=some ds/\k ds
theorem jqn (ks:List (Option (Nat×Nat))) (k:List D->Prop):jkj ks [] k=k []:=by simp [jkj,qG]
theorem dat_v (ks:List (Option (Nat×Nat))) (x:Value) (l:List Cell) (k:List D->Prop):jkj ks (.a (.v x)::l) k=jkj ks.tail l λr=>k (jqH (ks.head?.getD none) x::r):=by
 simp only [jkj,qG];cases qG ks.tail l<;>simp
theorem jqm (ks:List (Option (Nat×Nat))) (dd:D) (η:jl) (l:List Cell) (k:List D->Prop):jkj ks (.own dd η::l) k=jkj ks.tail l λr=>k (dd::r):=by
 simp only [jkj,qG];cases qG ks.tail l<;>simp
theorem jr4 (x:Value):jqH none x=.val x:=(rfl)
theorem jph (e size n:Nat) (ks:List (Option (Nat×Nat))) (ps:List (Nat×Nat×X)):kK P β ⟨d,g,.bsl e size n ks ps⟩ s K=joL s ps λl=>jY s l λcs s'=>jkj ks cs λds=>∀η,K ((s'.addO [(100*(β+d.getD 0),.loose (.sl size e ds) η)]).put d (.c (.h (100*(β+d.getD 0)) 0 [] (η [])))):=by
 rw [<-jmm];rfl
theorem jk9 (ty:Nat) (zs:List Value):kK P β ⟨d,g,.alloc ty zs⟩ s K=∀b,K ((s.addO [(100*(β+d.getD 0),.box b ty (zs.map λz=>.a (.v z)))]).put d (.c (.bp (100*(β+d.getD 0)) 0 b))):=by
 apply propext
 constructor
 ·rintro ⟨_,h⟩ b
  obtain ⟨_,_,⟨rfl,rfl⟩,Y⟩:=h ⟨b,λ_ _=>undef⟩
  exact Y
 ·intro h
  exact ⟨.c (.val undef),λst=>⟨_,_,⟨rfl,rfl⟩,h st.blk⟩⟩
def obK (o:Ob) (b:Nat) (k:Nat->List Cell->Prop):Prop:=match o with
 |.box b' ty ds=>b'=b/\k ty ds
 |_=>False
theorem obK_ (b b' ty:Nat) (ds:List Cell) (k:Nat->List Cell->Prop):obK (.box b' ty ds) b k=(b'=b/\k ty ds):=(rfl)
theorem jr2 (o:Ob) (b:Nat) (k:Nat->List Cell->Prop):(∃ty ds,o=.box b ty ds/\k ty ds)=obK o b k:=by
 cases o with
 |box b' ty ds=>
  simp only [obK]
  apply propext
  constructor
  ·rintro ⟨_,_,h,Y⟩;cases h;exact ⟨by trivial,Y⟩
  ·rintro ⟨rfl,Y⟩;exact ⟨_,_,rfl,Y⟩
 |_=>simp [obK]
def stA (s':St) (K:St->Prop) (n:Nat) (ks:List (Option (Nat×Nat))) (cs:List Cell):AV->Prop
 |.c (.bp g c b)=>obK (s'.o g) b λty ds=>c+n<=ds.length/\K (s'.setO g (.box b ty (kg ds c cs)))
 |.c (.ep g c p k hx)=>0<n/\jkj ks cs λds=>jiz ((s'.o g).own c) λd0 η=>η p=hx/\jnZ (D.get p d0) λdd=>dd.isSl=true/\k+n<=dd.cells.length/\
  stH (jT ds&&jT ((dd.cells.drop k).take n)) p k n η λaW=>K (s'.setO g ((s'.o g).putOwn c (D.put p k ds d0) aW))
 |_=>False
theorem jqW (s':St) (n k c b:Nat) (ks:List (Option (Nat×Nat))) (cs:List Cell):stA s' K n ks cs (.c (.bp k c b))=obK (s'.o k) b λty ds=>c+n<=ds.length/\K (s'.setO k (.box b ty (kg ds c cs))):=(rfl)
theorem jqV (s':St) (n k c i:Nat) (p:List Nat) (hx:Value) (ks:List (Option (Nat×Nat))) (cs:List Cell):stA s' K n ks cs (.c (.ep k c p i hx))=(0<n/\jkj ks cs λds=>jiz ((s'.o k).own c) λd0 η=>η p=hx/\jnZ (D.get p d0) λdd=>dd.isSl=true/\i+n<=dd.cells.length/\
 stH (jT ds&&jT ((dd.cells.drop i).take n)) p i n η λaW=>K (s'.setO k ((s'.o k).putOwn c (D.put p i ds d0) aW))):=rfl
theorem jrf (n:Nat) (ks:List (Option (Nat×Nat))) (a x:X):kK P β ⟨none,g,.st n ks a x⟩ s K=vX (s.ev x) n λl=>jY s l λcs s'=>stA s' K n ks cs (s.ev a):=by
 have e:kK P β ⟨none,g,.st n ks a x⟩ s K=((none:Option Nat)=none/\∃l,(s.ev x).cells=some l/\l.length=n/\jY s l λcs s'=>match s.ev a with
  |.c (.bp g c b)=>∃ty ds,s'.o g=.box b ty ds/\c+n<=ds.length/\K (s'.setO g (.box b ty (kg ds c cs)))
  |.c (.ep g c p k hx)=>0<n/\∃ds,qG ks cs=some ds/\∃d0 η dd,(s'.o g).own c=some (d0,η)/\η p=hx/\D.get p d0=some dd/\dd.isSl=true/\k+n<=dd.cells.length/\
   stH (jT ds&&jT ((dd.cells.drop k).take n)) p k n η λaW=>K (s'.setO g ((s'.o g).putOwn c (D.put p k ds d0) aW))
  |_=>False):=rfl
 rw [e];simp only [true_and,vX]
 congr 1
 funext l
 congr 2
 congr 1
 funext cs s'
 cases hv:s.ev a with
 |c y=>
  cases y with
  |bp g c b=>simp only [stA,<-jr2]
  |ep g c p k hx=>
   simp only [stA,jkj]
   apply propext
   constructor
   ·rintro ⟨h0,ds,V,d0,η,dd,Y,h3,h4,h5,h6,h7⟩
    exact ⟨h0,ds,V,by rw [<-jbh];exact ⟨d0,η,Y,h3,by rw [h4];exact ⟨h5,h6,h7⟩⟩⟩
   ·rintro ⟨h0,ds,V,Y⟩
    rw [<-jbh] at Y;obtain ⟨d0,η,h3,h4,h5⟩:=Y;cases hg:D.get p d0 with
    |none=>rw [hg] at h5;exact h5.elim
    |some dd=>rw [hg] at h5;exact ⟨h0,ds,V,d0,η,dd,h3,h4,hg,h5⟩
  |_=>simp [stA]
 |_=>simp [stA]
theorem jgv (d0 d1:D) (η aW:jl):(Ob.loose d0 η).putOwn 0 d1 aW=.loose d1 aW:=(rfl)
theorem jjm (b ty:Nat) (cs:List Cell) (c:Nat) (d1:D) (aW:jl):(Ob.box b ty cs).putOwn c d1 aW=.box b ty (cs.set c (.own d1 aW)):=(rfl)
theorem jk0 {α:Type} (l:List α) (c:Nat):kg l c []=l:=(rfl)
theorem jje {α:Type} (l:List α) (c:Nat) (x:α) (r:List α):kg l c (x::r)=kg (l.set c x) (c+1) r:=(rfl)
theorem jpm (e size bytes:Nat) (x y:X):kK P β ⟨d,g,.app e size bytes x y⟩ s K=jmL s size (s.ev y) λys s1=>jdB s1 e size (s.ev x) λxs s2=>xs.length/size+ys.length/size<=maxLen/\(xs.length/size+ys.length/size)*bytes<=140737488355328/\
 ∀η,K ((s2.addO [(100*(β+d.getD 0),.loose (.sl size e (xs++ys)) η)]).put d (.c (.h (100*(β+d.getD 0)) 0 [] (η [])))):=rfl
theorem jqZ (size:Nat) (dd:D) (R:List D->St->Prop):jmL s size (.c (.ro dd)) R=(dd.isSl=true/\dd.size=size/\jT dd.cells=true/\R dd.cells s):=(rfl)
theorem src_h (size k c:Nat) (p:List Nat) (x:Value) (R:List D->St->Prop):jmL s size (.c (.h k c p x)) R=jiz ((s.o k).own c) λd0 η=>η p=x/\jnZ (D.get p d0) λdd=>dd.isSl=true/\dd.size=size/\(if jT dd.cells=true then R dd.cells s else p=[]/\jgJ dd.cells=true/\R dd.cells (s.rm k c)):=by
 rw [<-jp3];rfl
theorem jof (e size:Nat) (R:List D->St->Prop):jdB s e size (.c (.v (.slice none 0 0))) R=R [] s:=(rfl)
def slK (dd:D) (e size:Nat) (k:List D->Prop):Prop:=∃cs,dd=.sl size e cs/\k cs
theorem jq0 (e size e' size':Nat) (cs:List D) (k:List D->Prop):slK (.sl size' e' cs) e size k=((size'=size/\e'=e)/\k cs):=by
 simp only [slK]
 apply propext
 constructor
 ·rintro ⟨_,h,Y⟩;cases h;exact ⟨⟨by trivial,by trivial⟩,Y⟩
 ·rintro ⟨⟨rfl,rfl⟩,h⟩;exact ⟨_,rfl,h⟩
theorem jsC (e size k c:Nat) (x:Value) (R:List D->St->Prop):jdB s e size (.c (.h k c [] x)) R=jiz ((s.o k).own c) λd0 η=>slK d0 e size λcs=>η []=x/\R cs (s.rm k c):=by
 apply propext
 rw [<-jbh];simp only [jdB,slK];constructor
 ·rintro (⟨_,cs,η,V,Y,h3⟩|⟨_,h,_⟩)
  ·exact ⟨_,η,V,cs,rfl,Y,h3⟩
  ·cases h
 ·rintro ⟨_,η,V,cs,rfl,Y,h3⟩;exact .inl ⟨trivial,cs,η,V,Y,h3⟩
theorem jlZ:jT []=true:=(rfl)
theorem jj0 (u:Value) (l:List D):jT (.val u::l)=(u.oneCell'&&jT l):=(rfl)
theorem qd:∀(l m:List D),jT (l++m)=(jT l&&jT m)
 |[],_=>by simp [jT]
 |.val u::l,m=>by simp [jT,qd l m,Bool.and_assoc]
 |.sl _ _ _::l,m=>by simp [jT]
theorem jfx {e size bytes:Nat} {zs:List D} {l c:X}:kK P β ⟨d,g,.mks e size bytes zs l c⟩ s K=∃(k k':IntKind) (n:Nat),s.ev l=.c (.v (.int k (n:Int)))/\s.ev c=.c (.v (.int k' (n:Int)))/\bytes*n<=281474976710656/\n<=maxLen/\
 ∀η,K ((s.addO [(100*(β+d.getD 0),.loose (.sl size e ((List.replicate n zs).flatten)) η)]).put d (.c (.h (100*(β+d.getD 0)) 0 [] (η [])))):=by
 apply propext
 constructor
 ·rintro ⟨_,h⟩
  obtain ⟨_,_,⟨k,k',n,V,Y,h3,h4,rfl,rfl⟩,_⟩:=h ⟨0,λ_ _=>undef⟩
  refine ⟨k,k',n,V,Y,h3,h4,λη=>?_⟩
  obtain ⟨_,_,⟨k1,k1',n1,dD,bP,_,_,rfl,rfl⟩,h6⟩:=h ⟨0,λ_=>η⟩
  rw [V] at dD;cases dD;exact h6
 ·rintro ⟨k,k',n,V,Y,h3,h4,h5⟩
  exact ⟨.c (.val undef),λst=>⟨_,_,⟨k,k',n,V,Y,h3,h4,rfl,rfl⟩,h5 (st.η 0)⟩⟩
def bnd (s:St) (x:Option X) (dflt:Nat) (k:Nat->Prop):Prop:=match x with
 |none=>k dflt
 |some x=>∃kk n,s.ev x=.c (.v (.int kk n))/\0<=n/\k n.toNat
def bndA (a:AV) (k:Nat->Prop):Prop:=match a with
 |.c (.v (.int _ n))=>0<=n/\k n.toNat
 |_=>False
theorem bndA_ (kk:IntKind) (n:Int) (k:Nat->Prop):bndA (.c (.v (.int kk n))) k=(0<=n/\k n.toNat):=(rfl)
theorem bnd_n (dflt:Nat) (k:Nat->Prop):bnd s none dflt k=k dflt:=(rfl)
theorem bnd_s (x:X) (dflt:Nat) (k:Nat->Prop):bnd s (some x) dflt k=bndA (s.ev x) k:=by
 simp only [bnd]
 apply propext
 constructor
 ·rintro ⟨kk,n,V,Y⟩;rw [V];exact Y
 ·intro h
  unfold bndA at h;split at h
  ·rename_i kk n he;exact ⟨kk,n,he,h⟩
  ·exact h.elim
theorem jeE (x:Option X) (dflt:Nat) (R:Nat->Prop):(∃l,jb9 s x dflt l/\R l)=bnd s x dflt R:=by
 apply propext
 cases x with
 |none=>constructor
        ·rintro ⟨l,rfl,h⟩;exact h
        ·intro h;exact ⟨_,rfl,h⟩
 |some x=>
  constructor
  ·rintro ⟨l,⟨k,V⟩,Y⟩;exact ⟨k,l,V,Int.natCast_nonneg _,by simpa using Y⟩
  ·rintro ⟨k,n,V,Y,h3⟩;exact ⟨n.toNat,⟨k,by rw [V,Int.toNat_of_nonneg Y]⟩,h3⟩
def slA (d:Option Nat) (s:St) (K:St->Prop) (size:Nat) (lo hi:Option X):AV->Prop
 |.c (.v (.string b))=>size=0/\bnd s lo 0 λl=>bnd s hi b.size λh=>(l<=h/\h<=b.size)/\K (s.put d (.c (.v (.string (b.extract l h)))))
 |.c (.ro dd)=>(0<size/\dd.isSl=true/\dd.size=size)/\bnd s lo 0 λl=>bnd s hi dd.len λh=>(l<=h/\h<=dd.len)/\K (s.put d (.c (.ro (dd.sub l h))))
 |.c (.h k c p x)=>0<size/\jiz ((s.o k).own c) λd0 η=>η p=x/\jnZ (D.get p d0) λdd=>(dd.isSl=true/\dd.size=size)/\bnd s lo 0 λl=>bnd s hi dd.len λh=>(l<=h/\h<=dd.len)/\K (s.put d (.c (.hs k c p x size l (h-l))))
 |.c (.hs k c p x sz lo0 m)=>((∃dd,Is s (.hs k c p x sz lo0 m) dd)/\sz=size)/\bnd s lo 0 λl=>bnd s hi m λh=>(l<=h/\h<=m)/\K (s.put d (.c (.hs k c p x size (lo0+l) (h-l))))
 |_=>False
theorem jrg (size:Nat) (x:X) (lo hi:Option X):kK P β ⟨d,g,.sl size x lo hi⟩ s K=slA d s K size lo hi (s.ev x):=by
 have e:=jfX (P:=P) (β:=β) (s:=s) (d:=d) (g:=g) (K:=K) (i:=.sl size x lo hi) (G:=λav=>∃l h,jb9 s lo 0 l/\l<=h/\(match s.ev x with
  |.c (.v (.string b))=>size=0/\jb9 s hi b.size h/\h<=b.size/\av=.c (.v (.string (b.extract l h)))
  |.c (.ro d)=>0<size/\d.isSl=true/\d.size=size/\jb9 s hi d.len h/\h<=d.len/\av=.c (.ro (d.sub l h))
  |.c (.h g c p hx)=>0<size/\(∃d,Is s (.h g c p hx) d/\d.size=size/\jb9 s hi d.len h/\h<=d.len)/\av=.c (.hs g c p hx size l (h-l))
  |.c (.hs g c p hx sz lo m)=>(∃d,Is s (.hs g c p hx sz lo m) d)/\sz=size/\jb9 s hi m h/\h<=m/\av=.c (.hs g c p hx size (lo+l) (h-l))
  |_=>False)) rfl (by
  intro _ _ av os;simp only [Gen];constructor
  ·rintro ⟨l,h,V,Y,h3,h4⟩;exact ⟨⟨l,h,V,Y,h3⟩,h4⟩
  ·rintro ⟨⟨l,h,V,Y,h3⟩,h4⟩;exact ⟨l,h,V,Y,h3,h4⟩)
 rw [e]
 apply propext
 cases hv:s.ev x with
 |c y=>
  cases y with
  |v u=>
   cases u with
   |string b=>
    simp only [slA,<-jeE];constructor
    ·rintro ⟨_,⟨l,h,V,Y,h3,h4,h5,rfl⟩,h6⟩;exact ⟨h3,l,V,h,h4,⟨Y,h5⟩,h6⟩
    ·rintro ⟨h3,l,V,h,h4,⟨Y,h5⟩,h6⟩;exact ⟨_,⟨l,h,V,Y,h3,h4,h5,rfl⟩,h6⟩
   |_=>simp [slA]
  |ro dd=>
   simp only [slA,<-jeE];constructor
   ·rintro ⟨_,⟨l,h,V,Y,h3,h4,h5,h6,h7,rfl⟩,h8⟩;exact ⟨⟨h3,h4,h5⟩,l,V,h,h6,⟨Y,h7⟩,h8⟩
   ·rintro ⟨⟨h3,h4,h5⟩,l,V,h,h6,⟨Y,h7⟩,h8⟩;exact ⟨_,⟨l,h,V,Y,h3,h4,h5,h6,h7,rfl⟩,h8⟩
  |h k c p hx=>
   simp only [slA];constructor
   ·rintro ⟨_,⟨l,h,V,Y,h3,⟨dd,⟨d0,η,k1,k2,k3,k4⟩,k5,k6,k7⟩,rfl⟩,h8⟩
    refine ⟨h3,?_⟩;rw [<-jbh];refine ⟨d0,η,k1,k2,?_⟩;rw [k3];refine ⟨⟨k4,k5⟩,?_⟩;rw [<-jeE];refine ⟨l,V,?_⟩;rw [<-jeE];exact ⟨h,k6,⟨Y,k7⟩,h8⟩
   ·rintro ⟨h3,h4⟩
    rw [<-jbh] at h4;obtain ⟨d0,η,k1,k2,k3⟩:=h4;cases hg:D.get p d0 with
    |none=>rw [hg] at k3;exact k3.elim
    |some dd=>
     rw [hg] at k3;obtain ⟨⟨k4,k5⟩,k6⟩:=k3;rw [<-jeE] at k6;obtain ⟨l,V,k7⟩:=k6;rw [<-jeE] at k7;obtain ⟨h,k8,⟨Y,k9⟩,h8⟩:=k7;exact ⟨_,⟨l,h,V,Y,h3,⟨dd,⟨d0,η,k1,k2,hg,k4⟩,k5,k8,k9⟩,rfl⟩,h8⟩
  |hs k c p hx sz lo0 m=>
   simp only [slA,<-jeE];constructor
   ·rintro ⟨_,⟨l,h,V,Y,h3,h4,h5,h6,rfl⟩,h7⟩;exact ⟨⟨h3,h4⟩,l,V,h,h5,⟨Y,h6⟩,h7⟩
   ·rintro ⟨⟨h3,h4⟩,l,V,h,h5,⟨Y,h6⟩,h7⟩;exact ⟨_,⟨l,h,V,Y,h3,h4,h5,h6,rfl⟩,h7⟩
  |_=>simp [slA]
 |_=>simp [slA]
theorem jq1 (size:Nat) (lo hi:Option X) (dd:D):slA d s K size lo hi (.c (.ro dd))=((0<size/\dd.isSl=true/\dd.size=size)/\bnd s lo 0 λl=>bnd s hi dd.len λh=>(l<=h/\h<=dd.len)/\K (s.put d (.c (.ro (dd.sub l h))))):=(rfl)
theorem ret_r (rs:List R) (rt:RT):jrx rs rt .ret s=joQ rs rt s:=(rfl)
def St.n (s:St) (i:Nat):Nat:=match s.t i with|.c (.v (.int _ n))=>n.toNat|_=>0
theorem jkK {i:Nat} {k:IntKind} {n:Int} (h:s.t i=.c (.v (.int k n))):s.n i=n.toNat:=by simp [St.n,h]
theorem kh {x:Int} (h:-9223372036854775808<=x) (h':x<9223372036854775808):IntKind.i64.wrap x=x:=IntWalk.i64_in _ (by omega)
theorem is_v (x:Value):Is s (.v x) (.val x)=True:=by simp [Is]
theorem is_ro (d:D):Is s (.ro d) d=True:=by simp [Is]
theorem jp4:IsL s [] []=True:=(rfl)
theorem jnV (a:A0) (l:List A0) (d:D) (ds:List D):IsL s (a::l) (d::ds)=(Is s a d/\IsL s l ds):=(rfl)
theorem jot:qs s [] []=True:=(rfl)
theorem jmw (a:AV) (l:List AV) (v:View) (vs:List View):qs s (a::l) (v::vs)=(je6 s a v/\qs s l vs):=(rfl)
theorem arg_c (a:A0) (d:D):je6 s (.c a) (.c d)=Is s a d:=(rfl)
theorem jqw (l:List A0) (ds:List D):je6 s (.agg l) (.agg ds)=IsL s l ds:=(rfl)
theorem jqv (a:A0) (ds:List D):je6 s (.c a) (.ptr ds)=Ptr s a ds:=(rfl)
theorem jsL (f:Nat) (caps:List A0) (caps':List (List D)):je6 s (.fn f caps) (.fn f caps')=jow s caps caps':=by simp [je6]
theorem jns:jow s [] []=True:=(rfl)
theorem jlt (a:A0) (l:List A0) (d:List D) (ds:List (List D)):jow s (a::l) (d::ds)=(Ptr s a d/\jow s l ds):=(rfl)
theorem jrP (ds:List D):Ptr s (.rp ds) ds=True:=by simp [Ptr]
theorem is_h0 (k c:Nat) (x:Value) (d:D):Is s (.h k c [] x) d=jiz ((s.o k).own c) λd0 η=>d0=d/\η []=x/\d.isSl=true:=by
 apply propext
 rw [<-jbh];simp only [Is,jh8];constructor
 ·rintro ⟨d0,η,V,Y,h3,h4⟩;cases h3;exact ⟨_,η,V,rfl,Y,h4⟩
 ·rintro ⟨_,η,V,rfl,Y,h3⟩;exact ⟨_,η,V,Y,rfl,h3⟩
theorem jog {k c:Nat} {x:Value} {ty:Nat} {cs:List D} {η:jl} {bs:List UInt8} (V:(s.o k).own c=some (.sl 1 ty cs,η)) (Y:η []=x) (h3:cs=bs.map zU) (hk:K (s.put d (.c (.v (.string ⟨bs.toArray⟩))))):cvK d s K .text (.c (.h k c [] x)):=by
 subst h3;exact ⟨_,⟨_,ty,bs,rfl,⟨_,η,V,Y,jh8 _,rfl⟩,rfl⟩,hk⟩
end
theorem joe (s:Nat) (t:TypeId) (cs:List D):(D.sl s t cs).size=s:=(rfl)
theorem jmg (s:Nat) (t:TypeId) (cs:List D):(D.sl s t cs).cells=cs:=(rfl)
theorem jsz (s:Nat) (t:TypeId) (cs:List D):(D.sl s t cs).isSl=true:=(rfl)
theorem jsB (v:Value) (g:Nat) (η:jl):(D.val v).obj g η=[]:=(rfl)
theorem jsA (v:Value) (g c:Nat) (p:List Nat) (η:jl):(D.val v).toOwn g c p η=.v v:=(rfl)
attribute [go_sem] joe jmg jsz jsB jsA joT jpp jpn jpo jrm jrn jro jrp jrq jrD jrE jrF jrG jlS jjU jlT jjV jp0 jp1 jo7 I.looks AV.looks A0.looks AV.ids A0.ids List.flatMap_cons List.flatMap_nil List.append_nil List.contains_cons List.contains_nil Bool.or_false Bool.or_true Bool.or_self Bool.false_or Bool.true_or ite_true ite_false jrg jq1 bnd_n bnd_s bndA_ jr4 jgv jjm List.tail_cons List.head?_cons Nat.zero_add jmM jqO jkm jox jmN joS jko jkp thn_n thn_e thn_r blk_n blk_r blk_e jnf jk7 jpc jpd jpe jpf jo8 jne jrR jrk jsr jst jss jrh jsc jsd jpZ ldB_ ldV_t ldV_f jri jsk jp9 jpa jpX jnT jnU jpk jsG jop joo jmp jpl beqK_ jre joX jrl jqo jpg extK_ jsu jsv jnd jra jpi jol jsE jph jpj jk9 jrf jqW jpm jqZ src_h jof jsC jq0 ownK_ getK_ jh8 jlF jhQ ownC_ rm_o rm_t jjz jnK jpr obK_ jmk jqp jqq jok jn6 jl2 jqn dat_v jqm jk0 jje jlZ jj0 qd jmU jqT joZ jmT one_i one_b one_s one_n A0.c1 ev_t ev_i ev_b ev_s ev_n put_t put_o jrc jrd jou jmC jse View.av jrs jnX jbk jda ret_r is_v is_ro jp4 jnV jot jmw arg_c jqw jqv jsL jns jlt jrP is_h0 RT.flat je0 RT.av jrU jsP List.map_cons List.map_nil List.length_cons List.length_nil List.take_succ_cons List.take_zero List.drop_succ_cons List.drop_zero List.getElem?_cons_zero List.getElem?_cons_succ List.set_cons_zero List.set_cons_succ List.cons_append List.nil_append Option.getD_some Nat.lt_add_one and_true true_and and_self forall_const imp_self implies_true ge_iff_le gt_iff_lt decide_true decide_false Bool.not_true Bool.not_false Bool.and_self Bool.false_eq_true Int.toNat_natCast Int.natCast_nonneg not_false_eq_true ne_eq
attribute [go_sem_proc] Nat.reduceEqDiff Nat.reduceMul Nat.reduceAdd Nat.reduceLeDiff Nat.reduceLT Nat.reduceBEq Nat.reduceSub reduceCtorEq Int.reduceEq
attribute [go_sem_proc↓] reduceIte
