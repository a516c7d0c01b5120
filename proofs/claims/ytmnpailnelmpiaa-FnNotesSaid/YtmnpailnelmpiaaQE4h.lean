/- Parts. -/
import Derived.Test.YtmnpailnelmpiaaQE4g
import Derived.LoopN
set_option linter.unusedSimpArgs false
set_option linter.unusedVariables false
namespace Go.Proofs.Ytmnpailnelmpiaa
open Go.RowKit Go.Sort
def Ex.to:Ex→Exit
 |.normal=>.normal
 |.exit id=>.exit id
 |.ret=>.ret
section
variable {P:Program} {β B N:Nat} {w w0:World} {s:St} {a:Act} {F:Nat→List Nat}
theorem qf {c:Code} {c0:C} (h:comp P N c=some c0):match c0 with
 |.skip=>c=.skip
 |.reg is=>∃id ops,c=.region id ops false∧jhR P N ops ops.toList=some is
 |.dreg t=>∃id ops,c=.region id ops true∧jvc P N ops=some t
 |.seq a b=>∃x y,c=.seq x y∧comp P N x=some a∧comp P N y=some b
 |.cond x a b=>∃x' y z,c=.cond x' y z∧jC x'=some x∧comp P N y=some a∧comp P N z=some b
 |.blk id a=>∃x,c=.block id x∧comp P N x=some a
 |.loop a=>∃x,c=.loop x∧comp P N x=some a
 |.exit id=>c=.exit id
 |.ret=>c=.ret
 |.gh _=>False:=by
 cases c with
 |skip=>simp [comp] at h;subst h;rfl
 |region id ops d=>
  cases d with
  |true=>simp only [comp,Option.map_eq_some_iff] at h;obtain ⟨t,h1,rfl⟩:=h;exact ⟨_,_,rfl,h1⟩
  |false=>simp only [comp,Option.map_eq_some_iff] at h;obtain ⟨t,h1,rfl⟩:=h;exact ⟨_,_,rfl,h1⟩
 |seq x y=>
  simp only [comp] at h;split at h
  ·rename_i x' y' h1 h2;simp at h;subst h;exact ⟨_,_,rfl,h1,h2⟩
  ·simp at h
 |cond x y z=>
  simp only [comp] at h;split at h
  ·rename_i x' y' z' h1 h2 h3;simp at h;subst h;exact ⟨_,_,_,rfl,h1,h2,h3⟩
  ·simp at h
 |block id x=>simp only [comp,Option.map_eq_some_iff] at h;obtain ⟨t,h1,rfl⟩:=h;exact ⟨_,rfl,h1⟩
 |loop x=>simp only [comp,Option.map_eq_some_iff] at h;obtain ⟨t,h1,rfl⟩:=h;exact ⟨_,rfl,h1⟩
 |exit id=>simp [comp] at h;subst h;rfl
 |ret=>simp [comp] at h;subst h;rfl
 |_=>simp [comp] at h
theorem jaA:∀{c':C} {c:Code} {s:St} {a:Act} {w:World} {F:Nat→List Nat} {Qc:Ex→St→Prop} {Q:Exit→Act→World→Prop},
 comp P N c=some c'.er→RelF B w0 N s a w F→wpC P β c' Qc s→(∀e s a w F,RelF B w0 N s a w F→Qc e s→Q e.to a w)→c.wp P Q a w
 |.gh x,c,s,a,w,F,Qc,Q,hc,h,hw,hQ=>by
  obtain ⟨s',F',h3,h2⟩:=hw _ _ _ _ _ _ h;exact jaA (c':=x) hc h3 h2 hQ
 |.skip,c,s,a,w,F,Qc,Q,hc,h,hw,hQ=>by
  have e:c=.skip:=qf hc;subst e;exact wp_skip (hQ .normal _ _ _ _ h hw)
 |.dreg t,c,s,a,w,F,Qc,Q,hc,h,hw,hQ=>by
  obtain ⟨id,ops,rfl,h1⟩:=qf hc;exact jxQ h h1 hw fun s a w F h hk=>hQ .normal _ _ _ _ h hk
 |.reg is,c,s,a,w,F,Qc,Q,hc,h,hw,hQ=>by
  obtain ⟨id,ops,rfl,h1⟩:=qf hc;exact wp_region_list (jm3 (fun s a w F h hk=>hQ .normal _ _ _ _ h hk) h1 h hw)
 |.seq x' y',c,s,a,w,F,Qc,Q,hc,h,hw,hQ=>by
  obtain ⟨x,y,rfl,h1,h2⟩:=qf hc;refine wp_seq (jaA h1 h hw fun e s a w F h hk=>?_)
  cases e with
  |normal=>exact jaA h2 h hk hQ
  |exit id=>exact hQ (.exit id) _ _ _ _ h hk
  |ret=>exact hQ .ret _ _ _ _ h hk
 |.cond x' y' z',c,s,a,w,F,Qc,Q,hc,h,hw,hQ=>by
  obtain ⟨x,y,z,rfl,h1,h2,h3⟩:=qf hc;obtain ⟨t,h4,h5,h6⟩:=hw;exact wp_cond_split (jgh h h1 h4) (fun ht=>jaA h2 h (h5 ht) hQ) (fun ht=>jaA h3 h (h6 ht) hQ)
 |.blk id x',c,s,a,w,F,Qc,Q,hc,h,hw,hQ=>by
  obtain ⟨x,rfl,h1⟩:=qf hc;refine wp_block (jaA h1 h hw fun e s a w F h hk=>?_)
  cases e with
  |normal=>exact hQ .normal _ _ _ _ h hk
  |exit id'=>
   simp only [Ex.inBlk] at hk;simp only [Ex.to,Exit.inBlock];split
   ·rename_i e;rw [if_pos e] at hk;exact hQ .normal _ _ _ _ h hk
   ·rename_i e;rw [if_neg e] at hk;exact hQ (.exit id') _ _ _ _ h hk
  |ret=>exact hQ .ret _ _ _ _ h hk
 |.loop x',c,s,a,w,F,Qc,Q,hc,h,hw,hQ=>by
  obtain ⟨x,rfl,h1⟩:=qf hc;obtain ⟨ι,mk,J,μ,⟨i0,h2,h4⟩,h3⟩:=hw
  have key:∀(n:Nat) (i:ι) (a:Act) (w:World) (F:Nat→List Nat),RelF B w0 N (mk i) a w F→J i→μ i<n→Code.rounds P x Q n a w:=by
   intro n
   induction n with
   |zero=>intro _ _ _ _ _ _ hlt;omega
   |succ n ih=>
    intro i a w F h hJ hlt;refine jaA h1 h (h3 i hJ) fun e s' a' w' F' h' hk=>?_
    cases e with
    |normal=>
     obtain ⟨i',k1,k2,k3⟩:=hk;obtain ⟨F2,k4,_⟩:=k2 _ _ _ _ _ _ h';exact ih _ _ _ _ k4 k1 (by omega)
    |exit id=>exact hQ (.exit id) _ _ _ _ h' hk
    |ret=>exact hQ .ret _ _ _ _ h' hk
  obtain ⟨F2,h5,_⟩:=h4 _ _ _ _ _ _ h;exact wp_loop_rounds _ (key (μ i0+1) _ _ _ _ h5 h2 (by omega))
 |.exit id,c,s,a,w,F,Qc,Q,hc,h,hw,hQ=>by
  have e:c=.exit id:=qf hc;subst e;exact wp_exit (hQ (.exit id) _ _ _ _ h hw)
 |.ret,c,s,a,w,F,Qc,Q,hc,h,hw,hQ=>by
  have e:c=.ret:=qf hc;subst e;exact wp_ret (hQ .ret _ _ _ _ h hw)
theorem jdh:∀{c':C} {c:Code},comp P N c=some c'→c'.er=c'
 |.skip,_,_|.reg _,_,_|.dreg _,_,_|.exit _,_,_|.ret,_,_=>rfl
 |.seq a b,c,h=>by obtain ⟨x,y,_,h1,h2⟩:=qf h;simp only [C.er,jdh h1,jdh h2]
 |.cond x a b,c,h=>by obtain ⟨_,y,z,_,_,h1,h2⟩:=qf h;simp only [C.er,jdh h1,jdh h2]
 |.blk id a,c,h=>by obtain ⟨x,_,h1⟩:=qf h;simp only [C.er,jdh h1]
 |.loop a,c,h=>by obtain ⟨x,_,h1⟩:=qf h;simp only [C.er,jdh h1]
 |.gh a,c,h=>(qf h).elim
theorem jdf:∀(p:List Nat) (c:C),(C.ghAt p c).er=c.er
 |[],c=>by cases c<;>rfl
 |0::p,.seq a b=>by simp only [C.ghAt,C.er,jdf p a]
 |(k+1)::p,.seq a b=>by simp only [C.ghAt,C.er,jdf p b]
 |0::p,.cond x a b=>by simp only [C.ghAt,C.er,jdf p a]
 |(k+1)::p,.cond x a b=>by simp only [C.ghAt,C.er,jdf p b]
 |k::p,.blk id a=>by simp only [C.ghAt,C.er,jdf p a]
 |k::p,.loop a=>by simp only [C.ghAt,C.er,jdf p a]
 |k::_,.skip=>by cases k<;>rfl
 |k::_,.reg _=>by cases k<;>rfl
 |k::_,.dreg _=>by cases k<;>rfl
 |k::_,.exit _=>by cases k<;>rfl
 |k::_,.ret=>by cases k<;>rfl
 |k::_,.gh _=>by cases k<;>rfl
def C.ghs (ps:List (List Nat)) (c:C):C:=ps.foldr C.ghAt c
theorem jzL (ps:List (List Nat)) (c:C):(C.ghs ps c).er=c.er:=by
 induction ps with
 |nil=>rfl
 |cons p ps ih=>rw [show C.ghs (p::ps) c=C.ghAt p (C.ghs ps c) from rfl,jdf,ih]
theorem joz {c:Code} {c':C} (ps:List (List Nat)) (h:comp P N c=some c'):comp P N c=some (C.ghs ps c').er:=by rw [jzL,jdh h];exact h
theorem joB {ds:List D} {x:Value} (h:ViewRel.CellsAt w ds x):A0Rel w.heap.size w (.rp ds) x:=by
 obtain ⟨b,o,us,S,h1,h2,h3⟩:=h;refine ⟨b,o,us,S,h1,h2,RepL.lt ds h2,fun hne=>?_,h3⟩
 have hl:=RepL.length ds h2;cases us with
 |nil=>exact absurd (List.eq_nil_of_length_eq_zero (by simpa using hl.symm)) hne
 |cons u us=>
  have:=h3 0 u rfl;unfold World.cell? at this;split at this
  ·rename_i hh;exact zX hh
  all_goals simp at this
theorem js6:∀{caps:List (List D)} {xs:List Value},ViewRel.All2 w caps xs→A0RelL w.heap.size w (caps.map .rp) xs
 |[],_,h=>h
 |_::_,_,⟨x,xs',h1,h2,h3⟩=>⟨x,xs',h1,joB h2,js6 h3⟩
theorem jyX {d:D} {u:Value} {S:List Nat} (h:Rep w false d u S):A0Rel w.heap.size w d.toRo u:=by
 cases d with
 |val x=>exact h.1
 |sl size ty cs=>exact ⟨rfl,S,h,Rep.lt _ h⟩
theorem jvI:∀{ds:List D} {us:List Value} {S:List Nat},RepL w false ds us S→A0RelL w.heap.size w (ds.map D.toRo) us
 |[],_,_,⟨h,_⟩=>h
 |_::_,_,_,⟨u,us',S1,S2,h1,_,h3,h4⟩=>⟨u,us',h1,jyX h3,jvI h4⟩
theorem jwg:∀{v:View} {x:Value},ViewRel w v x→VRel w.heap.size w v.av x
 |.c d,x,⟨S,h⟩=>jyX h
 |.agg ds,x,⟨S,us,h1,h2⟩=>⟨us,h1,jvI h2⟩
 |.ptr ds,x,h=>joB h
 |.fn f caps,x,⟨xs,h1,h2⟩=>⟨xs,h1,js6 h2⟩
theorem jkN:∀{vs:List View} {xs:List Value},vz w vs xs→xs.length=vs.length∧∀(n:Nat) (v:View) (x:Value),vs[n]?=some v→xs[n]?=some x→ViewRel w v x
 |[],_,h=>by rw [show _=_ from h];simp
 |v::vs,_,⟨x,xs',h1,h2,h3⟩=>by
  subst h1;obtain ⟨h4,h5⟩:=jkN h3;refine ⟨by simp [h4],fun n v' x' hv hx=>?_⟩
  cases n with
  |zero=>simp at hv hx;subst hv hx;exact h2
  |succ n=>exact h5 n v' x' (by simpa using hv) (by simpa using hx)
theorem jqU {vs:List View} {xs:List Value} (hv:vz w vs xs) (hN:vs.length≤N):
 RelF w.heap.size w N (St.init vs) {tmps:=xs.toArray++Array.replicate (N-xs.toArray.size) undef,defers:=[]} w (fun _=>[]):=by
 obtain ⟨hl,hg⟩:=jkN hv;refine ⟨Below.refl _ _,Nat.le_refl _,rfl,by simp;omega,fun n=>?_,fun _=>rfl,fun _=>Fresh.nil _,fun _ _ _ _ h=>by simp at h⟩
 simp only [St.init];cases hvn:vs[n]? with
 |none=>simp [hvn,VRel]
 |some v=>
  have hlt:n<vs.length:=(List.getElem?_eq_some_iff.1 hvn).1;have hlx:n<xs.length:=by omega
  have hxn:xs[n]?=some xs[n]:=List.getElem?_eq_getElem hlx;have:=jwg (hg n v _ hvn hxn)
  have e:(xs.toArray++Array.replicate (N-xs.toArray.size) undef).getD n undef=xs[n]:=by
   simp [Array.getD_eq_getD_getElem?,Array.getElem?_append,hlx]
  simp only [List.getElem?_map,hvn,Option.map_some,Option.getD_some];rw [e];exact this
theorem jm8:∀{cs:List Cell} {us:List Value} {S:List Nat} {ds:List D},CRel B w cs us S→IsD cs ds→RepL w true ds us S
 |[],us,S,ds,h,hd=>by rw [show ds=[] from hd];exact h
 |.a x::cs,us,S,ds,⟨u,us',h1,h2,h3⟩,hd=>by
  cases x with
  |v x=>
   cases ds with
   |nil=>exact hd.elim
   |cons d ds=>
    obtain ⟨h4,h5⟩:=hd;subst h1;have h6:=jm8 h3 h5;rw [show u=x from h2]
    rcases h4 with rfl|⟨rfl,size,ty,rfl⟩
    ·exact RepL.val_ h6
    ·exact RepL.cons_ (S1:=[]) (Rep.nil_ w size ty) h6
  |_=>cases ds<;>exact hd.elim
 |.own d η::cs,us,S,ds,⟨u,us',S1,S2,h1,h2,_,h4,_,h6⟩,hd=>by
  cases ds with
  |nil=>exact hd.elim
  |cons d' ds=>
   obtain ⟨rfl,h5⟩:=hd;subst h1 h2;exact RepL.cons_ h4 (jm8 h6 h5)
def jqp:List (Bool×List A0)→List Value→List Value→Prop
 |[],vals,us=>vals=[]∧us=[]
 |(b,az)::ps,vals,us=>∃v vals' xs us',vals=v::vals'∧us=xs++us'∧xs.length=az.length∧(if b then v=.agg xs.toArray else xs=[v])∧jqp ps vals' us'
def ji6 (tmps:Array Value):ResultVar→Sem Value
 |.tmp t=>pure (tmps.getD t undef)
 |.cell x t=>do loadVar t (←asAddr (tmps.getD x undef))
theorem ji0 (fn:Func) (tmps:Array Value):results fn tmps=(do let vs←fn.results.mapM (ji6 tmps);pure (if h:vs.size=1 then vs[0] else .tuple vs)):=by
 unfold results
 congr 1
theorem A0RelL.app:∀{l m:List A0} {us vs:List Value},A0RelL B w l us→A0RelL B w m vs→A0RelL B w (l++m) (us++vs)
 |[],_,_,_,h1,h2=>by rw [show _=_ from h1];exact h2
 |_::_,_,_,_,⟨u,us',h1,h2,h3⟩,h4=>by subst h1;exact ⟨u,_,rfl,h2,h3.app h4⟩
theorem jhe (h:RelF B w0 N s a w F):∀{rs:List ResultVar} {rs':List R} {K:List (Bool×List A0)→Prop},jiC P N rs=some rs'→jgK s rs' K→
 ∃ps vals us,K ps∧A0RelL B w (ps.flatMap (·.2)) us∧jqp ps vals us∧(rs.mapM (ji6 a.tmps)).run P w=.ok vals w
 |[],rs',K,hc,hk=>by
  simp [jiC] at hc;subst hc;exact ⟨[],[],[],hk,rfl,⟨rfl,rfl⟩,by simp⟩
 |.tmp n::rs,rs',K,hc,hk=>by
  simp only [jiC] at hc;split at hc
  ·simp only [Option.map_eq_some_iff] at hc
   obtain ⟨r,h1,rfl⟩:=hc;simp only [jgK] at hk;have hv:=h.sl n;split at hk
   ·rename_i l he
    rw [he] at hv;obtain ⟨xs,k1,k2⟩:=hv;obtain ⟨ps,vals,us,k3,k4,k5,k6⟩:=jhe h h1 hk;refine ⟨_,.agg xs.toArray::vals,xs++us,k3,A0RelL.app k2 k4,⟨_,_,xs,us,rfl,rfl,k2.len,by simp,k5⟩,?_⟩
    simp [List.mapM_cons,ji6,k1,k6]
   ·rename_i a0 he
    rw [he] at hv;obtain ⟨ps,vals,us,k3,k4,k5,k6⟩:=jhe h h1 hk;refine ⟨_,a.tmps.getD n undef::vals,_::us,k3,⟨_,us,rfl,hv,k4⟩,⟨_,_,[_],us,rfl,rfl,rfl,by simp,k5⟩,?_⟩
    simp [List.mapM_cons,ji6,k6]
   ·exact hk.elim
  ·simp at hc
 |.cell n t::rs,rs',K,hc,hk=>by
  simp only [jiC] at hc
  have key:∀{dsc:TypeDesc} {agg:Bool} {k:Nat} {r:List R},P.underlying t=some dsc→agg=jz3 dsc→kD P t=some k→jiC P N rs=some r→jgK s (.cell n agg k::r) K→
   ∃ps vals us,K ps∧A0RelL B w (ps.flatMap (·.2)) us∧jqp ps vals us∧((ResultVar.cell n t::rs).mapM (ji6 a.tmps)).run P w=.ok vals w:=by
   intro dsc agg k r ht hagg hn hr hk;obtain ⟨l,h1,h2,h3⟩:=hk;obtain ⟨b,o,xs,e1,e2,e3,e4,e5⟩:=joc h (h.sl n) h1;obtain ⟨ps,vals,us,k3,k4,k5,k6⟩:=jhe h hr h3
   obtain ⟨v,hv⟩:∃v,if agg then v=.agg xs.toArray else xs=[v]:=by
    cases agg with
    |true=>exact ⟨_,rfl⟩
    |false=>
     have h4:l.length=1:=by simpa using h2
     have:xs.length=1:=by omega
     obtain ⟨v,rfl⟩:=List.length_eq_one_iff.1 this;exact ⟨v,by simp⟩
   have hrun:=jkb (P:=P) ht hagg hn e2 e4 hv;refine ⟨_,v::vals,xs++us,k3,A0RelL.app e5 k4,⟨_,_,xs,us,rfl,rfl,by omega,hv,k5⟩,?_⟩
   simp [List.mapM_cons,ji6,e1,asAddr,hrun,k6]
  split at hc
  ·split at hc
   ·rename_i fs k r h1 h2 h3
    simp at hc;subst hc;exact key h1 rfl h2 h3 hk
   ·simp at hc
   ·rename_i dsc k r hn1 hn2 h1 h2 h3
    simp at hc;subst hc;refine key h1 ?_ h2 h3 hk;cases dsc<;>simp_all [jz3]
   ·simp at hc
  ·simp at hc
theorem jkW:∀{l:List (Bool×List D)} {ps:List (Bool×List A0)} {vals us:List Value} {S:List Nat},jqp ps vals us→ps.map (fun p=>(p.1,p.2.length))=l.map (fun p=>(p.1,p.2.length))→RepL w true (l.flatMap (·.2)) us S→joM w l vals S
 |[],ps,vals,us,S,h,he,hr=>by
  cases ps with
  |nil=>obtain ⟨rfl,rfl⟩:=h;exact ⟨rfl,hr.2⟩
  |cons p ps=>simp at he
 |(b,ds)::l,ps,vals,us,S,h,he,hr=>by
  cases ps with
  |nil=>simp at he
  |cons p ps=>
   obtain ⟨b',az⟩:=p;simp at he;obtain ⟨⟨rfl,e1⟩,e2⟩:=he;obtain ⟨v,vals',xs,us',rfl,rfl,h3,h4,h5⟩:=h;simp only [List.flatMap_cons] at hr;obtain ⟨v1,v2,S1,S2,e3,rfl,h6,h7⟩:=RepL.append_inv _ hr;have hl:=RepL.length _ h6;obtain ⟨rfl,rfl⟩:=List.append_inj e3 (by omega)
   exact ⟨v,vals',xs,S1,S2,rfl,rfl,h6,h4,jkW h5 e2 h7⟩
theorem jsP (h:RelF B w0 N s a w F) {fn:Func} {rs:List R} {rt:RT} (hc:jiC P N fn.results.toList=some rs) (hq:jqv rs rt s):
 ∃v S,(results fn a.tmps).run P w=.ok v w∧joN w rt v S∧Fresh B S:=by
 obtain ⟨ps,vals,us,⟨h1,h2⟩,h3,h4,h5⟩:=jhe h hc hq;obtain ⟨cs,s',S,F',k1,k2,k3,k4,_⟩:=jbX h h3 h2;have hr:=jm8 k2 k1
 have hrun:(results fn a.tmps).run P w=.ok (if hs:vals.toArray.size=1 then vals.toArray[0] else .tuple vals.toArray) w:=by
  rw [ji0,Array.mapM_eq_mapM_toList];simp [h5]
 cases rt with
 |c d=>
  obtain ⟨a0,rfl⟩:=h1;obtain ⟨v,vals',xs,us',rfl,rfl,e1,e2,⟨rfl,rfl⟩⟩:=h4;simp at e2;subst e2;obtain ⟨u,us'',S1,S2,e3,rfl,e5,⟨rfl,rfl⟩⟩:=hr;simp at e3;subst e3;exact ⟨v,S1++[],by simpa using hrun,(by simpa using e5:Rep w true d v (S1++[])),k4⟩
 |agg ds=>
  obtain ⟨l,rfl⟩:=h1;obtain ⟨v,vals',xs,us',rfl,rfl,e1,e2,⟨rfl,rfl⟩⟩:=h4;simp at e2;subst e2;exact ⟨_,S,by simpa using hrun,⟨xs,rfl,by simpa [RT.flat] using hr⟩,k4⟩
 |tup l=>
  obtain ⟨hne,h1⟩:=h1
  have hlen:vals.length=ps.length:=by
   have:∀{ps:List (Bool×List A0)} {vals us:List Value},jqp ps vals us→vals.length=ps.length:=by
    intro ps
    induction ps with
    |nil=>intro vals us h;rw [h.1];rfl
    |cons p ps ih=>obtain ⟨b,az⟩:=p;rintro vals us ⟨v,vals',xs,us',rfl,_,_,_,h⟩;simp [ih h]
   exact this h4
  refine ⟨_,S,hrun,⟨vals,?_,jkW h4 h1 hr⟩,k4⟩;rw [dif_neg (by simpa [hlen] using hne)]
theorem jw2 {f:FuncId} {fn:Func} {c:Code} {c':C} {vs:List View} {rs:List R} {rt:RT} (hf:P.funcs[f]?=some fn) (hb:fn.body=some c) (hn:(fn.name != "runtime.NumGoroutine")=true)
 (hc:comp P fn.ntmps c=some c'.er) (hr:jiC P fn.ntmps fn.results.toList=some rs) (hN:vs.length≤fn.ntmps) (hw:wpC P 0 c' (jwY rs rt) (St.init vs)):kl P f vs rt:=by
 refine ⟨⟨fn,hf,by rw [hb];rfl,hn⟩,fun w xs hv=>calls_of_wp hf hb (jaA hc (jqU hv hN) hw fun e s a w' F h hk=>?_)⟩
 cases e with
 |exit id=>exact hk.elim
 |normal=>
  obtain ⟨v,S,k1,k2,k3⟩:=jsP h hr hk;exact ⟨h.df,v,k1,v,S,rfl,k2,k3,h.below⟩
 |ret=>
  obtain ⟨v,S,k1,k2,k3⟩:=jsP h hr hk;exact ⟨h.df,v,k1,v,S,rfl,k2,k3,h.below⟩
theorem jaq (ps:List (List Nat)) {f:FuncId} {fn:Func} {c:C} {vs:List View} {rs:List R} {rt:RT} (hf:P.funcs[f]?=some fn) (hc:fnC P fn=some (c,rs,N)) (hN:vs.length≤N) (hw:wpC P 0 (C.ghs ps c) (jwY rs rt) (St.init vs)):kl P f vs rt:=by
 unfold fnC at hc;split at hc
 ·rename_i b hb
  split at hc
  ·rename_i hn
   split at hc
   ·rename_i c' rs' h1 h2
    simp only [Option.some.injEq,Prod.mk.injEq] at hc;obtain ⟨rfl,rfl,rfl⟩:=hc;exact jw2 hf hb hn (joz ps h1) h2 hN hw
   ·simp at hc
  ·simp at hc
 ·simp at hc
theorem jr {f:FuncId} {fn:Func} {c:C} {vs:List View} {rs:List R} {rt:RT} (hf:P.funcs[f]?=some fn) (hc:fnC P fn=some (c,rs,N)) (hN:vs.length≤N) (hw:wpC P 0 c (jwY rs rt) (St.init vs)):kl P f vs rt:=jaq [] hf hc hN hw
theorem jnv:∀{args:List AV} {xs:List Value},jib B w args xs→xs.length=args.length∧∀(n:Nat) (v:AV) (x:Value),args[n]?=some v→xs[n]?=some x→VRel B w v x
 |[],_,h=>by rw [show _=_ from h];simp
 |v::vs,_,⟨x,xs',h1,h2,h3⟩=>by
  subst h1;obtain ⟨h4,h5⟩:=jnv h3;refine ⟨by simp [h4],fun n v' x' hv hx=>?_⟩
  cases n with
  |zero=>simp at hv hx;subst hv hx;exact h2
  |succ n=>exact h5 n v' x' (by simpa using hv) (by simpa using hx)
theorem jo0 {args:List AV} {xs:List Value} {o:Nat→Ob} (h:RelF B w 0 (.only o) Act.bare w F) (hv:jib B w args xs) (hN:args.length≤N):
 RelF B w N (St.start args o) {tmps:=xs.toArray++Array.replicate (N-xs.toArray.size) undef,defers:=[]} w F:=by
 obtain ⟨hl,hg⟩:=jnv hv;refine ⟨Below.refl _ _,h.hB,rfl,by simp;omega,fun n=>?_,h.ob,h.fr,h.dj⟩
 simp only [St.start];cases hvn:args[n]? with
 |none=>simp [hvn,VRel]
 |some v=>
  have hlt:n<args.length:=(List.getElem?_eq_some_iff.1 hvn).1;have hlx:n<xs.length:=by omega
  have hxn:xs[n]?=some xs[n]:=List.getElem?_eq_getElem hlx;have:=hg n v _ hvn hxn
  have e:(xs.toArray++Array.replicate (N-xs.toArray.size) undef).getD n undef=xs[n]:=by
   simp [Array.getD_eq_getD_getElem?,Array.getElem?_append,hlx]
  simp only [Option.getD_some];rw [e];exact this
theorem jvG:∀{ps:List (Bool×List A0)} {vals us:List Value},jqp ps vals us→A0RelL B w (ps.flatMap (·.2)) us→TRelL B w ps vals
 |[],vals,us,⟨h1,_⟩,_=>h1
 |(b,az)::ps,vals,us,⟨v,vals',xs,us',h1,h2,h3,h4,h5⟩,hr=>by
  subst h1 h2;simp only [List.flatMap_cons] at hr
  have key:∀{l m:List A0} {xs ys:List Value},xs.length=l.length→A0RelL B w (l++m) (xs++ys)→A0RelL B w l xs∧A0RelL B w m ys:=by
   intro l
   induction l with
   |nil=>intro m xs ys hl h;obtain rfl:xs=[]:=List.eq_nil_of_length_eq_zero hl;exact ⟨rfl,h⟩
   |cons x l ih=>
    intro m xs ys hl h;cases xs with
    |nil=>simp at hl
    |cons y xs=>
     obtain ⟨u,us',e1,e2,e3⟩:=h;simp only [List.cons_append,List.cons.injEq] at e1;obtain ⟨rfl,rfl⟩:=e1;obtain ⟨k1,k2⟩:=ih (by simpa using hl) e3
     exact ⟨⟨y,xs,rfl,e2,k1⟩,k2⟩
  obtain ⟨k1,k2⟩:=key h3 hr;exact ⟨v,vals',xs,rfl,k1,h4,jvG h5 k2⟩
theorem jfV (ps:List (List Nat)) {f:FuncId} {fn:Func} {c:C} {args:List AV} {o:Nat→Ob} {rs:List R} {R:AV→(Nat→Ob)→Prop} (hf:P.funcs[f]?=some fn) (hc:fnC P fn=some (c,rs,N)) (hN:args.length≤N) (hw:wpC P β (C.ghs ps c) (inlE rs R) (St.start args o)):Inl P f args o R:=by
 unfold fnC at hc;split at hc
 ·rename_i b hb
  split at hc
  ·rename_i hn
   split at hc
   ·rename_i c' rs' h1 h2
    simp only [Option.some.injEq,Prod.mk.injEq] at hc;obtain ⟨rfl,rfl,rfl⟩:=hc
    have fin:∀{s:St} {a:Act} {w w':World} {F':Nat→List Nat} {B:Nat},RelF B w fn.ntmps s a w' F'→jtI rs' R s→∃v,(results fn a.tmps).run P w'=.ok v w'∧∃av o',∃F2:Nat→List Nat,RelF B w 0 (.only o') Act.bare w' F2∧VRel B w' av v∧R av o':=fun {s a w w' F' B} h hk=>by
     obtain ⟨ps,vals,us,k1,k2,k3,k4⟩:=jhe h h2 hk
     have hrun:(results fn a.tmps).run P w'=.ok (if hs:vals.toArray.size=1 then vals.toArray[0] else .tuple vals.toArray) w':=by
      rw [ji0,Array.mapM_eq_mapM_toList];simp [k4]
     have hob:RelF B w 0 (.only s.o) Act.bare w' F':=⟨h.below,h.hB,rfl,rfl,fun _=>trivial,h.ob,h.fr,h.dj⟩
     have hsp:=jvG k3 k2
     match ps,k1,hsp with
     |[],k1,hsp=>
      obtain rfl:vals=[]:=hsp;exact ⟨_,hrun,.tup [],s.o,F',hob,⟨[],by simp,rfl⟩,k1⟩
     |[(true,l)],k1,⟨v,vals',xs,e1,e2,e3,e4⟩=>
      obtain rfl:vals'=[]:=e4;subst e1;exact ⟨v,by simpa using hrun,.agg l,s.o,F',hob,⟨xs,by simpa using e3,e2⟩,k1⟩
     |[(false,[a0])],k1,⟨v,vals',xs,e1,e2,e3,e4⟩=>
      obtain rfl:vals'=[]:=e4;subst e1;obtain rfl:xs=[v]:=by simpa using e3
      obtain ⟨u,us',e5,e6,_⟩:=e2;cases e5;exact ⟨v,by simpa using hrun,.c a0,s.o,F',hob,e6,k1⟩
     |p::q::r,k1,hsp=>
      have hl:vals.length≠1:=by
       obtain ⟨_,vals',_,e1,_,_,e4⟩:=hsp;obtain ⟨_,vals'',_,e5,_,_,_⟩:=e4;subst e1 e5;simp
      have k1':R (.tup (p::q::r)) s.o:=by
       obtain ⟨b,l⟩:=p;cases b
       ·cases l with
        |nil=>exact k1
        |cons x l=>cases l<;>exact k1
       ·exact k1
      exact ⟨_,by rw [hrun,dif_neg (by simpa using hl)],.tup (p::q::r),s.o,F',hob,⟨vals,rfl,hsp⟩,k1'⟩
    refine ⟨⟨fn,hf,by rw [hb];rfl,hn⟩,fun B w F xs hF hv=>calls_of_wp hf hb (jaA (joz ps h1) (jo0 hF hv hN) hw fun e s a w' F' h hk=>?_)⟩
    cases e with
    |exit id=>exact hk.elim
    |normal=>
     obtain ⟨v,k1,av,o',F2,k2,k3,k4⟩:=fin h hk;exact ⟨h.df,v,k1,v,av,o',F2,rfl,k2,k3,k4⟩
    |ret=>
     obtain ⟨v,k1,av,o',F2,k2,k3,k4⟩:=fin h hk;exact ⟨h.df,v,k1,v,av,o',F2,rfl,k2,k3,k4⟩
   ·simp at hc
  ·simp at hc
 ·simp at hc
theorem qZ {f:FuncId} {fn:Func} {c:C} {args:List AV} {o:Nat→Ob} {rs:List R} {R:AV→(Nat→Ob)→Prop} (hf:P.funcs[f]?=some fn) (hc:fnC P fn=some (c,rs,N)) (hN:args.length≤N) (hw:wpC P β c (inlE rs R) (St.start args o)):Inl P f args o R:=jfV [] hf hc hN hw
end
section
variable {P:Program} {β:Nat} {s:St} {d:Option Nat} {g:Option (Nat×Bool)} {K:St→Prop} {Q:Ex→St→Prop}
def jix (o:Option (D×jm)) (k:D→jm→Prop):Prop:=match o with
 |some (d,η)=>k d η
 |none=>False
def jpX (o:Option D) (k:D→Prop):Prop:=match o with
 |some d=>k d
 |none=>False
theorem ownK_ (d:D) (η:jm) (k:D→jm→Prop):jix (some (d,η)) k=k d η:=(rfl)
theorem getK_ (d:D) (k:D→Prop):jpX (some d) k=k d:=(rfl)
theorem jcu (o:Option (D×jm)) (k:D→jm→Prop):(∃d η,o=some (d,η)∧k d η)=jix o k:=by
 cases o with
 |none=>simp [jix]
 |some p=>
  obtain ⟨d,η⟩:=p
  apply propext
  constructor
  ·rintro ⟨_,_,h,h2⟩;cases h;exact h2
  ·intro h;exact ⟨d,η,rfl,h⟩
theorem jay (d:D):D.get [] d=some d:=by cases d<;>rfl
theorem jxz (k c:Nat) (p:List Nat) (x:Value) (R:D→Prop):(∃d,Is s (.h k c p x) d∧R d)=jix ((s.o k).own c) fun d0 η=>η p=x∧jpX (D.get p d0) fun d=>d.isSl=true∧R d:=by
 apply propext
 rw [←jcu];constructor
 ·rintro ⟨d,⟨d0,η,h1,h2,h3,h4⟩,h5⟩;exact ⟨d0,η,h1,h2,by rw [h3];exact ⟨h4,h5⟩⟩
 ·rintro ⟨d0,η,h1,h2,h3⟩
  cases h:D.get p d0 with
  |none=>rw [h] at h3;exact h3.elim
  |some d=>rw [h] at h3;exact ⟨d,⟨d0,η,h1,h2,h,h3.1⟩,h3.2⟩
theorem jrT (d:D) (η:jm):(Ob.loose d η).own 0=some (d,η):=(rfl)
def ownC:Option Cell→Option (D×jm)
 |some (.own d η)=>some (d,η)
 |_=>none
theorem jw6 (b ty:Nat) (cs:List Cell) (c:Nat):(Ob.box b ty cs).own c=ownC cs[c]?:=by
 simp only [Ob.own,ownC];split<;>simp_all
theorem ownC_ (d:D) (η:jm):ownC (some (.own d η))=some (d,η):=(rfl)
theorem rm_o (k c n:Nat):(s.rm k c).o n=if n=k then (s.o k).rm c else s.o n:=(rfl)
theorem rm_t (k c n:Nat):(s.rm k c).t n=s.t n:=(rfl)
theorem jpz (d:D) (η:jm):(Ob.loose d η).rm 0=.none:=(rfl)
theorem juq (b ty:Nat) (cs:List Cell) (c:Nat):(Ob.box b ty cs).rm c=.box b ty (rmC cs c cs[c]?):=(rfl)
theorem jwW (cs:List Cell) (c:Nat) (d:D) (η:jm):rmC cs c (some (.own d η))=cs.set c (.a (.v (η []))):=(rfl)
theorem juB (k c:Nat) (p:List Nat) (x:Value):jvU d s K false (.c (.h k c p x))=jix ((s.o k).own c) fun d0 η=>η p=x∧jpX (D.get p d0) fun dd=>dd.isSl=true∧0<dd.size∧K (s.put d (.c (.v (.int .i64 dd.len)))):=by
 rw [jzs,jxz]
theorem jxG (size k c:Nat) (p:List Nat) (hx:Value) (kk:IntKind) (n:Int):iaK d s K size (.c (.h k c p hx)) (.c (.v (.int kk n)))=((0≤n∧jix ((s.o k).own c) fun d0 η=>η p=hx∧jpX (D.get p d0) fun dd=>dd.isSl=true∧dd.size=size∧n.toNat<dd.len)∧K (s.put d (.c (.ep k c p (n.toNat*size) hx)))):=by
 rw [iaK_h,jxz]
theorem jxt (agg:Bool) (n k c:Nat) (p:List Nat) (i:Nat) (x:Value):ldK d s K agg n (.c (.ep k c p i x))=jix ((s.o k).own c) fun d0 η=>η p=x∧jpX (D.get p d0) fun dd=>dd.isSl=true∧i+n≤dd.cells.length∧ldV agg (jeW k c p η i ((dd.cells.drop i).take n)) fun v=>K (s.put d v):=by
 apply propext
 rw [←jcu];simp only [ldK];constructor
 ·rintro ⟨d0,η,dd,h1,h2,h3,h4⟩;exact ⟨d0,η,h1,h2,by rw [h3];exact h4⟩
 ·rintro ⟨d0,η,h1,h2,h3⟩
  cases h:D.get p d0 with
  |none=>rw [h] at h3;exact h3.elim
  |some dd=>rw [h] at h3;exact ⟨d0,η,dd,h1,h2,h,h3⟩
theorem jtR (k c:Nat) (x:Value) (l:List A0) (R:List Cell→St→Prop):kM s (.h k c [] x::l) R=jix ((s.o k).own c) fun d η=>η []=x∧kM (s.rm k c) l (fun cs s'=>R (.own d η::cs) s'):=by
 rw [jym,jcu]
def jaO (a:AV) (n:Nat) (k:List A0→Prop):Prop:=∃l,a.cells=some l∧l.length=n∧k l
theorem js3 (l:List A0) (n:Nat) (k:List A0→Prop):jaO (.agg l) n k=(l.length=n∧k l):=by simp [jaO,AV.cells]
theorem jx2 (a:A0) (n:Nat) (k:List A0→Prop):jaO (.c a) n k=(a.c1=true∧1=n∧k [a]):=by
 simp only [jaO,AV.cells];cases h:a.c1<;>simp
def jv6 (s:St):List (Nat×Nat×X)→(List A0→Prop)→Prop
 |[],k=>k []
 |(_,size,x)::ps,k=>jaO (s.ev x) size fun l=>jv6 s ps fun r=>k (l++r)
theorem js5:∀(ps:List (Nat×Nat×X)) (k:List A0→Prop),(∃l,jqf s ps=some l∧k l)=jv6 s ps k
 |[],k=>by simp [jqf,jv6]
 |(o,size,x)::ps,k=>by
  apply propext
  simp only [jv6,jaO,jqf];constructor
  ·rintro ⟨l,h1,h2⟩
   split at h1
   ·rename_i l1 r h3 h4
    split at h1
    ·rename_i h5
     simp at h1;subst h1;refine ⟨l1,h3,h5,?_⟩;rw [←js5 ps];exact ⟨r,h4,h2⟩
    ·simp at h1
   ·simp at h1
  ·rintro ⟨l1,h3,h5,h6⟩
   rw [←js5 ps] at h6;obtain ⟨r,h7,h8⟩:=h6;exact ⟨l1++r,by rw [h3,h7];simp [h5],h8⟩
theorem jx3 (k:List A0→Prop):jv6 s [] k=k []:=(rfl)
theorem jvh (o size:Nat) (x:X) (ps:List (Nat×Nat×X)) (k:List A0→Prop):jv6 s ((o,size,x)::ps) k=jaO (s.ev x) size fun l=>jv6 s ps fun r=>k (l++r):=(rfl)
def jlV (s:St):List A0→List (Nat×Nat×X)→(List A0→Prop)→Prop
 |cs,[],k=>k cs
 |cs,(off,size,x)::ps,k=>jaO (s.ev x) size fun l=>off+size≤cs.length∧jlV s (kC cs off l) ps k
theorem jnj:∀(ps:List (Nat×Nat×X)) (cs:List A0) (k:List A0→Prop),(∃l,jgg s cs ps=some l∧k l)=jlV s cs ps k
 |[],cs,k=>by simp [jgg,jlV]
 |(o,size,x)::ps,cs,k=>by
  apply propext
  simp only [jlV,jaO,jgg];constructor
  ·rintro ⟨l,h1,h2⟩
   split at h1
   ·rename_i l1 h3
    split at h1
    ·rename_i h5
     exact ⟨l1,h3,h5.1,h5.2,by rw [←jnj ps];exact ⟨l,h1,h2⟩⟩
    ·simp at h1
   ·simp at h1
  ·rintro ⟨l1,h3,h5,h6,h7⟩
   rw [←jnj ps] at h7;obtain ⟨r,h8,h9⟩:=h7;exact ⟨r,by rw [h3];simp [h5,h6,h8],h9⟩
theorem juW (cs:List A0) (k:List A0→Prop):jlV s cs [] k=k cs:=(rfl)
theorem jsK (cs:List A0) (off size:Nat) (x:X) (ps:List (Nat×Nat×X)) (k:List A0→Prop):jlV s cs ((off,size,x)::ps) k=jaO (s.ev x) size fun l=>off+size≤cs.length∧jlV s (kC cs off l) ps k:=(rfl)
theorem jwN (zs:List Value) (ps:List (Nat×Nat×X)):qC P β ⟨d,g,.bld zs ps⟩ s K=jlV s (zs.map .v) ps fun l=>K (s.put d (.agg l)):=by
 have e:=jlK (P:=P) (β:=β) (s:=s) (d:=d) (g:=g) (K:=K) (i:=.bld zs ps) (G:=fun av=>∃l,jgg s (zs.map .v) ps=some l∧av=.agg l) rfl (by
  intro _ _ av os;simp only [Gen];constructor
  ·rintro ⟨l,h1,h2,h3⟩;exact ⟨⟨l,h1,h2⟩,h3⟩
  ·rintro ⟨⟨l,h1,h2⟩,h3⟩;exact ⟨l,h1,h2,h3⟩)
 rw [e,←jnj]
 apply propext
 constructor
 ·rintro ⟨_,⟨l,h1,rfl⟩,h2⟩;exact ⟨l,h1,h2⟩
 ·rintro ⟨l,h1,h2⟩;exact ⟨_,⟨l,h1,rfl⟩,h2⟩
def jqt (ks:List (Option (Nat×Nat))) (cs:List Cell) (k:List D→Prop):Prop:=∃ds,vN ks cs=some ds∧k ds
theorem jxV (ks:List (Option (Nat×Nat))) (k:List D→Prop):jqt ks [] k=k []:=by simp [jqt,vN]
theorem dat_v (ks:List (Option (Nat×Nat))) (x:Value) (l:List Cell) (k:List D→Prop):jqt ks (.a (.v x)::l) k=jqt ks.tail l fun r=>k (jm0 (ks.head?.getD none) x::r):=by
 simp only [jqt,vN];cases vN ks.tail l<;>simp
theorem jxU (ks:List (Option (Nat×Nat))) (dd:D) (η:jm) (l:List Cell) (k:List D→Prop):jqt ks (.own dd η::l) k=jqt ks.tail l fun r=>k (dd::r):=by
 simp only [jqt,vN];cases vN ks.tail l<;>simp
theorem jzq (x:Value):jm0 none x=.val x:=(rfl)
theorem jwL (e size n:Nat) (ks:List (Option (Nat×Nat))) (ps:List (Nat×Nat×X)):qC P β ⟨d,g,.bsl e size n ks ps⟩ s K=jv6 s ps fun l=>kM s l fun cs s'=>jqt ks cs fun ds=>∀η,K ((s'.addO [(100*(β+d.getD 0),.loose (.sl size e ds) η)]).put d (.c (.h (100*(β+d.getD 0)) 0 [] (η [])))):=by
 rw [←js5];rfl
theorem jrg (ty:Nat) (zs:List Value):qC P β ⟨d,g,.alloc ty zs⟩ s K=∀b,K ((s.addO [(100*(β+d.getD 0),.box b ty (zs.map fun z=>.a (.v z)))]).put d (.c (.bp (100*(β+d.getD 0)) 0 b))):=by
 apply propext
 constructor
 ·rintro ⟨_,h⟩ b
  obtain ⟨_,_,⟨rfl,rfl⟩,h2⟩:=h ⟨b,fun _ _=>undef⟩
  exact h2
 ·intro h
  exact ⟨.c (.val undef),fun st=>⟨_,_,⟨rfl,rfl⟩,h st.blk⟩⟩
def obK (o:Ob) (b:Nat) (k:Nat→List Cell→Prop):Prop:=match o with
 |.box b' ty ds=>b'=b∧k ty ds
 |_=>False
theorem obK_ (b b' ty:Nat) (ds:List Cell) (k:Nat→List Cell→Prop):obK (.box b' ty ds) b k=(b'=b∧k ty ds):=(rfl)
theorem ob_ex (o:Ob) (b:Nat) (k:Nat→List Cell→Prop):(∃ty ds,o=.box b ty ds∧k ty ds)=obK o b k:=by
 cases o with
 |box b' ty ds=>
  simp only [obK]
  apply propext
  constructor
  ·rintro ⟨_,_,h,h2⟩;cases h;exact ⟨by trivial,h2⟩
  ·rintro ⟨rfl,h2⟩;exact ⟨_,_,rfl,h2⟩
 |_=>simp [obK]
def stA (s':St) (K:St→Prop) (n:Nat) (ks:List (Option (Nat×Nat))) (cs:List Cell):AV→Prop
 |.c (.bp g c b)=>obK (s'.o g) b fun ty ds=>c+n≤ds.length∧K (s'.setO g (.box b ty (kC ds c cs)))
 |.c (.ep g c p k hx)=>0<n∧jqt ks cs fun ds=>jix ((s'.o g).own c) fun d0 η=>η p=hx∧jpX (D.get p d0) fun dd=>dd.isSl=true∧k+n≤dd.cells.length∧
  stH (kf ds&&kf ((dd.cells.drop k).take n)) p k n η fun η'=>K (s'.setO g ((s'.o g).putOwn c (D.put p k ds d0) η'))
 |_=>False
theorem jyq (s':St) (n k c b:Nat) (ks:List (Option (Nat×Nat))) (cs:List Cell):stA s' K n ks cs (.c (.bp k c b))=obK (s'.o k) b fun ty ds=>c+n≤ds.length∧K (s'.setO k (.box b ty (kC ds c cs))):=(rfl)
theorem jyp (s':St) (n k c i:Nat) (p:List Nat) (hx:Value) (ks:List (Option (Nat×Nat))) (cs:List Cell):stA s' K n ks cs (.c (.ep k c p i hx))=(0<n∧jqt ks cs fun ds=>jix ((s'.o k).own c) fun d0 η=>η p=hx∧jpX (D.get p d0) fun dd=>dd.isSl=true∧i+n≤dd.cells.length∧
 stH (kf ds&&kf ((dd.cells.drop i).take n)) p i n η fun η'=>K (s'.setO k ((s'.o k).putOwn c (D.put p i ds d0) η'))):=rfl
theorem jyK (n:Nat) (ks:List (Option (Nat×Nat))) (a x:X):qC P β ⟨none,g,.st n ks a x⟩ s K=jaO (s.ev x) n fun l=>kM s l fun cs s'=>stA s' K n ks cs (s.ev a):=by
 have e:qC P β ⟨none,g,.st n ks a x⟩ s K=((none:Option Nat)=none∧∃l,(s.ev x).cells=some l∧l.length=n∧kM s l fun cs s'=>match s.ev a with
  |.c (.bp g c b)=>∃ty ds,s'.o g=.box b ty ds∧c+n≤ds.length∧K (s'.setO g (.box b ty (kC ds c cs)))
  |.c (.ep g c p k hx)=>0<n∧∃ds,vN ks cs=some ds∧∃d0 η dd,(s'.o g).own c=some (d0,η)∧η p=hx∧D.get p d0=some dd∧dd.isSl=true∧k+n≤dd.cells.length∧
   stH (kf ds&&kf ((dd.cells.drop k).take n)) p k n η fun η'=>K (s'.setO g ((s'.o g).putOwn c (D.put p k ds d0) η'))
  |_=>False):=rfl
 rw [e];simp only [true_and,jaO]
 congr 1
 funext l
 congr 2
 congr 1
 funext cs s'
 cases hv:s.ev a with
 |c y=>
  cases y with
  |bp g c b=>simp only [stA,←ob_ex]
  |ep g c p k hx=>
   simp only [stA,jqt]
   apply propext
   constructor
   ·rintro ⟨h0,ds,h1,d0,η,dd,h2,h3,h4,h5,h6,h7⟩
    exact ⟨h0,ds,h1,by rw [←jcu];exact ⟨d0,η,h2,h3,by rw [h4];exact ⟨h5,h6,h7⟩⟩⟩
   ·rintro ⟨h0,ds,h1,h2⟩
    rw [←jcu] at h2;obtain ⟨d0,η,h3,h4,h5⟩:=h2;cases hg:D.get p d0 with
    |none=>rw [hg] at h5;exact h5.elim
    |some dd=>rw [hg] at h5;exact ⟨h0,ds,h1,d0,η,dd,h3,h4,hg,h5⟩
  |_=>simp [stA]
 |_=>simp [stA]
theorem jlh (d0 d1:D) (η η':jm):(Ob.loose d0 η).putOwn 0 d1 η'=.loose d1 η':=(rfl)
theorem jpq (b ty:Nat) (cs:List Cell) (c:Nat) (d1:D) (η':jm):(Ob.box b ty cs).putOwn c d1 η'=.box b ty (cs.set c (.own d1 η')):=(rfl)
theorem jq9 {α:Type} (l:List α) (c:Nat):kC l c []=l:=(rfl)
theorem jpf {α:Type} (l:List α) (c:Nat) (x:α) (r:List α):kC l c (x::r)=kC (l.set c x) (c+1) r:=(rfl)
theorem jwP (e size bytes:Nat) (x y:X):qC P β ⟨d,g,.app e size bytes x y⟩ s K=jtF s size (s.ev y) fun ys s1=>jfI s1 e size (s.ev x) fun xs s2=>xs.length/size+ys.length/size≤maxLen∧(xs.length/size+ys.length/size)*bytes≤140737488355328∧
 ∀η,K ((s2.addO [(100*(β+d.getD 0),.loose (.sl size e (xs++ys)) η)]).put d (.c (.h (100*(β+d.getD 0)) 0 [] (η [])))):=rfl
theorem jjI (e:Nat) (x y:X):qC P β ⟨d,g,.apps e x y⟩ s K=∃b,s.ev y=.c (.v (.string b))∧jfI s e 1 (s.ev x) fun xs s2=>xs.length+b.size≤140737488355328∧
 ∀η,K ((s2.addO [(100*(β+d.getD 0),.loose (.sl 1 e (xs++strCells b)) η)]).put d (.c (.h (100*(β+d.getD 0)) 0 [] (η [])))):=rfl
theorem jyr (size:Nat) (dd:D) (R:List D→St→Prop):jtF s size (.c (.ro dd)) R=(dd.isSl=true∧dd.size=size∧kf dd.cells=true∧R dd.cells s):=(rfl)
theorem src_h (size k c:Nat) (p:List Nat) (x:Value) (R:List D→St→Prop):jtF s size (.c (.h k c p x)) R=jix ((s.o k).own c) fun d0 η=>η p=x∧jpX (D.get p d0) fun dd=>dd.isSl=true∧dd.size=size∧(if kf dd.cells=true then R dd.cells s else p=[]∧jiy dd.cells=true∧R dd.cells (s.rm k c)):=by
 rw [←jxz];rfl
theorem ju5 (e size:Nat) (R:List D→St→Prop):jfI s e size (.c (.v (.slice none 0 0))) R=R [] s:=(rfl)
def slK (dd:D) (e size:Nat) (k:List D→Prop):Prop:=∃cs,dd=.sl size e cs∧k cs
theorem jq3 (e size e' size':Nat) (cs:List D) (k:List D→Prop):slK (.sl size' e' cs) e size k=((size'=size∧e'=e)∧k cs):=by
 simp only [slK]
 apply propext
 constructor
 ·rintro ⟨_,h,h2⟩;cases h;exact ⟨⟨by trivial,by trivial⟩,h2⟩
 ·rintro ⟨⟨rfl,rfl⟩,h⟩;exact ⟨_,rfl,h⟩
theorem jzS (e size k c:Nat) (x:Value) (R:List D→St→Prop):jfI s e size (.c (.h k c [] x)) R=jix ((s.o k).own c) fun d0 η=>slK d0 e size fun cs=>η []=x∧R cs (s.rm k c):=by
 apply propext
 rw [←jcu];simp only [jfI,slK];constructor
 ·rintro (⟨_,cs,η,h1,h2,h3⟩|⟨_,h,_⟩)
  ·exact ⟨_,η,h1,cs,rfl,h2,h3⟩
  ·cases h
 ·rintro ⟨_,η,h1,cs,rfl,h2,h3⟩;exact .inl ⟨trivial,cs,η,h1,h2,h3⟩
theorem jsH:kf []=true:=(rfl)
theorem jp2 (u:Value) (l:List D):kf (.val u::l)=(u.oneCell'&&kf l):=(rfl)
theorem va:∀(l m:List D),kf (l++m)=(kf l&&kf m)
 |[],_=>by simp [kf]
 |.val u::l,m=>by simp [kf,va l m,Bool.and_assoc]
 |.sl _ _ _::l,m=>by simp [kf]
theorem jwD {e size bytes:Nat} {zs:List D} {l c:X}:qC P β ⟨d,g,.mks e size bytes zs l c⟩ s K=∃(k k':IntKind) (n:Nat),s.ev l=.c (.v (.int k (n:Int)))∧s.ev c=.c (.v (.int k' (n:Int)))∧bytes*n≤281474976710656∧n≤maxLen∧
 ∀η,K ((s.addO [(100*(β+d.getD 0),.loose (.sl size e ((List.replicate n zs).flatten)) η)]).put d (.c (.h (100*(β+d.getD 0)) 0 [] (η [])))):=by
 apply propext
 constructor
 ·rintro ⟨_,h⟩
  obtain ⟨_,_,⟨k,k',n,h1,h2,h3,h4,rfl,rfl⟩,_⟩:=h ⟨0,fun _ _=>undef⟩
  refine ⟨k,k',n,h1,h2,h3,h4,fun η=>?_⟩
  obtain ⟨_,_,⟨k1,k1',n1,h1',h2',_,_,rfl,rfl⟩,h6⟩:=h ⟨0,fun _=>η⟩
  rw [h1] at h1';cases h1';exact h6
 ·rintro ⟨k,k',n,h1,h2,h3,h4,h5⟩
  exact ⟨.c (.val undef),fun st=>⟨_,_,⟨k,k',n,h1,h2,h3,h4,rfl,rfl⟩,h5 (st.η 0)⟩⟩
def bnd (s:St) (x:Option X) (dflt:Nat) (k:Nat→Prop):Prop:=match x with
 |none=>k dflt
 |some x=>∃kk n,s.ev x=.c (.v (.int kk n))∧0≤n∧k n.toNat
def bndA (a:AV) (k:Nat→Prop):Prop:=match a with
 |.c (.v (.int _ n))=>0≤n∧k n.toNat
 |_=>False
theorem bndA_ (kk:IntKind) (n:Int) (k:Nat→Prop):bndA (.c (.v (.int kk n))) k=(0≤n∧k n.toNat):=(rfl)
theorem bnd_n (dflt:Nat) (k:Nat→Prop):bnd s none dflt k=k dflt:=(rfl)
theorem bnd_s (x:X) (dflt:Nat) (k:Nat→Prop):bnd s (some x) dflt k=bndA (s.ev x) k:=by
 simp only [bnd]
 apply propext
 constructor
 ·rintro ⟨kk,n,h1,h2⟩;rw [h1];exact h2
 ·intro h
  unfold bndA at h;split at h
  ·rename_i kk n he;exact ⟨kk,n,he,h⟩
  ·exact h.elim
theorem jh6 (x:Option X) (dflt:Nat) (R:Nat→Prop):(∃l,jeC s x dflt l∧R l)=bnd s x dflt R:=by
 apply propext
 cases x with
 |none=>constructor
        ·rintro ⟨l,rfl,h⟩;exact h
        ·intro h;exact ⟨_,rfl,h⟩
 |some x=>
  constructor
  ·rintro ⟨l,⟨k,h1⟩,h2⟩;exact ⟨k,l,h1,Int.natCast_nonneg _,by simpa using h2⟩
  ·rintro ⟨k,n,h1,h2,h3⟩;exact ⟨n.toNat,⟨k,by rw [h1,Int.toNat_of_nonneg h2]⟩,h3⟩
def slA (d:Option Nat) (s:St) (K:St→Prop) (size:Nat) (lo hi:Option X):AV→Prop
 |.c (.v (.string b))=>size=0∧bnd s lo 0 fun l=>bnd s hi b.size fun h=>(l≤h∧h≤b.size)∧K (s.put d (.c (.v (.string (b.extract l h)))))
 |.c (.ro dd)=>(0<size∧dd.isSl=true∧dd.size=size)∧bnd s lo 0 fun l=>bnd s hi dd.len fun h=>(l≤h∧h≤dd.len)∧K (s.put d (.c (.ro (dd.sub l h))))
 |.c (.h k c p x)=>0<size∧jix ((s.o k).own c) fun d0 η=>η p=x∧jpX (D.get p d0) fun dd=>(dd.isSl=true∧dd.size=size)∧bnd s lo 0 fun l=>bnd s hi dd.len fun h=>(l≤h∧h≤dd.len)∧K (s.put d (.c (.hs k c p x size l (h-l))))
 |.c (.hs k c p x sz lo0 m)=>((∃dd,Is s (.hs k c p x sz lo0 m) dd)∧sz=size)∧bnd s lo 0 fun l=>bnd s hi m fun h=>(l≤h∧h≤m)∧K (s.put d (.c (.hs k c p x size (lo0+l) (h-l))))
 |_=>False
theorem jyL (size:Nat) (x:X) (lo hi:Option X):qC P β ⟨d,g,.sl size x lo hi⟩ s K=slA d s K size lo hi (s.ev x):=by
 have e:=jlK (P:=P) (β:=β) (s:=s) (d:=d) (g:=g) (K:=K) (i:=.sl size x lo hi) (G:=fun av=>∃l h,jeC s lo 0 l∧l≤h∧(match s.ev x with
  |.c (.v (.string b))=>size=0∧jeC s hi b.size h∧h≤b.size∧av=.c (.v (.string (b.extract l h)))
  |.c (.ro d)=>0<size∧d.isSl=true∧d.size=size∧jeC s hi d.len h∧h≤d.len∧av=.c (.ro (d.sub l h))
  |.c (.h g c p hx)=>0<size∧(∃d,Is s (.h g c p hx) d∧d.size=size∧jeC s hi d.len h∧h≤d.len)∧av=.c (.hs g c p hx size l (h-l))
  |.c (.hs g c p hx sz lo m)=>(∃d,Is s (.hs g c p hx sz lo m) d)∧sz=size∧jeC s hi m h∧h≤m∧av=.c (.hs g c p hx size (lo+l) (h-l))
  |_=>False)) rfl (by
  intro _ _ av os;simp only [Gen];constructor
  ·rintro ⟨l,h,h1,h2,h3,h4⟩;exact ⟨⟨l,h,h1,h2,h3⟩,h4⟩
  ·rintro ⟨⟨l,h,h1,h2,h3⟩,h4⟩;exact ⟨l,h,h1,h2,h3,h4⟩)
 rw [e]
 apply propext
 cases hv:s.ev x with
 |c y=>
  cases y with
  |v u=>
   cases u with
   |string b=>
    simp only [slA,←jh6];constructor
    ·rintro ⟨_,⟨l,h,h1,h2,h3,h4,h5,rfl⟩,h6⟩;exact ⟨h3,l,h1,h,h4,⟨h2,h5⟩,h6⟩
    ·rintro ⟨h3,l,h1,h,h4,⟨h2,h5⟩,h6⟩;exact ⟨_,⟨l,h,h1,h2,h3,h4,h5,rfl⟩,h6⟩
   |_=>simp [slA]
  |ro dd=>
   simp only [slA,←jh6];constructor
   ·rintro ⟨_,⟨l,h,h1,h2,h3,h4,h5,h6,h7,rfl⟩,h8⟩;exact ⟨⟨h3,h4,h5⟩,l,h1,h,h6,⟨h2,h7⟩,h8⟩
   ·rintro ⟨⟨h3,h4,h5⟩,l,h1,h,h6,⟨h2,h7⟩,h8⟩;exact ⟨_,⟨l,h,h1,h2,h3,h4,h5,h6,h7,rfl⟩,h8⟩
  |h k c p hx=>
   simp only [slA];constructor
   ·rintro ⟨_,⟨l,h,h1,h2,h3,⟨dd,⟨d0,η,k1,k2,k3,k4⟩,k5,k6,k7⟩,rfl⟩,h8⟩
    refine ⟨h3,?_⟩;rw [←jcu];refine ⟨d0,η,k1,k2,?_⟩;rw [k3];refine ⟨⟨k4,k5⟩,?_⟩;rw [←jh6];refine ⟨l,h1,?_⟩;rw [←jh6];exact ⟨h,k6,⟨h2,k7⟩,h8⟩
   ·rintro ⟨h3,h4⟩
    rw [←jcu] at h4;obtain ⟨d0,η,k1,k2,k3⟩:=h4;cases hg:D.get p d0 with
    |none=>rw [hg] at k3;exact k3.elim
    |some dd=>
     rw [hg] at k3;obtain ⟨⟨k4,k5⟩,k6⟩:=k3;rw [←jh6] at k6;obtain ⟨l,h1,k7⟩:=k6;rw [←jh6] at k7;obtain ⟨h,k8,⟨h2,k9⟩,h8⟩:=k7;exact ⟨_,⟨l,h,h1,h2,h3,⟨dd,⟨d0,η,k1,k2,hg,k4⟩,k5,k8,k9⟩,rfl⟩,h8⟩
  |hs k c p hx sz lo0 m=>
   simp only [slA,←jh6];constructor
   ·rintro ⟨_,⟨l,h,h1,h2,h3,h4,h5,h6,rfl⟩,h7⟩;exact ⟨⟨h3,h4⟩,l,h1,h,h5,⟨h2,h6⟩,h7⟩
   ·rintro ⟨⟨h3,h4⟩,l,h1,h,h5,⟨h2,h6⟩,h7⟩;exact ⟨_,⟨l,h,h1,h2,h3,h4,h5,h6,rfl⟩,h7⟩
  |_=>simp [slA]
 |_=>simp [slA]
theorem jwv (size:Nat) (lo hi:Option X) (b:ByteArray):slA d s K size lo hi (.c (.v (.string b)))=(size=0∧bnd s lo 0 fun l=>bnd s hi b.size fun h=>(l≤h∧h≤b.size)∧K (s.put d (.c (.v (.string (b.extract l h)))))):=(rfl)
theorem jyt (size:Nat) (lo hi:Option X) (dd:D):slA d s K size lo hi (.c (.ro dd))=((0<size∧dd.isSl=true∧dd.size=size)∧bnd s lo 0 fun l=>bnd s hi dd.len fun h=>(l≤h∧h≤dd.len)∧K (s.put d (.c (.ro (dd.sub l h))))):=(rfl)
theorem slA_h (size:Nat) (lo hi:Option X) (k c:Nat) (p:List Nat) (x:Value):slA d s K size lo hi (.c (.h k c p x))=(0<size∧jix ((s.o k).own c) fun d0 η=>η p=x∧jpX (D.get p d0) fun dd=>(dd.isSl=true∧dd.size=size)∧bnd s lo 0 fun l=>bnd s hi dd.len fun h=>(l≤h∧h≤dd.len)∧K (s.put d (.c (.hs k c p x size l (h-l))))):=(rfl)
theorem jyu (size:Nat) (lo hi:Option X) (k c:Nat) (p:List Nat) (x:Value) (sz lo0 m:Nat):slA d s K size lo hi (.c (.hs k c p x sz lo0 m))=(((∃dd,Is s (.hs k c p x sz lo0 m) dd)∧sz=size)∧bnd s lo 0 fun l=>bnd s hi m fun h=>(l≤h∧h≤m)∧K (s.put d (.c (.hs k c p x size (lo0+l) (h-l))))):=(rfl)
theorem jzv (k c:Nat) (p:List Nat) (x:Value) (sz lo n:Nat) (R:D→Prop):(∃d,Is s (.hs k c p x sz lo n) d∧R d)=jix ((s.o k).own c) fun d0 η=>η p=x∧jpX (D.get p d0) fun dd=>(dd.isSl=true∧dd.size=sz∧0<sz∧lo+n≤dd.len)∧R (dd.sub lo (lo+n)):=by
 apply propext
 rw [←jcu];constructor
 ·rintro ⟨d,⟨d0,η,dd,h1,h2,h3,h4,h5,h6,h7,rfl⟩,h8⟩;exact ⟨d0,η,h1,h2,by rw [h3];exact ⟨⟨h4,h5,h6,h7⟩,h8⟩⟩
 ·rintro ⟨d0,η,h1,h2,h3⟩
  cases h:D.get p d0 with
  |none=>rw [h] at h3;exact h3.elim
  |some dd=>rw [h] at h3;obtain ⟨⟨h4,h5,h6,h7⟩,h8⟩:=h3;exact ⟨_,⟨d0,η,dd,h1,h2,h,h4,h5,h6,h7,rfl⟩,h8⟩
theorem jys (size k c:Nat) (p:List Nat) (x:Value) (sz lo n:Nat) (R:List D→St→Prop):jtF s size (.c (.hs k c p x sz lo n)) R=jix ((s.o k).own c) fun d0 η=>η p=x∧jpX (D.get p d0) fun dd=>(dd.isSl=true∧dd.size=sz∧0<sz∧lo+n≤dd.len)∧(dd.sub lo (lo+n)).size=size∧kf (dd.sub lo (lo+n)).cells=true∧R (dd.sub lo (lo+n)).cells s:=
 jzv (s:=s) k c p x sz lo n fun d=>d.size=size∧kf d.cells=true∧R d.cells s
theorem jxs (k c:Nat) (p:List Nat) (x:Value) (sz lo n:Nat):jvU d s K false (.c (.hs k c p x sz lo n))=((∃dd,Is s (.hs k c p x sz lo n) dd)∧K (s.put d (.c (.v (.int .i64 n))))):=by
 rw [jr6]
 apply propext
 constructor
 ·rintro ⟨_,⟨h1,rfl⟩,h2⟩;exact ⟨h1,h2⟩
 ·rintro ⟨h1,h2⟩;exact ⟨_,⟨h1,rfl⟩,h2⟩
theorem jzA (size k c:Nat) (p:List Nat) (hx:Value) (sz lo m:Nat) (kk:IntKind) (n:Int):iaK d s K size (.c (.hs k c p hx sz lo m)) (.c (.v (.int kk n)))=((0≤n∧(∃dd,Is s (.hs k c p hx sz lo m) dd)∧sz=size∧n.toNat<m)∧K (s.put d (.c (.ep k c p ((lo+n.toNat)*size) hx)))):=(rfl)
theorem ret_r (rs:List R) (rt:RT):jwY rs rt .ret s=jqv rs rt s:=(rfl)
def St.n (s:St) (i:Nat):Nat:=match s.t i with|.c (.v (.int _ n))=>n.toNat|_=>0
theorem jdv {i:Nat} {k:IntKind} {n:Int} (h:s.t i=.c (.v (.int k n))):s.n i=n.toNat:=by simp [St.n,h]
theorem jg {x:Int} (h:-9223372036854775808≤x) (h':x<9223372036854775808):IntKind.i64.wrap x=x:=IntWalk.i64_in _ (by omega)
theorem is_v (x:Value):Is s (.v x) (.val x)=True:=by simp [Is]
theorem is_ro (d:D):Is s (.ro d) d=True:=by simp [Is]
theorem jvV (size:Nat) (ty:TypeId):Is s (.v (.slice none 0 0)) (.sl size ty [])=True:=by simp [Is]
theorem jxA:IsL s [] []=True:=(rfl)
theorem juF (a:A0) (l:List A0) (d:D) (ds:List D):IsL s (a::l) (d::ds)=(Is s a d∧IsL s l ds):=(rfl)
theorem jvs:zn s [] []=True:=(rfl)
theorem jtv (a:AV) (l:List AV) (v:View) (vs:List View):zn s (a::l) (v::vs)=(jnu s a v∧zn s l vs):=(rfl)
theorem arg_c (a:A0) (d:D):jnu s (.c a) (.c d)=Is s a d:=(rfl)
theorem jx8 (l:List A0) (ds:List D):jnu s (.agg l) (.agg ds)=IsL s l ds:=(rfl)
theorem is_h0 (k c:Nat) (x:Value) (d:D):Is s (.h k c [] x) d=jix ((s.o k).own c) fun d0 η=>d0=d∧η []=x∧d.isSl=true:=by
 apply propext
 rw [←jcu];simp only [Is,jay];constructor
 ·rintro ⟨d0,η,h1,h2,h3,h4⟩;cases h3;exact ⟨_,η,h1,rfl,h2,h4⟩
 ·rintro ⟨_,η,h1,rfl,h2,h3⟩;exact ⟨_,η,h1,h2,rfl,h3⟩
theorem zz {k c:Nat} {x:Value} {ty:Nat} {cs:List D} {η:jm} {bs:List UInt8} (h1:(s.o k).own c=some (.sl 1 ty cs,η)) (h2:η []=x) (h3:cs=bs.map kj) (hk:K (s.put d (.c (.v (.string ⟨bs.toArray⟩))))):cvK d s K .text (.c (.h k c [] x)):=by
 subst h3;exact ⟨_,⟨_,ty,bs,rfl,⟨_,η,h1,h2,jay _,rfl⟩,rfl⟩,hk⟩
end
theorem ju2 (s:Nat) (t:TypeId) (cs:List D):(D.sl s t cs).size=s:=(rfl)
theorem jsY (s:Nat) (t:TypeId) (cs:List D):(D.sl s t cs).cells=cs:=(rfl)
theorem jzP (s:Nat) (t:TypeId) (cs:List D):(D.sl s t cs).isSl=true:=(rfl)
theorem jzR (v:Value) (g:Nat) (η:jm):(D.val v).obj g η=[]:=(rfl)
theorem jzQ (v:Value) (g c:Nat) (p:List Nat) (η:jm):(D.val v).toOwn g c p η=.v v:=(rfl)
theorem jxP (s:Nat) (t:TypeId) (cs:List D) (l h:Nat):(D.sl s t cs).sub l h=.sl s t ((cs.drop (l*s)).take ((h-l)*s)):=(rfl)
attribute [go_sem] ju2 jsY jzP jzR jzQ jxP jwe jwS jwQ jwR jyR jyS jyT jyU jyV jy3 jy4 jy5 jy6 jsg jpT jsh jpU jxw jxx jwA I.looks AV.looks A0.looks AV.ids A0.ids List.flatMap_cons List.flatMap_nil List.append_nil List.contains_cons List.contains_nil Bool.or_false Bool.or_true Bool.or_self Bool.false_or Bool.true_or ite_true ite_false jyL jwv jyt slA_h jyu bnd_n bnd_s bndA_ jys jxs jzA jzq jlh jpq List.tail_cons List.head?_cons Nat.zero_add jtK jyf jjs jvy jtL jwd jqy jqz thn_n thn_e thn_r blk_n blk_r blk_e juc jrf jwG jwH jwI jwJ jwC jub jzb jyP jzF jzH jzG jyM jzt jzu jxt ldB_ ldV_t ldV_f jyN jzz jxG jwE jxr juA juC juB jwO jzZ jvm jvl jtb jyJ jwj jyQ jxW jwK extK_ jzI jzJ jua jyC jwM jvj jwL jwN jrg jyK jyq jwP jyr src_h ju5 jzS jq3 ownK_ getK_ jay jrT jw6 ownC_ rm_o rm_t jpz juq jwW obK_ js3 jx2 jx3 jvh juW jsK jxV dat_v jxU jq9 jpf jsH jp2 va jnA jyl jwl jtR one_i one_b one_s one_n A0.c1 ev_t ev_i ev_b ev_s ev_n put_t put_o jyG jyH jvv jtD jzw View.av jyW juJ jaM jdS ret_r is_v is_ro jvV jxA juF jvs jtv arg_c jx8 is_h0 RT.flat jkI RT.av jzf jz5 List.map_cons List.map_nil List.length_cons List.length_nil List.take_succ_cons List.take_zero List.drop_succ_cons List.drop_zero List.getElem?_cons_zero List.getElem?_cons_succ List.set_cons_zero List.set_cons_succ List.cons_append List.nil_append Option.getD_some Nat.lt_add_one and_true true_and and_self forall_const imp_self implies_true ge_iff_le gt_iff_lt decide_true decide_false Bool.not_true Bool.not_false Bool.and_self Bool.false_eq_true Int.toNat_natCast Int.natCast_nonneg not_false_eq_true ne_eq
attribute [go_sem_proc] Nat.reduceEqDiff Nat.reduceMul Nat.reduceAdd Nat.reduceLeDiff Nat.reduceLT Nat.reduceBEq Nat.reduceSub reduceCtorEq Int.reduceEq
attribute [go_sem_proc↓] reduceIte
end Go.Proofs.Ytmnpailnelmpiaa
