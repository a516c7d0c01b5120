/- Parts. -/
import Derived.Test.YtmnpailnelmpiaaGreatQE4g
import Derived.LoopN
set_option linter.unusedSimpArgs false
set_option linter.unusedVariables false
namespace Go.Proofs.YtmnpailnelmpiaaGreat
open Go.RowKit Go.Sort
def Ex.to:Ex→Exit
 |.normal=>.normal
 |.exit id=>.exit id
 |.ret=>.ret
section
variable {P:Program} {β B N:Nat} {w w0:World} {s:St} {a:Act} {F:Nat→List Nat}
theorem qR {c:Code} {c0:C} (h:comp P N c=some c0):match c0 with
 |.skip=>c=.skip
 |.reg is=>∃id ops,c=.region id ops false∧jjl P N ops ops.toList=some is
 |.dreg t=>∃id ops,c=.region id ops true∧jwq P N ops=some t
 |.seq a b=>∃x y,c=.seq x y∧comp P N x=some a∧comp P N y=some b
 |.cond x a b=>∃x' y z,c=.cond x' y z∧jQ x'=some x∧comp P N y=some a∧comp P N z=some b
 |.blk id a=>∃x,c=.block id x∧comp P N x=some a
 |.loop a=>∃x,c=.loop x∧comp P N x=some a
 |.exit id=>c=.exit id
 |.ret=>c=.ret
 |.gh _=>False:=by
 cases c with
 |skip=>simp [comp] at h;subst h;rfl
 |region id ops d=>
  cases d with
  |true=>simp only [comp,Option.map_eq_some_iff] at h;obtain ⟨t,h1,rfl⟩:=h;exact ⟨_,_,rfl,h1⟩
  |false=>simp only [comp,Option.map_eq_some_iff] at h;obtain ⟨t,h1,rfl⟩:=h;exact ⟨_,_,rfl,h1⟩
 |seq x y=>
  simp only [comp] at h;split at h
  ·rename_i x' y' h1 h2;simp at h;subst h;exact ⟨_,_,rfl,h1,h2⟩
  ·simp at h
 |cond x y z=>
  simp only [comp] at h;split at h
  ·rename_i x' y' z' h1 h2 h3;simp at h;subst h;exact ⟨_,_,_,rfl,h1,h2,h3⟩
  ·simp at h
 |block id x=>simp only [comp,Option.map_eq_some_iff] at h;obtain ⟨t,h1,rfl⟩:=h;exact ⟨_,rfl,h1⟩
 |loop x=>simp only [comp,Option.map_eq_some_iff] at h;obtain ⟨t,h1,rfl⟩:=h;exact ⟨_,rfl,h1⟩
 |exit id=>simp [comp] at h;subst h;rfl
 |ret=>simp [comp] at h;subst h;rfl
 |_=>simp [comp] at h
theorem jaV:∀{c':C} {c:Code} {s:St} {a:Act} {w:World} {F:Nat→List Nat} {Qc:Ex→St→Prop} {Q:Exit→Act→World→Prop},
 comp P N c=some c'.er→RelF B w0 N s a w F→wpC P β c' Qc s→(∀e s a w F,RelF B w0 N s a w F→Qc e s→Q e.to a w)→c.wp P Q a w
 |.gh x,c,s,a,w,F,Qc,Q,hc,h,hw,hQ=>by
  obtain ⟨s',F',h3,h2⟩:=hw _ _ _ _ _ _ h;exact jaV (c':=x) hc h3 h2 hQ
 |.skip,c,s,a,w,F,Qc,Q,hc,h,hw,hQ=>by
  have e:c=.skip:=qR hc;subst e;exact wp_skip (hQ .normal _ _ _ _ h hw)
 |.dreg t,c,s,a,w,F,Qc,Q,hc,h,hw,hQ=>by
  obtain ⟨id,ops,rfl,h1⟩:=qR hc;exact jyL h h1 hw fun s a w F h hk=>hQ .normal _ _ _ _ h hk
 |.reg is,c,s,a,w,F,Qc,Q,hc,h,hw,hQ=>by
  obtain ⟨id,ops,rfl,h1⟩:=qR hc;exact wp_region_list (joO (fun s a w F h hk=>hQ .normal _ _ _ _ h hk) h1 h hw)
 |.seq x' y',c,s,a,w,F,Qc,Q,hc,h,hw,hQ=>by
  obtain ⟨x,y,rfl,h1,h2⟩:=qR hc;refine wp_seq (jaV h1 h hw fun e s a w F h hk=>?_)
  cases e with
  |normal=>exact jaV h2 h hk hQ
  |exit id=>exact hQ (.exit id) _ _ _ _ h hk
  |ret=>exact hQ .ret _ _ _ _ h hk
 |.cond x' y' z',c,s,a,w,F,Qc,Q,hc,h,hw,hQ=>by
  obtain ⟨x,y,z,rfl,h1,h2,h3⟩:=qR hc;obtain ⟨t,h4,h5,h6⟩:=hw;exact wp_cond_split (jhB h h1 h4) (fun ht=>jaV h2 h (h5 ht) hQ) (fun ht=>jaV h3 h (h6 ht) hQ)
 |.blk id x',c,s,a,w,F,Qc,Q,hc,h,hw,hQ=>by
  obtain ⟨x,rfl,h1⟩:=qR hc;refine wp_block (jaV h1 h hw fun e s a w F h hk=>?_)
  cases e with
  |normal=>exact hQ .normal _ _ _ _ h hk
  |exit id'=>
   simp only [Ex.inBlk] at hk;simp only [Ex.to,Exit.inBlock];split
   ·rename_i e;rw [if_pos e] at hk;exact hQ .normal _ _ _ _ h hk
   ·rename_i e;rw [if_neg e] at hk;exact hQ (.exit id') _ _ _ _ h hk
  |ret=>exact hQ .ret _ _ _ _ h hk
 |.loop x',c,s,a,w,F,Qc,Q,hc,h,hw,hQ=>by
  obtain ⟨x,rfl,h1⟩:=qR hc;obtain ⟨ι,mk,J,μ,⟨i0,h2,h4⟩,h3⟩:=hw
  have key:∀(n:Nat) (i:ι) (a:Act) (w:World) (F:Nat→List Nat),RelF B w0 N (mk i) a w F→J i→μ i<n→Code.rounds P x Q n a w:=by
   intro n
   induction n with
   |zero=>intro _ _ _ _ _ _ hlt;omega
   |succ n ih=>
    intro i a w F h hJ hlt;refine jaV h1 h (h3 i hJ) fun e s' a' w' F' h' hk=>?_
    cases e with
    |normal=>
     obtain ⟨i',k1,k2,k3⟩:=hk;obtain ⟨F2,k4,_⟩:=k2 _ _ _ _ _ _ h';exact ih _ _ _ _ k4 k1 (by omega)
    |exit id=>exact hQ (.exit id) _ _ _ _ h' hk
    |ret=>exact hQ .ret _ _ _ _ h' hk
  obtain ⟨F2,h5,_⟩:=h4 _ _ _ _ _ _ h;exact wp_loop_rounds _ (key (μ i0+1) _ _ _ _ h5 h2 (by omega))
 |.exit id,c,s,a,w,F,Qc,Q,hc,h,hw,hQ=>by
  have e:c=.exit id:=qR hc;subst e;exact wp_exit (hQ (.exit id) _ _ _ _ h hw)
 |.ret,c,s,a,w,F,Qc,Q,hc,h,hw,hQ=>by
  have e:c=.ret:=qR hc;subst e;exact wp_ret (hQ .ret _ _ _ _ h hw)
theorem jex:∀{c':C} {c:Code},comp P N c=some c'→c'.er=c'
 |.skip,_,_|.reg _,_,_|.dreg _,_,_|.exit _,_,_|.ret,_,_=>rfl
 |.seq a b,c,h=>by obtain ⟨x,y,_,h1,h2⟩:=qR h;simp only [C.er,jex h1,jex h2]
 |.cond x a b,c,h=>by obtain ⟨_,y,z,_,_,h1,h2⟩:=qR h;simp only [C.er,jex h1,jex h2]
 |.blk id a,c,h=>by obtain ⟨x,_,h1⟩:=qR h;simp only [C.er,jex h1]
 |.loop a,c,h=>by obtain ⟨x,_,h1⟩:=qR h;simp only [C.er,jex h1]
 |.gh a,c,h=>(qR h).elim
theorem jew:∀(p:List Nat) (c:C),(C.ghAt p c).er=c.er
 |[],c=>by cases c<;>rfl
 |0::p,.seq a b=>by simp only [C.ghAt,C.er,jew p a]
 |(k+1)::p,.seq a b=>by simp only [C.ghAt,C.er,jew p b]
 |0::p,.cond x a b=>by simp only [C.ghAt,C.er,jew p a]
 |(k+1)::p,.cond x a b=>by simp only [C.ghAt,C.er,jew p b]
 |k::p,.blk id a=>by simp only [C.ghAt,C.er,jew p a]
 |k::p,.loop a=>by simp only [C.ghAt,C.er,jew p a]
 |k::_,.skip=>by cases k<;>rfl
 |k::_,.reg _=>by cases k<;>rfl
 |k::_,.dreg _=>by cases k<;>rfl
 |k::_,.exit _=>by cases k<;>rfl
 |k::_,.ret=>by cases k<;>rfl
 |k::_,.gh _=>by cases k<;>rfl
def C.ghs (ps:List (List Nat)) (c:C):C:=ps.foldr C.ghAt c
theorem jAQ (ps:List (List Nat)) (c:C):(C.ghs ps c).er=c.er:=by
 induction ps with
 |nil=>rfl
 |cons p ps ih=>rw [show C.ghs (p::ps) c=C.ghAt p (C.ghs ps c) from rfl,jew,ih]
theorem jmf {c:Code} {c':C} (ps:List (List Nat)) (h:comp P N c=some c'):comp P N c=some (C.ghs ps c').er:=by rw [jAQ,jex h];exact h
theorem jqu {ds:List D} {x:Value} (h:ViewRel.CellsAt w ds x):A0Rel w.heap.size w (.rp ds) x:=by
 obtain ⟨b,o,us,S,h1,h2,h3⟩:=h;refine ⟨b,o,us,S,h1,h2,RepL.lt ds h2,fun hne=>?_,h3⟩
 have hl:=RepL.length ds h2;cases us with
 |nil=>exact absurd (List.eq_nil_of_length_eq_zero (by simpa using hl.symm)) hne
 |cons u us=>
  have:=h3 0 u rfl;unfold World.cell? at this;split at this
  ·rename_i hh;exact jbc hh
  all_goals simp at this
theorem juz:∀{caps:List (List D)} {xs:List Value},ViewRel.All2 w caps xs→A0RelL w.heap.size w (caps.map .rp) xs
 |[],_,h=>h
 |_::_,_,⟨x,xs',h1,h2,h3⟩=>⟨x,xs',h1,jqu h2,juz h3⟩
theorem jzU {d:D} {u:Value} {S:List Nat} (h:Rep w false d u S):A0Rel w.heap.size w d.toRo u:=by
 cases d with
 |val x=>exact h.1
 |sl size ty cs=>exact ⟨rfl,S,h,Rep.lt _ h⟩
theorem jwR:∀{ds:List D} {us:List Value} {S:List Nat},RepL w false ds us S→A0RelL w.heap.size w (ds.map D.toRo) us
 |[],_,_,⟨h,_⟩=>h
 |_::_,_,_,⟨u,us',S1,S2,h1,_,h3,h4⟩=>⟨u,us',h1,jzU h3,jwR h4⟩
theorem jxp:∀{v:View} {x:Value},ViewRel w v x→VRel w.heap.size w v.av x
 |.c d,x,⟨S,h⟩=>jzU h
 |.agg ds,x,⟨S,us,h1,h2⟩=>⟨us,h1,jwR h2⟩
 |.ptr ds,x,h=>jqu h
 |.fn f caps,x,⟨xs,h1,h2⟩=>⟨xs,h1,juz h2⟩
theorem jmy:∀{vs:List View} {xs:List Value},zx w vs xs→xs.length=vs.length∧∀(n:Nat) (v:View) (x:Value),vs[n]?=some v→xs[n]?=some x→ViewRel w v x
 |[],_,h=>by rw [show _=_ from h];simp
 |v::vs,_,⟨x,xs',h1,h2,h3⟩=>by
  subst h1;obtain ⟨h4,h5⟩:=jmy h3;refine ⟨by simp [h4],fun n v' x' hv hx=>?_⟩
  cases n with
  |zero=>simp at hv hx;subst hv hx;exact h2
  |succ n=>exact h5 n v' x' (by simpa using hv) (by simpa using hx)
theorem jsB {vs:List View} {xs:List Value} (hv:zx w vs xs) (hN:vs.length≤N):
 RelF w.heap.size w N (St.init vs) {tmps:=xs.toArray++Array.replicate (N-xs.toArray.size) undef,defers:=[]} w (fun _=>[]):=by
 obtain ⟨hl,hg⟩:=jmy hv;refine ⟨Below.refl _ _,Nat.le_refl _,rfl,by simp;omega,fun n=>?_,fun _=>rfl,fun _=>Fresh.nil _,fun _ _ _ _ h=>by simp at h⟩
 simp only [St.init];cases hvn:vs[n]? with
 |none=>simp [hvn,VRel]
 |some v=>
  have hlt:n<vs.length:=(List.getElem?_eq_some_iff.1 hvn).1;have hlx:n<xs.length:=by omega
  have hxn:xs[n]?=some xs[n]:=List.getElem?_eq_getElem hlx;have:=jxp (hg n v _ hvn hxn)
  have e:(xs.toArray++Array.replicate (N-xs.toArray.size) undef).getD n undef=xs[n]:=by
   simp [Array.getD_eq_getD_getElem?,Array.getElem?_append,hlx]
  simp only [List.getElem?_map,hvn,Option.map_some,Option.getD_some];rw [e];exact this
theorem jlZ:∀{cs:List Cell} {us:List Value} {S:List Nat} {ds:List D},CRel B w cs us S→IsD cs ds→RepL w true ds us S
 |[],us,S,ds,h,hd=>by rw [show ds=[] from hd];exact h
 |.a x::cs,us,S,ds,⟨u,us',h1,h2,h3⟩,hd=>by
  cases x with
  |v x=>
   cases ds with
   |nil=>exact hd.elim
   |cons d ds=>
    obtain ⟨h4,h5⟩:=hd;subst h1;have h6:=jlZ h3 h5;rw [show u=x from h2]
    rcases h4 with rfl|⟨rfl,size,ty,rfl⟩
    ·exact RepL.val_ h6
    ·exact RepL.cons_ (S1:=[]) (Rep.nil_ w size ty) h6
  |_=>cases ds<;>exact hd.elim
 |.own d η::cs,us,S,ds,⟨u,us',S1,S2,h1,h2,_,h4,_,h6⟩,hd=>by
  cases ds with
  |nil=>exact hd.elim
  |cons d' ds=>
   obtain ⟨rfl,h5⟩:=hd;subst h1 h2;exact RepL.cons_ h4 (jlZ h6 h5)
def jpj:List (Bool×List A0)→List Value→List Value→Prop
 |[],vals,us=>vals=[]∧us=[]
 |(b,az)::ps,vals,us=>∃v vals' xs us',vals=v::vals'∧us=xs++us'∧xs.length=az.length∧(if b then v=.agg xs.toArray else xs=[v])∧jpj ps vals' us'
def jkG (tmps:Array Value):ResultVar→Sem Value
 |.tmp t=>pure (tmps.getD t undef)
 |.cell x t=>do loadVar t (←asAddr (tmps.getD x undef))
theorem jgg (fn:Func) (tmps:Array Value):results fn tmps=(do let vs←fn.results.mapM (jkG tmps);pure (if h:vs.size=1 then vs[0] else .tuple vs)):=by
 unfold results
 congr 1
theorem A0RelL.app:∀{l m:List A0} {us vs:List Value},A0RelL B w l us→A0RelL B w m vs→A0RelL B w (l++m) (us++vs)
 |[],_,_,_,h1,h2=>by rw [show _=_ from h1];exact h2
 |_::_,_,_,_,⟨u,us',h1,h2,h3⟩,h4=>by subst h1;exact ⟨u,_,rfl,h2,h3.app h4⟩
theorem jgh (h:RelF B w0 N s a w F):∀{rs:List ResultVar} {rs':List R} {K:List (Bool×List A0)→Prop},jjj P N rs=some rs'→jhv s rs' K→
 ∃ps vals us,K ps∧A0RelL B w (ps.flatMap (·.2)) us∧jpj ps vals us∧(rs.mapM (jkG a.tmps)).run P w=.ok vals w
 |[],rs',K,hc,hk=>by
  simp [jjj] at hc;subst hc;exact ⟨[],[],[],hk,rfl,⟨rfl,rfl⟩,by simp⟩
 |.tmp n::rs,rs',K,hc,hk=>by
  simp only [jjj] at hc;split at hc
  ·simp only [Option.map_eq_some_iff] at hc
   obtain ⟨r,h1,rfl⟩:=hc;simp only [jhv] at hk;have hv:=h.sl n;split at hk
   ·rename_i l he
    rw [he] at hv;obtain ⟨xs,k1,k2⟩:=hv;obtain ⟨ps,vals,us,k3,k4,k5,k6⟩:=jgh h h1 hk;refine ⟨_,.agg xs.toArray::vals,xs++us,k3,A0RelL.app k2 k4,⟨_,_,xs,us,rfl,rfl,k2.len,by simp,k5⟩,?_⟩
    simp [List.mapM_cons,jkG,k1,k6]
   ·rename_i a0 he
    rw [he] at hv;obtain ⟨ps,vals,us,k3,k4,k5,k6⟩:=jgh h h1 hk;refine ⟨_,a.tmps.getD n undef::vals,_::us,k3,⟨_,us,rfl,hv,k4⟩,⟨_,_,[_],us,rfl,rfl,rfl,by simp,k5⟩,?_⟩
    simp [List.mapM_cons,jkG,k6]
   ·exact hk.elim
  ·simp at hc
 |.cell n t::rs,rs',K,hc,hk=>by
  simp only [jjj] at hc
  have key:∀{dsc:TypeDesc} {agg:Bool} {k:Nat} {r:List R},P.underlying t=some dsc→agg=jBh dsc→qf P t=some k→jjj P N rs=some r→jhv s (.cell n agg k::r) K→
   ∃ps vals us,K ps∧A0RelL B w (ps.flatMap (·.2)) us∧jpj ps vals us∧((ResultVar.cell n t::rs).mapM (jkG a.tmps)).run P w=.ok vals w:=by
   intro dsc agg k r ht hagg hn hr hk;obtain ⟨l,h1,h2,h3⟩:=hk;obtain ⟨b,o,xs,e1,e2,e3,e4,e5⟩:=jpZ h (h.sl n) h1;obtain ⟨ps,vals,us,k3,k4,k5,k6⟩:=jgh h hr h3
   obtain ⟨v,hv⟩:∃v,if agg then v=.agg xs.toArray else xs=[v]:=by
    cases agg with
    |true=>exact ⟨_,rfl⟩
    |false=>
     have h4:l.length=1:=by simpa using h2
     have:xs.length=1:=by omega
     obtain ⟨v,rfl⟩:=List.length_eq_one_iff.1 this;exact ⟨v,by simp⟩
   have hrun:=jlU (P:=P) ht hagg hn e2 e4 hv;refine ⟨_,v::vals,xs++us,k3,A0RelL.app e5 k4,⟨_,_,xs,us,rfl,rfl,by omega,hv,k5⟩,?_⟩
   simp [List.mapM_cons,jkG,e1,asAddr,hrun,k6]
  split at hc
  ·split at hc
   ·rename_i fs k r h1 h2 h3
    simp at hc;subst hc;exact key h1 rfl h2 h3 hk
   ·simp at hc
   ·rename_i dsc k r hn1 hn2 h1 h2 h3
    simp at hc;subst hc;refine key h1 ?_ h2 h3 hk;cases dsc<;>simp_all [jBh]
   ·simp at hc
  ·simp at hc
theorem jiE:∀{l:List (Bool×List D)} {ps:List (Bool×List A0)} {vals us:List Value} {S:List Nat},jpj ps vals us→ps.map (fun p=>(p.1,p.2.length))=l.map (fun p=>(p.1,p.2.length))→RepL w true (l.flatMap (·.2)) us S→jqK w l vals S
 |[],ps,vals,us,S,h,he,hr=>by
  cases ps with
  |nil=>obtain ⟨rfl,rfl⟩:=h;exact ⟨rfl,hr.2⟩
  |cons p ps=>simp at he
 |(b,ds)::l,ps,vals,us,S,h,he,hr=>by
  cases ps with
  |nil=>simp at he
  |cons p ps=>
   obtain ⟨b',az⟩:=p;simp at he;obtain ⟨⟨rfl,e1⟩,e2⟩:=he;obtain ⟨v,vals',xs,us',rfl,rfl,h3,h4,h5⟩:=h;simp only [List.flatMap_cons] at hr;obtain ⟨v1,v2,S1,S2,e3,rfl,h6,h7⟩:=RepL.append_inv _ hr;have hl:=RepL.length _ h6;obtain ⟨rfl,rfl⟩:=List.append_inj e3 (by omega)
   exact ⟨v,vals',xs,S1,S2,rfl,rfl,h6,h4,jiE h5 e2 h7⟩
theorem jud (h:RelF B w0 N s a w F) {fn:Func} {rs:List R} {rt:RT} (hc:jjj P N fn.results.toList=some rs) (hq:jwD rs rt s):
 ∃v S,(results fn a.tmps).run P w=.ok v w∧jjL w rt v S∧Fresh B S:=by
 obtain ⟨ps,vals,us,⟨h1,h2⟩,h3,h4,h5⟩:=jgh h hc hq;obtain ⟨cs,s',S,F',k1,k2,k3,k4,_⟩:=jbr h h3 h2;have hr:=jlZ k2 k1
 have hrun:(results fn a.tmps).run P w=.ok (if hs:vals.toArray.size=1 then vals.toArray[0] else .tuple vals.toArray) w:=by
  rw [jgg,Array.mapM_eq_mapM_toList];simp [h5]
 cases rt with
 |c d=>
  obtain ⟨a0,rfl⟩:=h1;obtain ⟨v,vals',xs,us',rfl,rfl,e1,e2,⟨rfl,rfl⟩⟩:=h4;simp at e2;subst e2;obtain ⟨u,us'',S1,S2,e3,rfl,e5,⟨rfl,rfl⟩⟩:=hr;simp at e3;subst e3;exact ⟨v,S1++[],by simpa using hrun,(by simpa using e5:Rep w true d v (S1++[])),k4⟩
 |agg ds=>
  obtain ⟨l,rfl⟩:=h1;obtain ⟨v,vals',xs,us',rfl,rfl,e1,e2,⟨rfl,rfl⟩⟩:=h4;simp at e2;subst e2;exact ⟨_,S,by simpa using hrun,⟨xs,rfl,by simpa [RT.flat] using hr⟩,k4⟩
 |tup l=>
  obtain ⟨hne,h1⟩:=h1
  have hlen:vals.length=ps.length:=by
   have:∀{ps:List (Bool×List A0)} {vals us:List Value},jpj ps vals us→vals.length=ps.length:=by
    intro ps
    induction ps with
    |nil=>intro vals us h;rw [h.1];rfl
    |cons p ps ih=>obtain ⟨b,az⟩:=p;rintro vals us ⟨v,vals',xs,us',rfl,_,_,_,h⟩;simp [ih h]
   exact this h4
  refine ⟨_,S,hrun,⟨vals,?_,jiE h4 h1 hr⟩,k4⟩;rw [dif_neg (by simpa [hlen] using hne)]
theorem jx5 {f:FuncId} {fn:Func} {c:Code} {c':C} {vs:List View} {rs:List R} {rt:RT} (hf:P.funcs[f]?=some fn) (hb:fn.body=some c) (hn:(fn.name != "runtime.NumGoroutine")=true)
 (hc:comp P fn.ntmps c=some c'.er) (hr:jjj P fn.ntmps fn.results.toList=some rs) (hN:vs.length≤fn.ntmps) (hw:wpC P 0 c' (jwS rs rt) (St.init vs)):kp P f vs rt:=by
 refine ⟨⟨fn,hf,by rw [hb];rfl,hn⟩,fun w xs hv=>calls_of_wp hf hb (jaV hc (jsB hv hN) hw fun e s a w' F h hk=>?_)⟩
 cases e with
 |exit id=>exact hk.elim
 |normal=>
  obtain ⟨v,S,k1,k2,k3⟩:=jud h hr hk;exact ⟨h.df,v,k1,v,S,rfl,k2,k3,h.below⟩
 |ret=>
  obtain ⟨v,S,k1,k2,k3⟩:=jud h hr hk;exact ⟨h.df,v,k1,v,S,rfl,k2,k3,h.below⟩
theorem zh (ps:List (List Nat)) {f:FuncId} {fn:Func} {c:C} {vs:List View} {rs:List R} {rt:RT} (hf:P.funcs[f]?=some fn) (hc:fnC P fn=some (c,rs,N)) (hN:vs.length≤N) (hw:wpC P 0 (C.ghs ps c) (jwS rs rt) (St.init vs)):kp P f vs rt:=by
 unfold fnC at hc;split at hc
 ·rename_i b hb
  split at hc
  ·rename_i hn
   split at hc
   ·rename_i c' rs' h1 h2
    simp only [Option.some.injEq,Prod.mk.injEq] at hc;obtain ⟨rfl,rfl,rfl⟩:=hc;exact jx5 hf hb hn (jmf ps h1) h2 hN hw
   ·simp at hc
  ·simp at hc
 ·simp at hc
theorem js {f:FuncId} {fn:Func} {c:C} {vs:List View} {rs:List R} {rt:RT} (hf:P.funcs[f]?=some fn) (hc:fnC P fn=some (c,rs,N)) (hN:vs.length≤N) (hw:wpC P 0 c (jwS rs rt) (St.init vs)):kp P f vs rt:=zh [] hf hc hN hw
theorem jpl:∀{args:List AV} {xs:List Value},jjK B w args xs→xs.length=args.length∧∀(n:Nat) (v:AV) (x:Value),args[n]?=some v→xs[n]?=some x→VRel B w v x
 |[],_,h=>by rw [show _=_ from h];simp
 |v::vs,_,⟨x,xs',h1,h2,h3⟩=>by
  subst h1;obtain ⟨h4,h5⟩:=jpl h3;refine ⟨by simp [h4],fun n v' x' hv hx=>?_⟩
  cases n with
  |zero=>simp at hv hx;subst hv hx;exact h2
  |succ n=>exact h5 n v' x' (by simpa using hv) (by simpa using hx)
theorem jkp {args:List AV} {xs:List Value} {o:Nat→Ob} (h:RelF B w 0 (.only o) Act.bare w F) (hv:jjK B w args xs) (hN:args.length≤N):
 RelF B w N (St.start args o) {tmps:=xs.toArray++Array.replicate (N-xs.toArray.size) undef,defers:=[]} w F:=by
 obtain ⟨hl,hg⟩:=jpl hv;refine ⟨Below.refl _ _,h.hB,rfl,by simp;omega,fun n=>?_,h.ob,h.fr,h.dj⟩
 simp only [St.start];cases hvn:args[n]? with
 |none=>simp [hvn,VRel]
 |some v=>
  have hlt:n<args.length:=(List.getElem?_eq_some_iff.1 hvn).1;have hlx:n<xs.length:=by omega
  have hxn:xs[n]?=some xs[n]:=List.getElem?_eq_getElem hlx;have:=hg n v _ hvn hxn
  have e:(xs.toArray++Array.replicate (N-xs.toArray.size) undef).getD n undef=xs[n]:=by
   simp [Array.getD_eq_getD_getElem?,Array.getElem?_append,hlx]
  simp only [Option.getD_some];rw [e];exact this
theorem jqj (h:RelF B w0 N s a w F) {fn:Func} {rs:List R} {R:RT→(Nat→Ob)→Prop} (hc:jjj P N fn.results.toList=some rs) (hq:RetT rs R s):
 ∃v rt o' S,∃F':Nat→List Nat,(results fn a.tmps).run P w=.ok v w∧jjL w rt v S∧Fresh B S∧(∀g,∀b∈S,b∉F' g)∧(∀g,ORel B w (o' g) (F' g))∧(∀g,Fresh B (F' g))∧(∀g g',g≠g'→∀b∈F' g,b∉F' g')∧R rt o':=by
 obtain ⟨ps,vals,us,⟨rt,h1,h2⟩,h3,h4,h5⟩:=jgh h hc hq;obtain ⟨cs,s',S,F',⟨k1,kR⟩,k2,k3,k4,k6,_⟩:=jbr h h3 h2;have hr:=jlZ k2 k1
 have hrun:(results fn a.tmps).run P w=.ok (if hs:vals.toArray.size=1 then vals.toArray[0] else .tuple vals.toArray) w:=by
  rw [jgg,Array.mapM_eq_mapM_toList];simp [h5]
 have fin:∀v S,(results fn a.tmps).run P w=.ok v w→jjL w rt v S→Fresh B S→(∀g,∀b∈S,b∉F' g)→∃v rt o' S,∃F':Nat→List Nat,(results fn a.tmps).run P w=.ok v w∧jjL w rt v S∧Fresh B S∧(∀g,∀b∈S,b∉F' g)∧(∀g,ORel B w (o' g) (F' g))∧(∀g,Fresh B (F' g))∧(∀g g',g≠g'→∀b∈F' g,b∉F' g')∧R rt o':=
  fun v S m1 m2 m3 m4=>⟨v,rt,s'.o,S,F',m1,m2,m3,m4,k3.ob,k3.fr,k3.dj,kR⟩
 cases rt with
 |c d=>
  obtain ⟨a0,rfl⟩:=h1;obtain ⟨v,vals',xs,us',rfl,rfl,e1,e2,⟨rfl,rfl⟩⟩:=h4;simp at e2;subst e2;obtain ⟨u,us'',S1,S2,e3,rfl,e5,⟨rfl,rfl⟩⟩:=hr;simp at e3;subst e3;exact fin v (S1++[]) (by simpa using hrun) (by simpa using e5:Rep w true d v (S1++[])) k4 k6
 |agg ds=>
  obtain ⟨l,rfl⟩:=h1;obtain ⟨v,vals',xs,us',rfl,rfl,e1,e2,⟨rfl,rfl⟩⟩:=h4;simp at e2;subst e2;exact fin _ S (by simpa using hrun) ⟨xs,rfl,by simpa [RT.flat] using hr⟩ k4 k6
 |tup l=>
  obtain ⟨hne,h1⟩:=h1
  have hlen:vals.length=ps.length:=by
   have:∀{ps:List (Bool×List A0)} {vals us:List Value},jpj ps vals us→vals.length=ps.length:=by
    intro ps
    induction ps with
    |nil=>intro vals us h;rw [h.1];rfl
    |cons p ps ih=>obtain ⟨b,az⟩:=p;rintro vals us ⟨v,vals',xs,us',rfl,_,_,_,h⟩;simp [ih h]
   exact this h4
  exact fin _ S hrun ⟨vals,by rw [dif_neg (by simpa [hlen] using hne)],jiE h4 h1 hr⟩ k4 k6
theorem ju2 (ps:List (List Nat)) {f:FuncId} {fn:Func} {c:C} {args:List AV} {o:Nat→Ob} {rs:List R} {R:RT→(Nat→Ob)→Prop} (hf:P.funcs[f]?=some fn) (hc:fnC P fn=some (c,rs,N)) (hN:args.length≤N) (hw:wpC P β (C.ghs ps c) (jze rs R) (St.start args o)):Turns P f args o R:=by
 unfold fnC at hc;split at hc
 ·rename_i b hb
  split at hc
  ·rename_i hn
   split at hc
   ·rename_i c' rs' h1 h2
    simp only [Option.some.injEq,Prod.mk.injEq] at hc;obtain ⟨rfl,rfl,rfl⟩:=hc;refine ⟨⟨fn,hf,by rw [hb];rfl,hn⟩,fun B w F xs hF hv=>calls_of_wp hf hb (jaV (jmf ps h1) (jkp hF hv hN) hw fun e s a w' F' h hk=>?_)⟩
    cases e with
    |exit id=>exact hk.elim
    |normal=>
     obtain ⟨v,rt,o',S,F2,k1,k2,k3,k4,k5,k6,k7,k8⟩:=jqj h h2 hk;exact ⟨h.df,v,k1,v,rt,o',S,F2,rfl,⟨h.below,h.hB,rfl,rfl,fun _=>trivial,k5,k6,k7⟩,k2,k3,k4,k8⟩
    |ret=>
     obtain ⟨v,rt,o',S,F2,k1,k2,k3,k4,k5,k6,k7,k8⟩:=jqj h h2 hk;exact ⟨h.df,v,k1,v,rt,o',S,F2,rfl,⟨h.below,h.hB,rfl,rfl,fun _=>trivial,k5,k6,k7⟩,k2,k3,k4,k8⟩
   ·simp at hc
  ·simp at hc
 ·simp at hc
theorem jia {f:FuncId} {fn:Func} {c:C} {args:List AV} {o:Nat→Ob} {rs:List R} {R:RT→(Nat→Ob)→Prop} (hf:P.funcs[f]?=some fn) (hc:fnC P fn=some (c,rs,N)) (hN:args.length≤N) (hw:wpC P β c (jze rs R) (St.start args o)):Turns P f args o R:=ju2 [] hf hc hN hw
theorem jwO:∀{ps:List (Bool×List A0)} {vals us:List Value},jpj ps vals us→A0RelL B w (ps.flatMap (·.2)) us→TRelL B w ps vals
 |[],vals,us,⟨h1,_⟩,_=>h1
 |(b,az)::ps,vals,us,⟨v,vals',xs,us',h1,h2,h3,h4,h5⟩,hr=>by
  subst h1 h2;simp only [List.flatMap_cons] at hr
  have key:∀{l m:List A0} {xs ys:List Value},xs.length=l.length→A0RelL B w (l++m) (xs++ys)→A0RelL B w l xs∧A0RelL B w m ys:=by
   intro l
   induction l with
   |nil=>intro m xs ys hl h;obtain rfl:xs=[]:=List.eq_nil_of_length_eq_zero hl;exact ⟨rfl,h⟩
   |cons x l ih=>
    intro m xs ys hl h;cases xs with
    |nil=>simp at hl
    |cons y xs=>
     obtain ⟨u,us',e1,e2,e3⟩:=h;simp only [List.cons_append,List.cons.injEq] at e1;obtain ⟨rfl,rfl⟩:=e1;obtain ⟨k1,k2⟩:=ih (by simpa using hl) e3
     exact ⟨⟨y,xs,rfl,e2,k1⟩,k2⟩
  obtain ⟨k1,k2⟩:=key h3 hr;exact ⟨v,vals',xs,rfl,k1,h4,jwO h5 k2⟩
theorem jkQ (ps:List (List Nat)) {f:FuncId} {fn:Func} {c:C} {args:List AV} {o:Nat→Ob} {rs:List R} {R:AV→(Nat→Ob)→Prop} (hf:P.funcs[f]?=some fn) (hc:fnC P fn=some (c,rs,N)) (hN:args.length≤N) (hw:wpC P β (C.ghs ps c) (jBr rs R) (St.start args o)):Inl P f args o R:=by
 unfold fnC at hc;split at hc
 ·rename_i b hb
  split at hc
  ·rename_i hn
   split at hc
   ·rename_i c' rs' h1 h2
    simp only [Option.some.injEq,Prod.mk.injEq] at hc;obtain ⟨rfl,rfl,rfl⟩:=hc
    have fin:∀{s:St} {a:Act} {w w':World} {F':Nat→List Nat} {B:Nat},RelF B w fn.ntmps s a w' F'→jse rs' R s→∃v,(results fn a.tmps).run P w'=.ok v w'∧∃av o',∃F2:Nat→List Nat,RelF B w 0 (.only o') Act.bare w' F2∧VRel B w' av v∧R av o':=fun {s a w w' F' B} h hk=>by
     obtain ⟨ps,vals,us,k1,k2,k3,k4⟩:=jgh h h2 hk
     have hrun:(results fn a.tmps).run P w'=.ok (if hs:vals.toArray.size=1 then vals.toArray[0] else .tuple vals.toArray) w':=by
      rw [jgg,Array.mapM_eq_mapM_toList];simp [k4]
     have hob:RelF B w 0 (.only s.o) Act.bare w' F':=⟨h.below,h.hB,rfl,rfl,fun _=>trivial,h.ob,h.fr,h.dj⟩
     have hsp:=jwO k3 k2
     match ps,k1,hsp with
     |[],k1,hsp=>
      obtain rfl:vals=[]:=hsp;exact ⟨_,hrun,.tup [],s.o,F',hob,⟨[],by simp,rfl⟩,k1⟩
     |[(true,l)],k1,⟨v,vals',xs,e1,e2,e3,e4⟩=>
      obtain rfl:vals'=[]:=e4;subst e1;exact ⟨v,by simpa using hrun,.agg l,s.o,F',hob,⟨xs,by simpa using e3,e2⟩,k1⟩
     |[(false,[a0])],k1,⟨v,vals',xs,e1,e2,e3,e4⟩=>
      obtain rfl:vals'=[]:=e4;subst e1;obtain rfl:xs=[v]:=by simpa using e3
      obtain ⟨u,us',e5,e6,_⟩:=e2;cases e5;exact ⟨v,by simpa using hrun,.c a0,s.o,F',hob,e6,k1⟩
     |p::q::r,k1,hsp=>
      have hl:vals.length≠1:=by
       obtain ⟨_,vals',_,e1,_,_,e4⟩:=hsp;obtain ⟨_,vals'',_,e5,_,_,_⟩:=e4;subst e1 e5;simp
      have k1':R (.tup (p::q::r)) s.o:=by
       obtain ⟨b,l⟩:=p;cases b
       ·cases l with
        |nil=>exact k1
        |cons x l=>cases l<;>exact k1
       ·exact k1
      exact ⟨_,by rw [hrun,dif_neg (by simpa using hl)],.tup (p::q::r),s.o,F',hob,⟨vals,rfl,hsp⟩,k1'⟩
    refine ⟨⟨fn,hf,by rw [hb];rfl,hn⟩,fun B w F xs hF hv=>calls_of_wp hf hb (jaV (jmf ps h1) (jkp hF hv hN) hw fun e s a w' F' h hk=>?_)⟩
    cases e with
    |exit id=>exact hk.elim
    |normal=>
     obtain ⟨v,k1,av,o',F2,k2,k3,k4⟩:=fin h hk;exact ⟨h.df,v,k1,v,av,o',F2,rfl,k2,k3,k4⟩
    |ret=>
     obtain ⟨v,k1,av,o',F2,k2,k3,k4⟩:=fin h hk;exact ⟨h.df,v,k1,v,av,o',F2,rfl,k2,k3,k4⟩
   ·simp at hc
  ·simp at hc
 ·simp at hc
theorem ql {f:FuncId} {fn:Func} {c:C} {args:List AV} {o:Nat→Ob} {rs:List R} {R:AV→(Nat→Ob)→Prop} (hf:P.funcs[f]?=some fn) (hc:fnC P fn=some (c,rs,N)) (hN:args.length≤N) (hw:wpC P β c (jBr rs R) (St.start args o)):Inl P f args o R:=jkQ [] hf hc hN hw
end
end Go.Proofs.YtmnpailnelmpiaaGreat
